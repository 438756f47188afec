import PyProof.Rows.All
import Wide.All
import OpenK.AllK
import Wide.FinOn
import HandS.ForMost
import HandS.ForExc
import HandS.Lambda
import HandS.Defaults
import HandS.Wide
import HandS.TupAny
import HandS.Deep
import HandS.IsInst
import HandS.ExcInit
import HandS.ClsMeth
import HandS.More
import KE.KSuper
import KE.KExcSuper
import HandS.List
import HandS.Star
import KE.KTypeName
import HandS.Comp
import HandS.Iter
import HandS.Zip
import HandS.Codes
import HandS.Small
import KE.KAssignIn
import HandS.Text
import HandS.Conv
import HandS.HeadHook3
import HandS.ExcIs
import HandS.ExcField
import HandS.SetFor
import HandS.HeadHook4
import HandS.Head0
import HandS.Head1
import HandS.Head2
import PySem.Challenge.RW_elasticsheets_k89_texts_of_papers_that_c
import HandS.Words
import HandS.HeadWalk
import HandS.EndTab
set_option Elab.async false
set_option linter.all false
set_option maxRecDepth 100000
set_option maxHeartbeats 2000000
/-! Sim, part 1: values and heap of the mirror, how they lie in the tracked heap, results. -/
namespace Sm
open PySem PySem.Spec PyProof.Rows L2

/-! ### values, objects -/
/-- a value of the mirror: tuples by value; ref: an index of the mirror's heap; glo: a class or def of the module, by number -/
inductive U where
  | non | bl (b : Bool) | int (i : Int) | str (s : List Nat) | tup (xs : List U) | ref (i : Nat) | ty (n : String) | glo (i : Nat) | frz (xs : List U)
/-- a flat key of a dict -/
abbrev Ky := Sum Int (List Nat)
inductive O where
  | lst (xs : List U) | dic (kvs : List (Ky × U)) | ins (c : Nat) (fs : List (Nat × U))
/-- a tree of objects: 0 at the root, odd ones left, even ones right -/
inductive Tr where
  | nil | node (v : O) (l r : Tr)
def Tr.get : Tr → Nat → Option O
  | .nil, _ => none
  | .node v l r, i => match Nat.beq i 0 with
    | true => some v
    | false => match Nat.beq (i % 2) 1 with
      | true => l.get (i / 2)
      | false => r.get (i / 2 - 1)
def Tr.put : Tr → Nat → O → Tr
  | .nil, _, o => .node o .nil .nil
  | .node v l r, i, o => match Nat.beq i 0 with
    | true => .node o l r
    | false => match Nat.beq (i % 2) 1 with
      | true => .node v (l.put (i / 2) o) r
      | false => .node v l (r.put (i / 2 - 1) o)
/-- just the places below n are there -/
def Tr.Full (t : Tr) (n : Nat) : Prop := ∀ i, (t.get i).isSome = true ↔ i < n
theorem Tr.get_node (v : O) (l r : Tr) (i : Nat) : (Tr.node v l r).get i = if i = 0 then some v else if i % 2 = 1 then l.get (i / 2) else r.get (i / 2 - 1) := by
  show (match Nat.beq i 0 with | true => some v | false => match Nat.beq (i % 2) 1 with | true => l.get (i / 2) | false => r.get (i / 2 - 1)) = _
  rw [PySem.W.BT.beq_eq, PySem.W.BT.beq_eq]
  by_cases h : i = 0
  · simp [h]
  · by_cases q : i % 2 = 1 <;> simp [h, q]
theorem Tr.put_node (v : O) (l r : Tr) (i : Nat) (o : O) : (Tr.node v l r).put i o = if i = 0 then .node o l r else if i % 2 = 1 then .node v (l.put (i / 2) o) r else .node v l (r.put (i / 2 - 1) o) := by
  show (match Nat.beq i 0 with | true => Tr.node o l r | false => match Nat.beq (i % 2) 1 with | true => Tr.node v (l.put (i / 2) o) r | false => Tr.node v l (r.put (i / 2 - 1) o)) = _
  rw [PySem.W.BT.beq_eq, PySem.W.BT.beq_eq]
  by_cases h : i = 0
  · simp [h]
  · by_cases q : i % 2 = 1 <;> simp [h, q]
theorem Tr.full_left {v : O} {l r : Tr} {n : Nat} (h : (Tr.node v l r).Full n) : l.Full (n / 2) := fun i => by
  have q := h (2 * i + 1)
  rw [Tr.get_node, if_neg (by omega), if_pos (by omega), show (2 * i + 1) / 2 = i by omega] at q
  rw [q]; omega
theorem Tr.full_right {v : O} {l r : Tr} {n : Nat} (h : (Tr.node v l r).Full n) : r.Full ((n - 1) / 2) := fun i => by
  have q := h (2 * i + 2)
  rw [Tr.get_node, if_neg (by omega), if_neg (by omega), show (2 * i + 2) / 2 - 1 = i by omega] at q
  rw [q]; omega
/-- put, at a place that is there or at the next one -/
theorem Tr.get_put : ∀ (t : Tr) (n i : Nat) (o : O), t.Full n → i ≤ n → ∀ j, (t.put i o).get j = if j = i then some o else t.get j
  | .nil, n, i, o, h, hi, j => by
    have hn : n = 0 := by
      cases n with
      | zero => rfl
      | succ n =>
        have q := (h 0).mpr (by omega)
        exact absurd q (by simp [Tr.get])
    have e : i = 0 := by omega
    subst e
    show (Tr.node o .nil .nil).get j = _
    rw [Tr.get_node]
    by_cases hj : j = 0
    · rw [if_pos hj, if_pos hj]
    · rw [if_neg hj, if_neg hj]
      split <;> rfl
  | .node v l r, n, i, o, h, hi, j => by
    rw [Tr.put_node]
    have n0 : 0 < n := (h 0).mp (by rw [Tr.get_node, if_pos rfl]; rfl)
    by_cases h0 : i = 0
    · rw [if_pos h0, Tr.get_node, Tr.get_node]
      by_cases hj : j = 0
      · rw [if_pos hj, if_pos (by omega)]
      · rw [if_neg hj, if_neg hj, if_neg (show ¬ j = i by omega)]
    · rw [if_neg h0]
      by_cases ho : i % 2 = 1
      · rw [if_pos ho, Tr.get_node, Tr.get_node]
        by_cases hj : j = 0
        · rw [if_pos hj, if_neg (by omega), if_pos hj]
        · rw [if_neg hj, if_neg hj]
          by_cases hq : j % 2 = 1
          · rw [if_pos hq, if_pos hq, Tr.get_put l (n / 2) (i / 2) o (Tr.full_left h) (by omega)]
            by_cases e : j = i
            · rw [if_pos e, if_pos (by omega)]
            · rw [if_neg e, if_neg (by omega)]
          · rw [if_neg hq, if_neg hq, if_neg (by omega)]
      · rw [if_neg ho, Tr.get_node, Tr.get_node]
        by_cases hj : j = 0
        · rw [if_pos hj, if_neg (by omega), if_pos hj]
        · rw [if_neg hj, if_neg hj]
          by_cases hq : j % 2 = 1
          · rw [if_pos hq, if_pos hq, if_neg (by omega)]
          · rw [if_neg hq, if_neg hq, Tr.get_put r ((n - 1) / 2) (i / 2 - 1) o (Tr.full_right h) (by omega)]
            by_cases e : j = i
            · rw [if_pos e, if_pos (by omega)]
            · rw [if_neg e, if_neg (by omega)]
/-- the mirror's heap -/
structure Hs where
  n : Nat
  t : Tr
def Hs.wf (h : Hs) : Prop := h.t.Full h.n
def Hs.get (h : Hs) (i : Nat) : Option O := h.t.get i
def Hs.put (h : Hs) (i : Nat) (o : O) : Hs := ⟨h.n, h.t.put i o⟩
def Hs.new (h : Hs) (o : O) : Hs := ⟨Nat.succ h.n, h.t.put h.n o⟩
def Hs.nil : Hs := ⟨0, .nil⟩
section
variable {h : Hs} {i j : Nat} {o : O}
theorem Hs.wf_nil : Hs.nil.wf := fun i => by
  show (Tr.nil.get i).isSome = true ↔ i < 0
  simp [Tr.get]
theorem Hs.lt (w : h.wf) (e : h.get i = some o) : i < h.n := (w i).mp (by
  have e' : h.t.get i = some o := e
  rw [e'] <;> rfl)
theorem Hs.get_put (w : h.wf) (hi : i < h.n) : (h.put i o).get j = if j = i then some o else h.get j := Tr.get_put h.t h.n i o w (Nat.le_of_lt hi) j
theorem Hs.get_new (w : h.wf) : (h.new o).get j = if j = h.n then some o else h.get j := Tr.get_put h.t h.n h.n o w (Nat.le_refl _) j
theorem Hs.wf_put (w : h.wf) (hi : i < h.n) : (h.put i o).wf := fun j => by
  have e : (h.put i o).t.get j = if j = i then some o else h.get j := Hs.get_put w hi
  rw [e]
  show _ ↔ j < h.n
  by_cases hj : j = i
  · rw [if_pos hj]
    exact ⟨fun _ => by omega, fun _ => rfl⟩
  · rw [if_neg hj]
    exact w j
theorem Hs.wf_new (w : h.wf) : (h.new o).wf := fun j => by
  have e : (h.new o).t.get j = if j = h.n then some o else h.get j := Hs.get_new w
  rw [e]
  show _ ↔ j < h.n + 1
  by_cases hj : j = h.n
  · rw [if_pos hj]
    exact ⟨fun _ => by omega, fun _ => rfl⟩
  · rw [if_neg hj]
    exact (w j).trans (by omega)
theorem Hs.put_n : (h.put i o).n = h.n := rfl
theorem Hs.new_n : (h.new o).n = h.n + 1 := rfl
theorem Hs.get_new_same (w : h.wf) : (h.new o).get h.n = some o := by rw [Hs.get_new w, if_pos rfl]
theorem Hs.get_new_old (w : h.wf) (e : h.get j = some o') : (h.new o).get j = some o' := by
  rw [Hs.get_new w, if_neg (Nat.ne_of_lt (Hs.lt w e))]
  exact e
theorem Hs.get_put_same (w : h.wf) (hi : i < h.n) : (h.put i o).get i = some o := by rw [Hs.get_put w hi, if_pos rfl]
theorem Hs.get_put_ne (w : h.wf) (hi : i < h.n) (e : j ≠ i) : (h.put i o).get j = h.get j := by rw [Hs.get_put w hi, if_neg e]
end

/-! ### how it lies in the tracked heap -/
/-- what is fixed: the written part, where the module's classes and defs stand, the attributes' names, the tables of code objects -/
structure Wd where
  K : PySem.W.Frag
  gl : Nat → Option Addr
  nm : Nat → Str
  T : List (Addr × Str)
  inj : ∀ f g, nm f = nm g → f = g
abbrev S (l : List Nat) : Str := ⟨l.toArray⟩
/-- its signs are signs -/
def OkS (l : List Nat) : Prop := ∀ c ∈ l, c < 1114112
def OkK : Ky → Prop
  | .inl _ => True
  | .inr l => OkS l
/-- a list that nobody changes: told frozen, or of the written part -/
def SqF (K : PySem.W.Frag) (H : Hp) (a : Addr) (xs : List V) : Prop := (∃ o, H a = some (.frz o (.lst xs))) ∨
  ∃ (o : Obj) (its : Array Value) (n : Nat), K.lookup a = some o ∧ o.cls = .type "list" ∧ o.dict = none ∧ o.data = .seq its n ∧ its.size ≤ sizeLine ∧ Vals xs its.toList
theorem SqF.l {K : PySem.W.Frag} {H : Hp} {a : Addr} {xs : List V} (h : SqF K H a xs) : SqL K H a xs := by
  rcases h with ⟨o, h⟩ | h
  · exact .inl (.inr ⟨o, h⟩)
  · exact .inr h
mutual
inductive VRel (G : Wd) (ι : List Addr) (H : Hp) : U → V → Prop
  | non : VRel G ι H .non .non
  | bl (b) : VRel G ι H (.bl b) (.bl b)
  | int (i) : VRel G ι H (.int i) (.int i)
  | str (l) : OkS l → VRel G ι H (.str l) (.str (S l))
  | tup {xs a vs} : SqT G.K H a vs → VRels G ι H xs vs → VRel G ι H (.tup xs) (.ref a)
  | ref {i a} : ι[i]? = some a → VRel G ι H (.ref i) (.ref a)
  | ty (n) : VRel G ι H (.ty n) (.ty n)
  | glo {i a} : G.gl i = some a → VRel G ι H (.glo i) (.ref a)
  | frz {xs a vs} : SqF G.K H a vs → VRels G ι H xs vs → VRel G ι H (.frz xs) (.ref a)
inductive VRels (G : Wd) (ι : List Addr) (H : Hp) : List U → List V → Prop
  | nil : VRels G ι H [] []
  | cons {u v us vs} : VRel G ι H u v → VRels G ι H us vs → VRels G ι H (u :: us) (v :: vs)
end
def kyK : Ky → Key
  | .inl i => .inl i
  | .inr l => .inr (S l)
theorem S_inj {a b : List Nat} (h : S a = S b) : a = b := by
  have e : a.toArray = b.toArray := congrArg Str.cps h
  simpa using e
theorem kyK_inj {a b : Ky} (h : kyK a = kyK b) : a = b := by
  cases a <;> cases b
  · cases h; rfl
  · cases h
  · cases h
  · rename_i x y
    have e : S x = S y := Sum.inr.inj h
    rw [S_inj e]
/-- a dict's pairs -/
inductive KRels (G : Wd) (ι : List Addr) (H : Hp) : List (Ky × U) → List (Key × V) → Prop
  | nil : KRels G ι H [] []
  | cons {k u v us vs} : OkK k → VRel G ι H u v → KRels G ι H us vs → KRels G ι H ((k, u) :: us) ((kyK k, v) :: vs)
/-- an instance's fields -/
inductive FRels (G : Wd) (ι : List Addr) (H : Hp) : List (Nat × U) → List (Str × V) → Prop
  | nil : FRels G ι H [] []
  | cons {f u v us vs} : VRel G ι H u v → FRels G ι H us vs → FRels G ι H ((f, u) :: us) ((G.nm f, v) :: vs)
inductive ORel (G : Wd) (ι : List Addr) (H : Hp) (a : Addr) : O → HO → Prop
  | lst {xs vs} : VRels G ι H xs vs → ORel G ι H a (.lst xs) (.lst vs)
  | dic {xs vs} : KRels G ι H xs vs → ORel G ι H a (.dic xs) (.dK vs)
  | ins {c C dx fs vs} : G.gl c = some C → Cls G.K C → (∀ f ∈ fs, NoAttr G.K C (G.nm f.1)) → FRels G ι H fs vs → ORel G ι H a (.ins c fs) (.ins C dx vs)
structure Rep (G : Wd) (ι : List Addr) (h : Hs) (H : Hp) : Prop where
  wf : h.wf
  len : ι.length = h.n
  nd : ι.Nodup
  ob : ∀ (i : Nat) (a : Addr), ι[i]? = some a → ∃ o ho, h.get i = some o ∧ H a = some ho ∧ ORel G ι H a o ho
  tb : LamX.Tabs G.T H
/-- what a run leaves: what is of the mirror stays of it; all else stands, tables but grow -/
structure Ext (ι : List Addr) (H : Hp) (ι' : List Addr) (H' : Hp) : Prop where
  pre : ∀ (i : Nat) (a : Addr), ι[i]? = some a → ι'[i]? = some a
  tp : ∀ a xs, H a = some (.tup xs) → H' a = some (.tup xs)
  fz : ∀ a o u, H a = some (.frz o u) → H' a = some (.frz o u)
  nw : ∀ a, a ∈ ι' → a ∉ ι → H a = none ∨ ∃ ps, H a = some (.tbl ps)
  kp : ∀ a o, H a = some o → a ∉ ι → (∀ ps, o ≠ .tbl ps) → H' a = some o
section
variable {G : Wd} {ι ι' ι1 ι2 : List Addr} {H H' H1 H2 : Hp} {h : Hs}
theorem Ext.refl : Ext ι H ι H := ⟨fun _ _ e => e, fun _ _ e => e, fun _ _ _ e => e, fun _ a b => absurd a b, fun _ _ e _ _ => e⟩
theorem Ext.trans (a : Ext ι H ι1 H1) (b : Ext ι1 H1 ι2 H2) : Ext ι H ι2 H2 where
  pre := fun i x e => b.pre i x (a.pre i x e)
  tp := fun x xs e => b.tp x xs (a.tp x xs e)
  fz := fun x o u e => b.fz x o u (a.fz x o u e)
  nw := fun x h2 h0 => by
    by_cases h1 : x ∈ ι1
    · exact a.nw x h1 h0
    · cases q : H x with
      | none => exact .inl rfl
      | some o =>
        by_cases ht : ∃ ps, o = .tbl ps
        · obtain ⟨ps, rfl⟩ := ht
          exact .inr ⟨ps, rfl⟩
        · have z := a.kp x o q h0 fun ps e => ht ⟨ps, e⟩
          rcases b.nw x h2 h1 with e | ⟨ps, e⟩
          · rw [e] at z
            cases z
          · rw [e] at z
            cases z
            exact absurd ⟨ps, rfl⟩ ht
  kp := fun x o e h0 ht => by
    have e1 := a.kp x o e h0 ht
    refine b.kp x o e1 (fun h1 => ?_) ht
    rcases a.nw x h1 h0 with z | ⟨ps, z⟩
    · rw [e] at z
      cases z
    · rw [e] at z
      cases z
      exact ht ps rfl
theorem SqT.ext {K : PySem.W.Frag} {a : Addr} {vs : List V} (E : Ext ι H ι' H') (h : SqT K H a vs) : SqT K H' a vs := by
  rcases h with (h | ⟨o, h⟩) | h
  · exact .inl (.inl (E.tp _ _ h))
  · exact .inl (.inr ⟨o, E.fz _ _ _ h⟩)
  · exact .inr h
theorem SqF.ext {K : PySem.W.Frag} {a : Addr} {vs : List V} (E : Ext ι H ι' H') (h : SqF K H a vs) : SqF K H' a vs := by
  rcases h with ⟨o, h⟩ | h
  · exact .inl ⟨o, E.fz _ _ _ h⟩
  · exact .inr h
mutual
theorem VRel.ext (E : Ext ι H ι' H') : ∀ {u : U} {v : V}, VRel G ι H u v → VRel G ι' H' u v
  | _, _, .non => .non
  | _, _, .bl b => .bl b
  | _, _, .int i => .int i
  | _, _, .str l o => .str l o
  | _, _, .tup a b => .tup (SqT.ext E a) (VRels.ext E b)
  | _, _, .ref e => .ref (E.pre _ _ e)
  | _, _, .ty n => .ty n
  | _, _, .glo e => .glo e
  | _, _, .frz a b => .frz (SqF.ext E a) (VRels.ext E b)
theorem VRels.ext (E : Ext ι H ι' H') : ∀ {u : List U} {v : List V}, VRels G ι H u v → VRels G ι' H' u v
  | _, _, .nil => .nil
  | _, _, .cons a b => .cons (VRel.ext E a) (VRels.ext E b)
end
theorem KRels.ext (E : Ext ι H ι' H') : ∀ {u : List (Ky × U)} {v : List (Key × V)}, KRels G ι H u v → KRels G ι' H' u v
  | _, _, .nil => .nil
  | _, _, .cons o a b => .cons o (VRel.ext E a) (KRels.ext E b)
theorem FRels.ext (E : Ext ι H ι' H') : ∀ {u : List (Nat × U)} {v : List (Str × V)}, FRels G ι H u v → FRels G ι' H' u v
  | _, _, .nil => .nil
  | _, _, .cons a b => .cons (VRel.ext E a) (FRels.ext E b)
theorem ORel.ext {a : Addr} (E : Ext ι H ι' H') {o : O} {ho : HO} (r : ORel G ι H a o ho) : ORel G ι' H' a o ho := by
  cases r with
  | lst r => exact .lst (VRels.ext E r)
  | dic r => exact .dic (KRels.ext E r)
  | ins g c n r => exact .ins g c n (FRels.ext E r)
theorem VRels.length : ∀ {u : List U} {v : List V}, VRels G ι H u v → u.length = v.length
  | _, _, .nil => rfl
  | _, _, .cons _ b => congrArg Nat.succ (VRels.length b)
/-! ### the three steps of the heap -/
theorem ORel.ntup {a : Addr} {o : O} {ho : HO} (r : ORel G ι H a o ho) : (∀ xs, ho ≠ .tup xs) ∧ (∀ b u, ho ≠ .frz b u) ∧ (∀ ps, ho ≠ .tbl ps) ∧ (∀ φ, ho ≠ .ext φ) := by
  cases r with
  | lst r => exact ⟨fun _ z => (nomatch z), fun _ _ z => (nomatch z), fun _ z => (nomatch z), fun _ z => (nomatch z)⟩
  | dic r => exact ⟨fun _ z => (nomatch z), fun _ _ z => (nomatch z), fun _ z => (nomatch z), fun _ z => (nomatch z)⟩
  | ins g c n r => exact ⟨fun _ z => (nomatch z), fun _ _ z => (nomatch z), fun _ z => (nomatch z), fun _ z => (nomatch z)⟩
theorem Rep.ne (R : Rep G ι h H) {a : Addr} (ha : a ∈ ι) : (∀ xs, H a ≠ some (.tup xs)) ∧ (∀ b u, H a ≠ some (.frz b u)) ∧ (∀ ps, H a ≠ some (.tbl ps)) ∧ (∀ φ, H a ≠ some (.ext φ)) ∧ H a ≠ none := by
  obtain ⟨i, hi, e⟩ := List.mem_iff_getElem.mp ha
  obtain ⟨o, ho, _, e2, r⟩ := R.ob i a (by rw [List.getElem?_eq_getElem hi, e])
  obtain ⟨n1, n2, n3, n4⟩ := r.ntup
  rw [e2]
  exact ⟨fun xs z => n1 xs (Option.some.inj z), fun b u z => n2 b u (Option.some.inj z), fun ps z => n3 ps (Option.some.inj z), fun φ z => n4 φ (Option.some.inj z), fun z => nomatch z⟩
/-- something new, not of the mirror -/
theorem Ext.fresh {p : Addr} {o : HO} (hp : H p = none) : Ext ι H ι (upd H p o) where
  pre := fun _ _ e => e
  tp := fun a xs e => by rw [upd_ne (ne_of_none e hp)]; exact e
  fz := fun a b u e => by rw [upd_ne (ne_of_none e hp)]; exact e
  nw := fun _ a b => absurd a b
  kp := fun a o e _ _ => by rw [upd_ne (ne_of_none e hp)]; exact e
theorem Rep.fresh (R : Rep G ι h H) {p : Addr} {o : HO} (hp : H p = none) : Rep G ι h (upd H p o) where
  wf := R.wf
  len := R.len
  nd := R.nd
  ob := fun i a e => by
    obtain ⟨o', ho, e1, e2, r⟩ := R.ob i a e
    exact ⟨o', ho, e1, by rw [upd_ne (ne_of_none e2 hp)]; exact e2, r.ext (Ext.fresh hp)⟩
  tb := R.tb.ext fun b o e => by rw [upd_ne (ne_of_none e hp)]; exact e
/-- a new object of the mirror -/
theorem Ext.new {p : Addr} {o : HO} (hp : H p = none) : Ext ι H (ι ++ [p]) (upd H p o) where
  pre := fun i a e => by
    have hi : i < ι.length := (List.getElem?_eq_some_iff.mp e).1
    rw [List.getElem?_append_left hi]
    exact e
  tp := (Ext.fresh (ι := ι) hp).tp
  fz := (Ext.fresh (ι := ι) hp).fz
  nw := fun a h1 h0 => by
    rcases List.mem_append.mp h1 with z | z
    · exact absurd z h0
    · have e : a = p := by simpa using z
      rw [e]
      exact .inl hp
  kp := (Ext.fresh (ι := ι) hp).kp
theorem Rep.new (R : Rep G ι h H) {p : Addr} {o : O} {ho : HO} (hp : H p = none) (r : ORel G ι H p o ho) : Rep G (ι ++ [p]) (h.new o) (upd H p ho) where
  wf := Hs.wf_new R.wf
  len := by rw [List.length_append, R.len]; rfl
  nd := List.nodup_append.mpr ⟨R.nd, by simp, fun a ha b hb e => by
    have hb' : b = p := by simpa using hb
    subst e
    exact (R.ne ha).2.2.2.2 (by rw [hb']; exact hp)⟩
  ob := fun i a e => by
    by_cases hi : i < ι.length
    · rw [List.getElem?_append_left hi] at e
      obtain ⟨o', ho', e1, e2, r'⟩ := R.ob i a e
      exact ⟨o', ho', Hs.get_new_old R.wf e1, by rw [upd_ne (ne_of_none e2 hp)]; exact e2, r'.ext (Ext.new hp)⟩
    · have hi2 : i = ι.length := by
        have := (List.getElem?_eq_some_iff.mp e).1
        rw [List.length_append] at this
        simp at this
        omega
      subst hi2
      rw [List.getElem?_append_right (Nat.le_refl _), Nat.sub_self] at e
      have ea : p = a := by simpa using e
      subst ea
      exact ⟨o, ho, by rw [R.len]; exact Hs.get_new_same R.wf, upd_same, r.ext (Ext.new hp)⟩
  tb := R.tb.ext fun b o e => by rw [upd_ne (ne_of_none e hp)]; exact e
theorem VRel.fresh_ref {p : Addr} (R : Rep G ι h H) : VRel G (ι ++ [p]) H' (.ref h.n) (.ref p) := .ref (by rw [← R.len, List.getElem?_append_right (Nat.le_refl _), Nat.sub_self]; rfl)
/-- an object of the mirror is written -/
theorem Rep.extPut (R : Rep G ι h H) {i : Nat} {p : Addr} {ho : HO} (hp : ι[i]? = some p) : Ext ι H ι (upd H p ho) := by
  have hm : p ∈ ι := List.mem_of_getElem? hp
  obtain ⟨n1, n2, n3, n4, n5⟩ := R.ne hm
  refine ⟨fun _ _ e => e, fun a xs e => ?_, fun a b u e => ?_, fun _ a b => absurd a b, fun a o e h0 _ => ?_⟩
  · rw [upd_ne (fun z => n1 xs (by rw [← z]; exact e))]; exact e
  · rw [upd_ne (fun z => n2 b u (by rw [← z]; exact e))]; exact e
  · rw [upd_ne (fun z => h0 (by rw [z]; exact hm))]; exact e
theorem Rep.put (R : Rep G ι h H) {i : Nat} {p : Addr} {o : O} {ho : HO} (hp : ι[i]? = some p) (r : ORel G ι H p o ho) : Rep G ι (h.put i o) (upd H p ho) := by
  have E : Ext ι H ι (upd H p ho) := R.extPut hp
  have hi : i < h.n := by rw [← R.len]; exact (List.getElem?_eq_some_iff.mp hp).1
  have hm : p ∈ ι := List.mem_of_getElem? hp
  refine ⟨Hs.wf_put R.wf hi, R.len, R.nd, fun j a e => ?_, ?_⟩
  · by_cases hj : j = i
    · subst hj
      rw [hp] at e
      cases e
      exact ⟨o, ho, Hs.get_put_same R.wf hi, upd_same, r.ext E⟩
    · obtain ⟨o', ho', e1, e2, r'⟩ := R.ob j a e
      have na : a ≠ p := fun z => by
        subst z
        exact hj (nodup_get R.nd e hp)
      exact ⟨o', ho', by rw [Hs.get_put_ne R.wf hi hj]; exact e1, by rw [upd_ne na]; exact e2, r'.ext E⟩
  · obtain ⟨n1, n2, n3, n4, n5⟩ := R.ne hm
    intro q hq
    obtain ⟨ps, e1, e2, e3⟩ := R.tb q hq
    refine ⟨ps, by rw [upd_ne (fun z => n3 ps (by rw [← z]; exact e1))]; exact e1, e2, fun pos cv hc => ?_⟩
    obtain ⟨c, ec, e4⟩ := e3 pos cv hc
    exact ⟨c, ec, by rw [upd_ne (fun z => n4 _ (by rw [← z]; exact e4))]; exact e4⟩
where
  nodup_get {l : List Addr} (nd : l.Nodup) {i j : Nat} {a : Addr} (h1 : l[i]? = some a) (h2 : l[j]? = some a) : i = j := by
    obtain ⟨a1, b1⟩ := List.getElem?_eq_some_iff.mp h1
    obtain ⟨a2, b2⟩ := List.getElem?_eq_some_iff.mp h2
    exact (List.getElem_inj nd).mp (b1.trans b2.symm)
theorem Rep.at (R : Rep G ι h H) {i : Nat} {o : O} {v : V} (e : h.get i = some o) (r : VRel G ι H (.ref i) v) : ∃ a ho, v = .ref a ∧ ι[i]? = some a ∧ H a = some ho ∧ ORel G ι H a o ho := by
  cases r with
  | ref e1 =>
    rename_i a
    obtain ⟨o', ho, e2, e3, e4⟩ := R.ob i a e1
    rw [e] at e2
    cases e2
    exact ⟨a, ho, rfl, e1, e3, e4⟩
end
end Sm

set_option Elab.async false
set_option linter.all false
set_option maxRecDepth 100000
set_option maxHeartbeats 2000000
/-! Sim, part 2: results of the mirror, its judgements, expressions. -/
namespace Sm
open PySem PySem.Spec PyProof.Rows L2

/-! ### results -/
/-- an exception of the mirror: its class, its fields, the last stored first -/
structure Ex where
  c : Nat
  fs : List (Nat × U)
inductive R (α : Type) where
  | ok (a : α) (h : Hs) | err (e : Ex) (h : Hs) | no
def R.bind {α β : Type} (r : R α) (f : α → Hs → R β) : R β := match r with
  | .ok a h => f a h
  | .err e h => .err e h
  | .no => .no
def R.of {α : Type} : Option (α × Hs) → R α
  | some (a, h) => .ok a h
  | none => .no
abbrev Sl := List (Option U)
abbrev EM := Sl → Hs → R U
abbrev TM := Sl → Hs → R Bool
abbrev AM := Sl → Hs → R (List U)
structure ERel (G : Wd) (ι : List Addr) (H : Hp) (e : Ex) (cls : Value) (d : Option Addr) : Prop where
  c : ∃ C, G.gl e.c = some C ∧ cls = .ref C
  none : e.fs = [] → d = none
  some : e.fs ≠ [] → ∃ dx vs, d = some dx ∧ H dx = some (.xd vs) ∧ FRels G ι H e.fs vs
/-- what a result of the mirror promises -/
def Aft (G : Wd) {α β : Type} (RR : List Addr → Hp → α → β → Prop) (W : XK) (ι : List Addr) (H : Hp) (Q : β → Hp → Prop) : R α → Prop
  | .ok a h' => ∀ ι' H' b, Ext ι H ι' H' → Rep G ι' h' H' → RR ι' H' a b → Q b H'
  | .err e h' => ∀ ι' H' cls d, Ext ι H ι' H' → Rep G ι' h' H' → ERel G ι' H' e cls d → W cls d H'
  | .no => False
/-- .. of a step that raises nothing -/
def AftO (G : Wd) {α β : Type} (RR : List Addr → Hp → α → β → Prop) (ι : List Addr) (H : Hp) (Q : β → Hp → Prop) : Option (α × Hs) → Prop
  | some (a, h') => ∀ ι' H' b, Ext ι H ι' H' → Rep G ι' h' H' → RR ι' H' a b → Q b H'
  | none => False
def EqR {α : Type} : List Addr → Hp → α → α → Prop := fun _ _ a b => a = b
section
variable {G : Wd} {α β α' β' : Type} {RR : List Addr → Hp → α → β → Prop} {RR' : List Addr → Hp → α' → β' → Prop} {W : XK} {ι ι1 : List Addr} {H H1 : Hp} {Q Q1 : β → Hp → Prop} {Q' : β' → Hp → Prop}
theorem Aft.ext {r : R α} (E : Ext ι H ι1 H1) (q : Aft G RR W ι H Q r) : Aft G RR W ι1 H1 Q r := by
  cases r with
  | ok a h' => exact fun ι' H' b E' R r => q ι' H' b (E.trans E') R r
  | err e h' => exact fun ι' H' cls d E' R r => q ι' H' cls d (E.trans E') R r
  | no => exact q
theorem Aft.bind {m : R α} {f : α → Hs → R α'} {Q1 : β → Hp → Prop} (q : Aft G RR' W ι H Q' (m.bind f))
    (k : ∀ ι1 H1 a h1 b, Ext ι H ι1 H1 → Rep G ι1 h1 H1 → RR ι1 H1 a b → Aft G RR' W ι1 H1 Q' (f a h1) → Q1 b H1) : Aft G RR W ι H Q1 m := by
  cases m with
  | ok a h' => exact fun ι' H' b E R r => k ι' H' a h' b E R r (Aft.ext E q)
  | err e h' => exact q
  | no => exact q
theorem Aft.mono {r : R α} (q : Aft G RR W ι H Q r) (k : ∀ b H', Q b H' → Q1 b H') : Aft G RR W ι H Q1 r := by
  cases r with
  | ok a h' => exact fun ι' H' b E R r => k _ _ (q ι' H' b E R r)
  | err e h' => exact q
  | no => exact q
theorem Aft.now {a : α} {b : β} {h : Hs} (q : Aft G RR W ι H Q (.ok a h)) (R : Rep G ι h H) (r : RR ι H a b) : Q b H := q ι H b Ext.refl R r
theorem AftO.now {a : α} {b : β} {h : Hs} (q : AftO G RR ι H Q (some (a, h))) (R : Rep G ι h H) (r : RR ι H a b) : Q b H := q ι H b Ext.refl R r
theorem Aft.of {o : Option (α × Hs)} (q : Aft G RR W ι H Q (.of o)) : AftO G RR ι H Q o := by
  cases o with
  | none => exact q
  | some p => exact q
theorem AftO.mono {r : Option (α × Hs)} (q : AftO G RR ι H Q r) (k : ∀ b H', Q b H' → Q1 b H') : AftO G RR ι H Q1 r := by
  cases r with
  | some p => exact fun ι' H' b E R r => k _ _ (q ι' H' b E R r)
  | none => exact q
end

/-! ### slots -/
structure SRel (G : Wd) (ι : List Addr) (H : Hp) (τ : Sl) (σ : L2.St) : Prop where
  len : τ.length = σ.length
  at_ : ∀ (i : Nat) (u : U), τ[i]? = some (some u) → ∃ v, σ[i]? = some (some v) ∧ VRel G ι H u v
section
variable {G : Wd} {ι ι' : List Addr} {H H' : Hp} {τ : Sl} {σ : L2.St}
theorem SRel.ext (E : Ext ι H ι' H') (s : SRel G ι H τ σ) : SRel G ι' H' τ σ := ⟨s.len, fun i u e => by
  obtain ⟨v, e1, e2⟩ := s.at_ i u e
  exact ⟨v, e1, VRel.ext E e2⟩⟩
theorem SRel.set (s : SRel G ι H τ σ) (i : Nat) {u : U} {v : V} (r : VRel G ι H u v) : SRel G ι H (τ.set i (some u)) (σ.set i (some v)) := ⟨by rw [List.length_set, List.length_set]; exact s.len, fun j w e => by
  by_cases hj : i = j
  · subst hj
    by_cases hi : i < τ.length
    · rw [List.getElem?_set_self hi] at e
      cases e
      exact ⟨v, List.getElem?_set_self (by rw [← s.len]; exact hi), r⟩
    · rw [List.getElem?_eq_none (by rw [List.length_set]; omega)] at e
      cases e
  · rw [List.getElem?_set_ne hj] at e
    rw [List.getElem?_set_ne hj]
    exact s.at_ j w e⟩
end

/-! ### judgements -/
def tM (G : Wd) (W : L2.St → XK) (m : EM) : TE := fun σ H Q => ∃ τ ι h, SRel G ι H τ σ ∧ Rep G ι h H ∧ Aft G (VRel G) (W σ) ι H Q (m τ h)
def tB (G : Wd) (W : L2.St → XK) (m : TM) : TT := fun σ H Q => ∃ τ ι h, SRel G ι H τ σ ∧ Rep G ι h H ∧ Aft G EqR (W σ) ι H Q (m τ h)
def tA (G : Wd) (W : L2.St → XK) (m : AM) : TA := fun σ H Q => ∃ τ ι h, SRel G ι H τ σ ∧ Rep G ι h H ∧ Aft G (VRels G) (W σ) ι H Q (m τ h)
abbrev SE (X : Cx) (G : Wd) (W : L2.St → XK) (e : Expr) (m : EM) : Prop := PE X e (tM G W m)
abbrev ST (X : Cx) (G : Wd) (W : L2.St → XK) (e : Expr) (m : TM) : Prop := PT X e (tB G W m)
abbrev SW (X : Cx) (G : Wd) (W : L2.St → XK) (e : Expr) (m : TM) : Prop := PW X e (tB G W m)
abbrev SA (X : Cx) (G : Wd) (W : L2.St → XK) (es : List Expr) (m : AM) : Prop := PA X es (tA G W m)
/-- what the mirror's world has to do with the context -/
structure Of (X : Cx) (G : Wd) : Prop where
  k : G.K = X.K
theorem _root_.L2.PE.imp {X : Cx} {e : Expr} {t t' : TE} (h : PE X e t) (i : ∀ σ H Q, t' σ H Q → t σ H Q) : PE X e t' := ⟨fun pins s σ H Q I q => h.run pins s σ H Q I (i σ H Q q)⟩
theorem _root_.L2.PT.imp {X : Cx} {e : Expr} {t t' : TT} (h : PT X e t) (i : ∀ σ H Q, t' σ H Q → t σ H Q) : PT X e t' := ⟨fun pins s σ H Q I q => h.run pins s σ H Q I (i σ H Q q)⟩
theorem _root_.L2.PW.imp {X : Cx} {e : Expr} {t t' : TT} (h : PW X e t) (i : ∀ σ H Q, t' σ H Q → t σ H Q) : PW X e t' := ⟨fun wh pins s σ H Q I q => h.run wh pins s σ H Q I (i σ H Q q)⟩
theorem _root_.L2.PA.imp {X : Cx} {e : List Expr} {t t' : TA} (h : PA X e t) (i : ∀ σ H Q, t' σ H Q → t σ H Q) : PA X e t' := ⟨fun pos pins s σ H Q I q => h.run pos pins s σ H Q I (i σ H Q q)⟩

/-! ### names, constants -/
def mVar (i : Nat) : EM := fun τ h => match τ[i]? with
  | some (some u) => .ok u h
  | _ => .no
def mC (u : U) : EM := fun _ h => .ok u h
section
variable {X : Cx} {G : Wd} {W : L2.St → XK} {pos : Pos}
theorem tM_const {u : U} {v : V} (r : ∀ ι H, VRel G ι H u v) {σ : L2.St} {H : Hp} {Q : VK} (q : tM G W (mC u) σ H Q) : tC v σ H Q := by
  obtain ⟨τ, ι, h, sr, R, q⟩ := q
  exact q.now R (r ι H)
theorem s_var (i : Nat) {x : Str} (hN : X.N[i]? = some x := by rfl) (hv : Vis X.env.scope x := by first | exact Or.inl rfl | exact Or.inr (Or.inl rfl) | exact Or.inr (Or.inr rfl)) (hd : (x == ("__debug__" : Str)) = false := by decide)
    (hcd : (x == ("__classdict__" : Str)) = false := by decide) : SE X G W (.Name x pos) (mVar i) := (pv i hN hv hd hcd).imp fun σ H Q ⟨τ, ι, h, sr, R, q⟩ => by
  unfold mVar at q
  cases e : τ[i]? with
  | none =>
    rw [e] at q
    exact q.elim
  | some o =>
    rw [e] at q
    cases o with
    | none => exact q.elim
    | some u =>
      obtain ⟨v, e1, e2⟩ := sr.at_ i u e
      exact ⟨v, e1, q.now R e2⟩
theorem s_int {i : Int} {j} : SE X G W (.Constant (.int i) j pos) (mC (.int i)) := pe_int.imp fun _ _ _ q => tM_const (fun _ _ => .int i) q
theorem s_bl {b : Bool} {j} : SE X G W (.Constant (.bool b) j pos) (mC (.bl b)) := pe_bl.imp fun _ _ _ q => tM_const (fun _ _ => .bl b) q
theorem s_non {j} : SE X G W (.Constant .none j pos) (mC .non) := pe_non.imp fun _ _ _ q => tM_const (fun _ _ => .non) q
theorem s_str {l : List Nat} {x : Str} {j} (e : x = S l) (o : OkS l) : SE X G W (.Constant (.str x) j pos) (mC (.str l)) := pe_str.imp fun _ _ _ q => tM_const (fun _ _ => by rw [e]; exact .str l o) q
theorem s_glo {i : Nat} {a : Addr} {x : Str} (hg : Gl X x) (hm : X.mg x = some (.ref a)) (e : G.gl i = some a) (hd : (x == ("__debug__" : Str)) = false := by decide) : SE X G W (.Name x pos) (mC (.glo i)) :=
  (pe_glob hg hm (v := .ref a) rfl hd).imp fun _ _ _ q => tM_const (fun _ _ => .glo e) q
theorem s_gint {i : Int} {t : Tok} {x : Str} (hg : Gl X x) (hm : X.mg x = some (.int i t)) (hd : (x == ("__debug__" : Str)) = false := by decide) : SE X G W (.Name x pos) (mC (.int i)) :=
  (pe_glob hg hm (v := .int i) ⟨t, rfl⟩ hd).imp fun _ _ _ q => tM_const (fun _ _ => .int i) q
theorem s_gstr {l : List Nat} {y : Str} {t : Tok} {x : Str} (e : y = S l) (o : OkS l) (hg : Gl X x) (hm : X.mg x = some (.str y t)) (hd : (x == ("__debug__" : Str)) = false := by decide) : SE X G W (.Name x pos) (mC (.str l)) :=
  (pe_glob hg hm (v := .str y) ⟨t, rfl⟩ hd).imp fun _ _ _ q => tM_const (fun _ _ => by rw [e]; exact .str l o) q
theorem s_ty {n : String} {x : Str} (hg : Gl X x) (hm : X.mg x = none) (hv : bootBuiltins x = some (.type n)) (hn : x ≠ "__name__" := by decide) (hd : (x == ("__debug__" : Str)) = false := by decide) : SE X G W (.Name x pos) (mC (.ty n)) :=
  (pe_bltn hg hm hv (v := .ty n) rfl hn hd).imp fun _ _ _ q => tM_const (fun _ _ => .ty n) q
end

/-! ### operations on values -/
/-- an operation of the mirror is that of the machine -/
def OpS (X : Cx) (G : Wd) (f : Value → Value → Sem Value) (op : U → U → Hs → Option (U × Hs)) : Prop :=
  ∃ r, OpR X f r ∧ ∀ ι h H u w x y Q, Rep G ι h H → VRel G ι H u x → VRel G ι H w y → AftO G (VRel G) ι H Q (op u w h) → r x y H Q
def mBin (op : U → U → Hs → Option (U × Hs)) (a b : EM) : EM := fun τ h => (a τ h).bind fun x h1 => (b τ h1).bind fun y h2 => .of (op x y h2)
section
variable {X : Cx} {G : Wd} {W : L2.St → XK} {pos : Pos} {a b : Expr} {ma mb : EM} {f : U → U → Hs → Option (U × Hs)}
theorem t_bin {r : R2} (hr : ∀ ι h H u w x y Q, Rep G ι h H → VRel G ι H u x → VRel G ι H w y → AftO G (VRel G) ι H Q (f u w h) → r x y H Q) {σ : L2.St} {H : Hp} {Q : VK} (q : tM G W (mBin f ma mb) σ H Q) : tOp r (tM G W ma) (tM G W mb) σ H Q := by
  obtain ⟨τ, ι, h, sr, R, q⟩ := q
  refine ⟨τ, ι, h, sr, R, q.bind fun ι1 H1 u h1 x E1 R1 r1 q1 => ?_⟩
  refine ⟨τ, ι1, h1, sr.ext E1, R1, q1.bind fun ι2 H2 w h2 y E2 R2 r2 q2 => ?_⟩
  exact hr ι2 h2 H2 u w x y Q R2 (r1.ext E2) r2 q2.of
theorem s_bin {op : Operator} (ho : OpS X G (binaryOp op) f) (ha : SE X G W a ma) (hb : SE X G W b mb) : SE X G W (.BinOp a op b pos) (mBin f ma mb) := by
  obtain ⟨r, o, hr⟩ := ho
  exact (pe_op o ha hb).imp fun σ H Q q => t_bin hr q
theorem s_cmp {op : CmpOp} (ho : OpS X G (compareOp op) f) (ha : SE X G W a ma) (hb : SE X G W b mb) (hm : behindInMarks op b = false) : SE X G W (.Compare a [op] [b] pos) (mBin f ma mb) := by
  obtain ⟨r, o, hr⟩ := ho
  exact (pe_cmpR o ha hb hm).imp fun σ H Q q => t_bin hr q
/-- a value that is a bool, as a test -/
def mT (a : EM) : TM := fun τ h => (a τ h).bind fun x h1 => match x with
  | .bl b => .ok b h1
  | _ => .no
theorem t_test {te : TE} (hm : ∀ σ H Q, tM G W ma σ H Q → te σ H Q) {σ : L2.St} {H : Hp} {Q : Bool → Hp → Prop} (q : Sm.tB G W (mT ma) σ H Q) : tTest te σ H Q := by
  obtain ⟨τ, ι, h, sr, R, q⟩ := q
  refine hm σ H _ ⟨τ, ι, h, sr, R, q.bind fun ι1 H1 u h1 x E1 R1 r1 q1 => ?_⟩
  cases r1 with
  | bl b => exact ⟨b, rfl, q1.now R1 rfl⟩
  | _ => exact q1.elim
theorem t_cmp {op : CmpOp} (ho : OpS X G (compareOp op) f) (ha : SE X G W a ma) (hb : SE X G W b mb) (hm : behindInMarks op b = false) : ST X G W (.Compare a [op] [b] pos) (mT (mBin f ma mb)) := by
  obtain ⟨r, o, hr⟩ := ho
  exact (pt_cmpR o ha hb hm).imp fun σ H Q q => t_test (fun _ _ _ q => t_bin hr q) q
theorem t_val {e : Expr} {m : EM} (h : SE X G W e m) (he : ∀ whole, isTrue e X.env whole = (do let v ← whole; standAt e.pos; holding [v] (truthy v)) := by intro _; rfl) : ST X G W e (mT m) :=
  (pt_val h he).imp fun σ H Q q => t_test (fun _ _ _ q => q) q
/-! ### and, or, not, if -/
def mNot (t : TM) : TM := fun τ h => (t τ h).bind fun b h1 => .ok (!b) h1
def mAnd (t u : TM) : TM := fun τ h => (t τ h).bind fun b h1 => match b with
  | true => u τ h1
  | false => .ok false h1
def mOr (t u : TM) : TM := fun τ h => (t τ h).bind fun b h1 => match b with
  | true => .ok true h1
  | false => u τ h1
/-- a test as a value -/
def mV (t : TM) : EM := fun τ h => (t τ h).bind fun b h1 => .ok (.bl b) h1
variable {ta tb : TM} {rest : List Expr}
theorem t_not (ha : ST X G W a ta) : ST X G W (.UnaryOp .Not a pos) (mNot ta) := (pt_not ha).imp fun σ H Q ⟨τ, ι, h, sr, R, q⟩ => ⟨τ, ι, h, sr, R, q.bind fun ι1 H1 u h1 x E1 R1 r1 q1 => by
  cases r1
  exact q1.now R1 rfl⟩
theorem w_and1 (ha : ST X G W a ta) : SW X G W (.BoolOp .And [a] pos) ta := pw_and1 ha
theorem w_or1 (ha : ST X G W a ta) : SW X G W (.BoolOp .Or [a] pos) ta := pw_or1 ha
theorem w_and (ha : ST X G W a ta) (hb : SW X G W (.BoolOp .And (b :: rest) pos) tb) : SW X G W (.BoolOp .And (a :: b :: rest) pos) (mAnd ta tb) := (pw_and ha hb).imp fun σ H Q ⟨τ, ι, h, sr, R, q⟩ => ⟨τ, ι, h, sr, R, q.bind fun ι1 H1 u h1 x E1 R1 r1 q1 => by
  cases r1
  cases u with
  | true => exact ⟨τ, ι1, h1, sr.ext E1, R1, q1⟩
  | false => exact q1.now R1 rfl⟩
theorem w_or (ha : ST X G W a ta) (hb : SW X G W (.BoolOp .Or (b :: rest) pos) tb) : SW X G W (.BoolOp .Or (a :: b :: rest) pos) (mOr ta tb) := (pw_or ha hb).imp fun σ H Q ⟨τ, ι, h, sr, R, q⟩ => ⟨τ, ι, h, sr, R, q.bind fun ι1 H1 u h1 x E1 R1 r1 q1 => by
  cases r1
  cases u with
  | true => exact q1.now R1 rfl
  | false => exact ⟨τ, ι1, h1, sr.ext E1, R1, q1⟩⟩
/-- .. as values, each of them a bool -/
def mAndV (a b : EM) : EM := fun τ h => (a τ h).bind fun x h1 => match x with
  | .bl true => b τ h1
  | .bl false => .ok (.bl false) h1
  | _ => .no
def mOrV (a b : EM) : EM := fun τ h => (a τ h).bind fun x h1 => match x with
  | .bl true => .ok (.bl true) h1
  | .bl false => b τ h1
  | _ => .no
def mNotV (a : EM) : EM := fun τ h => (a τ h).bind fun x h1 => match x with
  | .bl b => .ok (.bl (!b)) h1
  | _ => .no
theorem s_one {op} (ha : SE X G W a ma) : SE X G W (.BoolOp op [a] pos) ma := pe_one ha
theorem s_and (ha : SE X G W a ma) (hb : SE X G W (.BoolOp .And (b :: rest) pos) mb) : SE X G W (.BoolOp .And (a :: b :: rest) pos) (mAndV ma mb) := (pe_and ha hb).imp fun σ H Q ⟨τ, ι, h, sr, R, q⟩ => ⟨τ, ι, h, sr, R, q.bind fun ι1 H1 u h1 x E1 R1 r1 q1 => by
  cases r1 with
  | bl c =>
    cases c with
    | true => exact ⟨true, rfl, ⟨τ, ι1, h1, sr.ext E1, R1, q1⟩⟩
    | false => exact ⟨false, rfl, q1.now R1 (.bl false)⟩
  | _ => exact q1.elim⟩
theorem s_or (ha : SE X G W a ma) (hb : SE X G W (.BoolOp .Or (b :: rest) pos) mb) : SE X G W (.BoolOp .Or (a :: b :: rest) pos) (mOrV ma mb) := (pe_or ha hb).imp fun σ H Q ⟨τ, ι, h, sr, R, q⟩ => ⟨τ, ι, h, sr, R, q.bind fun ι1 H1 u h1 x E1 R1 r1 q1 => by
  cases r1 with
  | bl c =>
    cases c with
    | true => exact ⟨true, rfl, q1.now R1 (.bl true)⟩
    | false => exact ⟨false, rfl, ⟨τ, ι1, h1, sr.ext E1, R1, q1⟩⟩
  | _ => exact q1.elim⟩
theorem s_not (ha : SE X G W a ma) : SE X G W (.UnaryOp .Not a pos) (mNotV ma) := (pe_not ha).imp fun σ H Q ⟨τ, ι, h, sr, R, q⟩ => ⟨τ, ι, h, sr, R, q.bind fun ι1 H1 u h1 x E1 R1 r1 q1 => by
  cases r1 with
  | bl c => exact ⟨c, rfl, q1.now R1 (.bl _)⟩
  | _ => exact q1.elim⟩
def mIf (t : TM) (a b : EM) : EM := fun τ h => (t τ h).bind fun c h1 => match c with
  | true => a τ h1
  | false => b τ h1
theorem s_if {c : Expr} {tc : TM} (hc : ST X G W c tc) (ha : SE X G W a ma) (hb : SE X G W b mb) : SE X G W (.IfExp c a b pos) (mIf tc ma mb) := (pe_ifExp hc ha hb).imp fun σ H Q ⟨τ, ι, h, sr, R, q⟩ => ⟨τ, ι, h, sr, R, q.bind fun ι1 H1 u h1 x E1 R1 r1 q1 => by
  cases r1
  cases u with
  | true => exact ⟨τ, ι1, h1, sr.ext E1, R1, q1⟩
  | false => exact ⟨τ, ι1, h1, sr.ext E1, R1, q1⟩⟩
end
/-! ### arguments, displays -/
def mNil : AM := fun _ h => .ok [] h
def mCons (a : EM) (r : AM) : AM := fun τ h => (a τ h).bind fun x h1 => (r τ h1).bind fun xs h2 => .ok (x :: xs) h2
/-- a length that a list, a tuple, a text may have -/
def fits (n : Nat) : Bool := Nat.ble n 16777216
theorem fits_le {n : Nat} (h : fits n = true) : n ≤ sizeLine := by
  have := Nat.le_of_ble_eq_true h
  rw [sizeLine_eq]
  exact this
def mLst (m : AM) : EM := fun τ h => (m τ h).bind fun xs h1 => match fits xs.length with
  | true => .ok (.ref h1.n) (h1.new (.lst xs))
  | false => .no
def mTup (m : AM) : EM := fun τ h => (m τ h).bind fun xs h1 => match fits xs.length with
  | true => .ok (.tup xs) h1
  | false => .no
section
variable {X : Cx} {G : Wd} {W : L2.St → XK} {pos : Pos} {e : Expr} {es : List Expr} {m : EM} {ms : AM}
theorem a_nil : SA X G W [] mNil := pa_nil.imp fun σ H Q ⟨τ, ι, h, sr, R, q⟩ => q.now R .nil
theorem t_cons {te : TE} {t : TA} (h1 : ∀ σ H Q, tM G W m σ H Q → te σ H Q) (h2 : ∀ σ H Q, tA G W ms σ H Q → t σ H Q) {σ : L2.St} {H : Hp} {Q : List V → Hp → Prop} (q : tA G W (mCons m ms) σ H Q) : tCons te t σ H Q := by
  obtain ⟨τ, ι, h, sr, R, q⟩ := q
  refine h1 σ H _ ⟨τ, ι, h, sr, R, q.bind fun ι1 H1 u k1 x E1 R1 r1 q1 => ?_⟩
  refine h2 σ H1 _ ⟨τ, ι1, k1, sr.ext E1, R1, q1.bind fun ι2 H2 us k2 xs E2 R2 r2 q2 => ?_⟩
  exact q2.now R2 (.cons (r1.ext E2) r2)
theorem a_cons (ha : SE X G W e m) (hr : SA X G W es ms) (hs : starEach (e :: es) X.env = (false, eval e X.env) :: starEach es X.env := by rfl) : SA X G W (e :: es) (mCons m ms) :=
  (pa_cons ha hr hs).imp fun σ H Q q => t_cons (fun _ _ _ q => q) (fun _ _ _ q => q) q
theorem s_lst (h : SA X G W es ms) : SE X G W (.List es pos) (mLst ms) := (pe_lst h).imp fun σ H Q ⟨τ, ι, h, sr, R, q⟩ => ⟨τ, ι, h, sr, R, q.bind fun ι1 H1 us h1 xs E1 R1 r1 q1 => by
  cases hf : fits us.length with
  | false =>
    rw [hf] at q1
    exact q1.elim
  | true =>
    rw [hf] at q1
    refine ⟨by rw [← r1.length]; exact fits_le hf, fun p hp => ?_⟩
    exact q1 _ _ _ (Ext.new hp) (R1.new hp (.lst r1)) (VRel.fresh_ref R1)⟩
theorem s_tup {x1} (h : SA X G W es ms) : SE X G W (.Tuple es x1 pos) (mTup ms) := (pe_tup h).imp fun σ H Q ⟨τ, ι, h, sr, R, q⟩ => ⟨τ, ι, h, sr, R, q.bind fun ι1 H1 us h1 xs E1 R1 r1 q1 => by
  cases hf : fits us.length with
  | false =>
    rw [hf] at q1
    exact q1.elim
  | true =>
    rw [hf] at q1
    refine ⟨by rw [← r1.length]; exact fits_le hf, fun p hp => ?_⟩
    exact q1 _ _ _ (Ext.fresh hp) (R1.fresh hp) (.tup (.inl (.inl upd_same)) (VRels.ext (Ext.fresh hp) r1))⟩
end
end Sm

set_option Elab.async false
set_option linter.all false
set_option maxRecDepth 100000
set_option maxHeartbeats 2000000
/-! Sim, part 3: statements, loops, what a def promises. -/
namespace Sm
open PySem PySem.Spec PyProof.Rows L2

inductive RS where
  | nx (τ : Sl) (h : Hs) | rt (u : U) (h : Hs) | bk (τ : Sl) (h : Hs) | ct (τ : Sl) (h : Hs) | err (e : Ex) (τ : Sl) (h : Hs) | no
abbrev SM := Sl → Hs → RS
def R.st {α : Type} (r : R α) (τ : Sl) (f : α → Hs → RS) : RS := match r with
  | .ok a h => f a h
  | .err e h => .err e τ h
  | .no => .no
def AftS (G : Wd) (W : L2.St → XK) (ι : List Addr) (H : Hp) (D : Ends) : RS → Prop
  | .nx τ' h' => ∀ ι' H' σ', Ext ι H ι' H' → Rep G ι' h' H' → SRel G ι' H' τ' σ' → D.nx σ' H'
  | .rt u h' => ∀ ι' H' v, Ext ι H ι' H' → Rep G ι' h' H' → VRel G ι' H' u v → D.rt v H'
  | .bk τ' h' => ∀ ι' H' σ', Ext ι H ι' H' → Rep G ι' h' H' → SRel G ι' H' τ' σ' → D.bk σ' H'
  | .ct τ' h' => ∀ ι' H' σ', Ext ι H ι' H' → Rep G ι' h' H' → SRel G ι' H' τ' σ' → D.ct σ' H'
  | .err e τ' h' => ∀ ι' H' σ' cls d, Ext ι H ι' H' → Rep G ι' h' H' → SRel G ι' H' τ' σ' → ERel G ι' H' e cls d → W σ' cls d H'
  | .no => False
section
variable {G : Wd} {α β : Type} {RR : List Addr → Hp → α → β → Prop} {W : L2.St → XK} {ι ι1 : List Addr} {H H1 : Hp} {D D' : Ends} {r : RS} {τ : Sl} {σ : L2.St} {h : Hs}
theorem AftS.ext (E : Ext ι H ι1 H1) (q : AftS G W ι H D r) : AftS G W ι1 H1 D r := by
  cases r with
  | nx τ' h' => exact fun ι' H' σ' E' R s => q ι' H' σ' (E.trans E') R s
  | rt u h' => exact fun ι' H' v E' R s => q ι' H' v (E.trans E') R s
  | bk τ' h' => exact fun ι' H' σ' E' R s => q ι' H' σ' (E.trans E') R s
  | ct τ' h' => exact fun ι' H' σ' E' R s => q ι' H' σ' (E.trans E') R s
  | err e τ' h' => exact fun ι' H' σ' cls d E' R s x => q ι' H' σ' cls d (E.trans E') R s x
  | no => exact q
theorem AftS.bind {m : R α} {f : α → Hs → RS} {Q1 : β → Hp → Prop} (q : AftS G W ι H D (m.st τ f)) (sr : SRel G ι H τ σ)
    (k : ∀ ι1 H1 a h1 b, Ext ι H ι1 H1 → Rep G ι1 h1 H1 → RR ι1 H1 a b → AftS G W ι1 H1 D (f a h1) → Q1 b H1) : Aft G RR (W σ) ι H Q1 m := by
  cases m with
  | ok a h' => exact fun ι' H' b E R r => k ι' H' a h' b E R r (AftS.ext E q)
  | err e h' => exact fun ι' H' cls d E R x => q ι' H' σ cls d E R (sr.ext E) x
  | no => exact q
theorem AftS.nx_now (q : AftS G W ι H D (.nx τ h)) (R : Rep G ι h H) (s : SRel G ι H τ σ) : D.nx σ H := q ι H σ Ext.refl R s
end
def tS (G : Wd) (W : L2.St → XK) (m : SM) : TS := fun D σ H => ∃ τ ι h, SRel G ι H τ σ ∧ Rep G ι h H ∧ AftS G W ι H D (m τ h)
abbrev SS (X : Cx) (G : Wd) (W : L2.St → XK) (st : Stmt) (m : SM) : Prop := PS X st (tS G W m)
abbrev SB (X : Cx) (G : Wd) (W : L2.St → XK) (st : List Stmt) (m : SM) : Prop := PSs X st (tS G W m)
theorem _root_.L2.PS.imp {X : Cx} {e : Stmt} {t t' : TS} (h : PS X e t) (i : ∀ D σ H, t' D σ H → t D σ H) : PS X e t' := ⟨fun pins s σ H D I q => h.run pins s σ H D I (i D σ H q)⟩
theorem _root_.L2.PSs.imp {X : Cx} {e : List Stmt} {t t' : TS} (h : PSs X e t) (i : ∀ D σ H, t' D σ H → t D σ H) : PSs X e t' := ⟨fun pins s σ H D I q => h.run pins s σ H D I (i D σ H q)⟩
theorem _root_.L2.PG.imp {X : Cx} {e : Expr} {t t' : TG} (h : PG X e t) (i : ∀ v σ H Q, t' v σ H Q → t v σ H Q) : PG X e t' := ⟨fun pins s σ H v u Q I r q => h.run pins s σ H v u Q I r (i v σ H Q q)⟩

/-! ### simple statements -/
def mNx : SM := fun τ h => .nx τ h
def mBk : SM := fun τ h => .bk τ h
def mCt : SM := fun τ h => .ct τ h
def mEx (a : EM) : SM := fun τ h => (a τ h).st τ fun _ h1 => .nx τ h1
def mRet (a : EM) : SM := fun τ h => (a τ h).st τ fun u h1 => .rt u h1
def mRetN : SM := fun _ h => .rt .non h
def mSeq (s t : SM) : SM := fun τ h => match s τ h with
  | .nx τ1 h1 => t τ1 h1
  | .rt u h1 => .rt u h1
  | .bk τ1 h1 => .bk τ1 h1
  | .ct τ1 h1 => .ct τ1 h1
  | .err e τ1 h1 => .err e τ1 h1
  | .no => .no
def mIfS (c : TM) (s t : SM) : SM := fun τ h => (c τ h).st τ fun b h1 => match b with
  | true => s τ h1
  | false => t τ h1
section
variable {X : Cx} {G : Wd} {W : L2.St → XK} {pos : Pos} {e : Expr} {m : EM} {st : Stmt} {rest : List Stmt} {s t : SM}
theorem ss_pass : SS X G W (.Pass pos) mNx := ps_pass.imp fun D σ H ⟨τ, ι, h, sr, R, q⟩ => q.nx_now R sr
theorem ss_break : SS X G W (.Break pos) mBk := ps_break.imp fun D σ H ⟨τ, ι, h, sr, R, q⟩ => q ι H σ Ext.refl R sr
theorem ss_cont : SS X G W (.Continue pos) mCt := ps_continue.imp fun D σ H ⟨τ, ι, h, sr, R, q⟩ => q ι H σ Ext.refl R sr
theorem ss_expr (he : SE X G W e m) (hs : swapsWith e none pos.line X.env = pure false := by rfl) : SS X G W (.Expr e pos) (mEx m) := (ps_expr he hs).imp fun D σ H ⟨τ, ι, h, sr, R, q⟩ => ⟨τ, ι, h, sr, R, q.bind sr fun ι1 H1 a h1 b E1 R1 _ q1 => q1.nx_now R1 (sr.ext E1)⟩
theorem ss_ret (he : SE X G W e m) : SS X G W (.Return (some e) pos) (mRet m) := (ps_ret he).imp fun D σ H ⟨τ, ι, h, sr, R, q⟩ => ⟨τ, ι, h, sr, R, q.bind sr fun ι1 H1 a h1 b E1 R1 r1 q1 => q1 ι1 H1 b Ext.refl R1 r1⟩
theorem ss_retN : SS X G W (.Return none pos) mRetN := ps_retN.imp fun D σ H ⟨τ, ι, h, sr, R, q⟩ => q ι H .non Ext.refl R .non
theorem t_seq {ts tt : TS} (h1 : ∀ D σ H, tS G W s D σ H → ts D σ H) (h2 : ∀ D σ H, tS G W t D σ H → tt D σ H) {D : Ends} {σ : L2.St} {H : Hp} (q : tS G W (mSeq s t) D σ H) : tSeq ts tt D σ H := by
  obtain ⟨τ, ι, h, sr, R, q⟩ := q
  refine h1 _ σ H ⟨τ, ι, h, sr, R, ?_⟩
  unfold mSeq at q
  cases e : s τ h with
  | nx τ1 k1 =>
    rw [e] at q
    exact fun ι' H' σ' E R' s' => h2 D σ' H' ⟨τ1, ι', k1, s', R', AftS.ext E q⟩
  | rt u k1 =>
    rw [e] at q
    exact q
  | bk τ1 k1 =>
    rw [e] at q
    exact q
  | ct τ1 k1 =>
    rw [e] at q
    exact q
  | err x τ1 k1 =>
    rw [e] at q
    exact q
  | no =>
    rw [e] at q
    exact q
theorem sb_nil : SB X G W [] mNx := pss_nil.imp fun D σ H ⟨τ, ι, h, sr, R, q⟩ => q.nx_now R sr
theorem sb_one (h : SS X G W st s) : SB X G W [st] s := pss_one h
theorem sb_cons (h1 : SS X G W st s) (h2 : SB X G W rest t) : SB X G W (st :: rest) (mSeq s t) := (pss_cons h1 h2).imp fun D σ H q => t_seq (fun _ _ _ q => q) (fun _ _ _ q => q) q
theorem ss_if {c : Expr} {a b : List Stmt} {tc : TM} (hc : ST X G W c tc) (ha : SB X G W a s) (hb : SB X G W b t) : SS X G W (.If c a b pos) (mIfS tc s t) := (ps_if hc ha hb).imp fun D σ H ⟨τ, ι, h, sr, R, q⟩ => ⟨τ, ι, h, sr, R, q.bind sr fun ι1 H1 u h1 x E1 R1 r1 q1 => by
  cases r1
  cases u with
  | true => exact ⟨τ, ι1, h1, sr.ext E1, R1, q1⟩
  | false => exact ⟨τ, ι1, h1, sr.ext E1, R1, q1⟩⟩

/-! ### targets: they raise nothing -/
abbrev GM := U → Sl → Hs → Option (Sl × Hs)
def tG (G : Wd) (g : GM) : TG := fun v σ H Q => ∃ u τ ι h, SRel G ι H τ σ ∧ Rep G ι h H ∧ VRel G ι H u v ∧ AftO G (SRel G) ι H Q (g u τ h)
abbrev SG (X : Cx) (G : Wd) (e : Expr) (g : GM) : Prop := PG X e (tG G g)
def gN (i : Nat) : GM := fun u τ h => some (τ.set i (some u), h)
theorem g_name {i : Nat} {x : Str} (hN : X.N.Nodup) (hi : X.N[i]? = some x) (hx : Loc X.env.scope x) (hf : X.fn x = true ∨ X.env.scope.names.lookup x = some .local := by first | exact .inl rfl | exact .inr rfl | assumption) : SG X G (.Name x pos) (gN i) :=
  (pg_name (i := i) hN hi hx hf).imp fun v σ H Q ⟨u, τ, ι, h, sr, R, r, q⟩ => q ι H _ Ext.refl R (sr.set i r)
/-- several targets -/
abbrev GsM := List U → Sl → Hs → Option (Sl × Hs)
def gNil : GsM := fun us τ h => match us with
  | [] => some (τ, h)
  | _ => none
def gCons (g : GM) (gs : GsM) : GsM := fun us τ h => match us with
  | u :: r => match g u τ h with
    | some (τ1, h1) => gs r τ1 h1
    | none => none
  | [] => none
def tGs (G : Wd) (g : GsM) : TGs := fun vs σ H Q => ∃ us τ ι h, SRel G ι H τ σ ∧ Rep G ι h H ∧ VRels G ι H us vs ∧ AftO G (SRel G) ι H Q (g us τ h)
theorem _root_.L2.PGs.imp {X : Cx} {e : List Expr} {t t' : TGs} (h : PGs X e t) (i : ∀ v σ H Q, t' v σ H Q → t v σ H Q) : PGs X e t' := ⟨fun pins s σ H v u Q I r q => h.run pins s σ H v u Q I r (i v σ H Q q)⟩
theorem AftO.ext {α β : Type} {RR : List Addr → Hp → α → β → Prop} {ι ι1 : List Addr} {H H1 : Hp} {Q : β → Hp → Prop} {r : Option (α × Hs)} (E : Ext ι H ι1 H1) (q : AftO G RR ι H Q r) : AftO G RR ι1 H1 Q r := by
  cases r with
  | some p => exact fun ι' H' b E' R r => q ι' H' b (E.trans E') R r
  | none => exact q
theorem gs_nil : PGs X [] (tGs G gNil) := pgs_nil.imp fun vs σ H Q ⟨us, τ, ι, h, sr, R, r, q⟩ => by
  cases r with
  | nil => exact ⟨rfl, q.now R sr⟩
  | cons => exact q.elim
theorem gs_cons {es : List Expr} {g : GM} {gs : GsM} (h1 : SG X G e g) (h2 : PGs X es (tGs G gs)) (hs : (assignEach (e :: es) X.env).map (·.2) = assign e X.env :: (assignEach es X.env).map (·.2) := by rfl) : PGs X (e :: es) (tGs G (gCons g gs)) :=
  (pgs_cons h1 h2 hs).imp fun vs σ H Q ⟨us, τ, ι, h, sr, R, r, q⟩ => by
    cases r with
    | nil => exact q.elim
    | @cons u v us vs r1 r2 =>
      refine ⟨v, vs, rfl, u, τ, ι, h, sr, R, r1, ?_⟩
      have q' : AftO G (SRel G) ι H Q (match g u τ h with
        | some (τ1, h1) => gs us τ1 h1
        | none => none) := q
      cases eg : g u τ h with
      | none =>
        rw [eg] at q'
        exact q'.elim
      | some p =>
        rw [eg] at q'
        exact fun ι' H' σ' E R' s' => ⟨us, p.1, ι', p.2, s', R', VRels.ext E r2, AftO.ext E q'⟩
/-- a, b = e, e a tuple -/
def gT (n : Nat) (gs : GsM) : GM := fun u τ h => match u with
  | .tup us => match Nat.beq us.length n with
    | true => gs us τ h
    | false => none
  | _ => none
theorem g_tup {es : List Expr} {k : Nat} {gs : GsM} {n : Nat} (hk : G.K = X.K) (hc : X.calm = true) (h : PGs X es (tGs G gs)) (hn : (assignEach es X.env).length = n := by rfl) (hst : (assignEach es X.env).findIdx? (·.1) = none := by rfl) :
    SG X G (.Tuple es k pos) (gT n gs) := (pg_tup hc h hn hst).imp fun v σ H Q ⟨u, τ, ι, h, sr, R, r, q⟩ => by
  cases r with
  | @tup us a vs r1 r2 =>
    have q' : AftO G (SRel G) ι H Q (match Nat.beq us.length n with
      | true => gs us τ h
      | false => none) := q
    cases e : Nat.beq us.length n with
    | false =>
      rw [e] at q'
      exact q'.elim
    | true =>
      rw [e] at q'
      exact ⟨a, vs, rfl, by rw [← hk]; exact r1, by rw [← r2.length]; exact Nat.eq_of_beq_eq_true e, us, τ, ι, h, sr, R, r2, q'⟩
  | _ => exact q.elim
/-- target = e -/
def mAsg (a : EM) (g : GM) : SM := fun τ h => (a τ h).st τ fun u h1 => match g u τ h1 with
  | some (τ2, h2) => .nx τ2 h2
  | none => .no
theorem t_asg {te : TE} {tg : TG} {g : GM} (h1 : ∀ σ H Q, tM G W m σ H Q → te σ H Q) (h2 : ∀ v σ H Q, tG G g v σ H Q → tg v σ H Q) {D : Ends} {σ : L2.St} {H : Hp} (q : tS G W (mAsg m g) D σ H) : tAsg te tg D σ H := by
  obtain ⟨τ, ι, h, sr, R, q⟩ := q
  refine h1 σ H _ ⟨τ, ι, h, sr, R, q.bind sr fun ι1 H1 u k1 v E1 R1 r1 q1 => h2 v σ H1 _ ⟨u, τ, ι1, k1, sr.ext E1, R1, r1, ?_⟩⟩
  cases e : g u τ k1 with
  | none =>
    rw [e] at q1
    exact q1.elim
  | some p =>
    rw [e] at q1
    exact fun ι' H' σ' E R' s' => q1 ι' H' σ' E R' s'
theorem ss_set (i : Nat) {x : Str} {pos' : Pos} (hN : X.N.Nodup) (hi : X.N[i]? = some x) (hx : Loc X.env.scope x) (he : SE X G W e m) (hs : swapsWith e (some (.Name x pos')) pos.line X.env = pure false := by rfl) (hf : X.fn x = true ∨ X.env.scope.names.lookup x = some .local := by first | exact .inl rfl | exact .inr rfl | assumption) :
    SS X G W (.Assign [.Name x pos'] e pos) (mAsg m (gN i)) :=
  (ps_set (i := i) hN hi hx he hs hf).imp fun D σ H q => t_asg (fun _ _ _ q => q) (fun v σ H Q ⟨u, τ, ι, h, sr, R, r, q⟩ => q ι H _ Ext.refl R (sr.set i r)) q
theorem ss_asg {tg : Expr} {g : GM} (he : SE X G W e m) (hg : SG X G tg g) (hs : swapsWithSole [tg] e pos.line X.env = pure false := by rfl) (hw : swappedStores [tg] e X.env = pure none := by rfl)
    (h1 : (assignEach [tg] X.env).map (·.2) = [assign tg X.env] := by rfl) : SS X G W (.Assign [tg] e pos) (mAsg m g) :=
  (ps_asg he hg hs hw h1).imp fun D σ H q => t_asg (fun _ _ _ q => q) (fun _ _ _ _ q => q) q
/-- a, b = e, f, local names -/
def mPar (i j : Nat) (a : AM) : SM := fun τ h => (a τ h).st τ fun us h1 => match us with
  | [u, w] => .nx ((τ.set i (some u)).set j (some w)) h1
  | _ => .no
theorem ss_par (i j : Nat) {x y : Str} {a b : Expr} {ms : AM} {px py pt : Pos} {kt k2 pt2} (hc : X.calm = true) (hN : X.N.Nodup) (hi : X.N[i]? = some x) (hj : X.N[j]? = some y) (hij : i ≠ j)
    (hx : X.env.scope.names.lookup x = some .local) (hy : X.env.scope.names.lookup y = some .local) (ha : SA X G W [a, b] ms)
    (hw : swappedStores [.Tuple [.Name x px, .Name y py] kt pt] (.Tuple [a, b] k2 pt2) X.env = pure (some [x, y]) := by rfl)
    (hs : swapsWithSole [.Tuple [.Name x px, .Name y py] kt pt] (.Tuple [a, b] k2 pt2) pos.line X.env = pure false := by rfl) :
    SS X G W (.Assign [.Tuple [.Name x px, .Name y py] kt pt] (.Tuple [a, b] k2 pt2) pos) (mPar i j ms) := (ps_par hc hN hi hj hij hx hy ha hw hs).imp fun D σ H ⟨τ, ι, h, sr, R, q⟩ => ⟨τ, ι, h, sr, R, q.bind sr fun ι1 H1 us h1 xs E1 R1 r1 q1 => by
  cases r1 with
  | nil => exact q1.elim
  | @cons u v _ _ ru r1 =>
    cases r1 with
    | nil => exact q1.elim
    | @cons w v' _ _ rw r1 =>
      cases r1 with
      | cons => exact q1.elim
      | nil => exact ⟨v, v', rfl, q1.nx_now R1 (((sr.ext E1).set i ru).set j rw)⟩⟩

/-! ### loops -/
/-- while -/
def mWhile (c : TM) (b : SM) : Nat → SM
  | 0 => fun _ _ => .no
  | f + 1 => fun τ h => (c τ h).st τ fun k h1 => match k with
    | true => match b τ h1 with
      | .nx τ2 h2 => mWhile c b f τ2 h2
      | .ct τ2 h2 => mWhile c b f τ2 h2
      | .bk τ2 h2 => .nx τ2 h2
      | .rt u h2 => .rt u h2
      | .err x τ2 h2 => .err x τ2 h2
      | .no => .no
    | false => .nx τ h1
/-- behind a turn: again, on, or out -/
theorem turn_out {N : L2.St → Hp → Prop} {D : Ends} {ι : List Addr} {H : Hp} {r : RS} {k : Sl → Hs → RS} (hN : ∀ ι' H' σ' τ' h', Ext ι H ι' H' → Rep G ι' h' H' → SRel G ι' H' τ' σ' → AftS G W ι' H' D (k τ' h') → N σ' H')
    (q : AftS G W ι H D (match r with
      | .nx τ2 h2 => k τ2 h2
      | .ct τ2 h2 => k τ2 h2
      | .bk τ2 h2 => .nx τ2 h2
      | .rt u h2 => .rt u h2
      | .err x τ2 h2 => .err x τ2 h2
      | .no => .no)) : AftS G W ι H { D with nx := N, ct := N, bk := D.nx } r := by
  cases r with
  | nx τ2 h2 => exact fun ι' H' σ' E R s => hN ι' H' σ' τ2 h2 E R s (AftS.ext E q)
  | ct τ2 h2 => exact fun ι' H' σ' E R s => hN ι' H' σ' τ2 h2 E R s (AftS.ext E q)
  | bk τ2 h2 => exact q
  | rt u h2 => exact q
  | err x τ2 h2 => exact q
  | no => exact q
theorem ss_while (f : Nat) {c : Expr} {body : List Stmt} {tc : TM} {b : SM} (hp : PassesOwn (model X.prog X.w) X.A X.env X.xe) (hc : ST X G W c tc) (hb : SB X G W body b) : SS X G W (.While c body [] pos) (mWhile tc b f) :=
  (ps_while hp hc hb).imp fun D σ H ⟨τ, ι, h, sr, R, q⟩ => by
    refine ⟨fun m σ H => ∃ τ ι h, SRel G ι H τ σ ∧ Rep G ι h H ∧ AftS G W ι H D (mWhile tc b m τ h), ⟨f, τ, ι, h, sr, R, q⟩, fun m σ H ⟨τ, ι, h, sr, R, q⟩ => ?_⟩
    cases m with
    | zero => exact q.elim
    | succ m =>
      refine ⟨τ, ι, h, sr, R, q.bind sr fun ι1 H1 k h1 k' E1 R1 r1 q1 => ?_⟩
      cases r1
      cases k with
      | true => exact ⟨_, fun σ' H' w => ⟨m, Nat.lt_succ_self m, w⟩, τ, ι1, h1, sr.ext E1, R1, turn_out (fun ι' H' σ' τ' h' E R s q => ⟨τ', ι', h', s, R, q⟩) q1⟩
      | false => exact q1.nx_now R1 (sr.ext E1)
/-- for over a list, as it stands at each turn -/
def mForL (g : GM) (b : SM) (i : Nat) : Nat → Nat → SM
  | 0, _ => fun _ _ => .no
  | f + 1, j => fun τ h => match h.get i with
    | some (.lst xs) => match xs[j]? with
      | some u => match g u τ h with
        | some (τ1, h1) => match b τ1 h1 with
          | .nx τ2 h2 => mForL g b i f (j + 1) τ2 h2
          | .ct τ2 h2 => mForL g b i f (j + 1) τ2 h2
          | .bk τ2 h2 => .nx τ2 h2
          | .rt u h2 => .rt u h2
          | .err x τ2 h2 => .err x τ2 h2
          | .no => .no
        | none => .no
      | none => .nx τ h
    | _ => .no
/-- for over a tuple -/
def mForT (g : GM) (b : SM) : List U → SM
  | [] => fun τ h => .nx τ h
  | u :: r => fun τ h => match g u τ h with
    | some (τ1, h1) => match b τ1 h1 with
      | .nx τ2 h2 => mForT g b r τ2 h2
      | .ct τ2 h2 => mForT g b r τ2 h2
      | .bk τ2 h2 => .nx τ2 h2
      | .rt u h2 => .rt u h2
      | .err x τ2 h2 => .err x τ2 h2
      | .no => .no
    | none => .no
/-- for over lo, lo + 1, .. -/
def mForR (g : GM) (b : SM) : Int → Nat → SM
  | _, 0 => fun τ h => .nx τ h
  | lo, n + 1 => fun τ h => match g (.int lo) τ h with
    | some (τ1, h1) => match b τ1 h1 with
      | .nx τ2 h2 => mForR g b (lo + 1) n τ2 h2
      | .ct τ2 h2 => mForR g b (lo + 1) n τ2 h2
      | .bk τ2 h2 => .nx τ2 h2
      | .rt u h2 => .rt u h2
      | .err x τ2 h2 => .err x τ2 h2
      | .no => .no
    | none => .no
/-- what is walked: a list or a tuple, by value -/
def mFor (a : EM) (g : GM) (b : SM) (f : Nat) : SM := fun τ h => (a τ h).st τ fun u h1 => match u with
  | .ref i => mForL g b i f 0 τ h1
  | .tup xs => mForT g b xs τ h1
  | _ => .no
end
theorem VRels.get {G : Wd} {ι : List Addr} {H : Hp} : ∀ {us : List U} {vs : List V} {i : Nat}, VRels G ι H us vs → (∀ u, us[i]? = some u → ∃ v, vs[i]? = some v ∧ VRel G ι H u v) ∧ (us[i]? = none → vs[i]? = none)
  | _, _, i, .nil => ⟨fun u e => by simp at e, fun _ => by simp⟩
  | _, _, 0, .cons r _ => ⟨fun u e => by
      simp at e
      subst e
      exact ⟨_, by simp, r⟩, fun e => by simp at e⟩
  | _, _, i + 1, .cons _ t => by
    obtain ⟨h1, h2⟩ := VRels.get (i := i) t
    exact ⟨fun u e => by
      obtain ⟨v, e1, e2⟩ := h1 u (by simpa using e)
      exact ⟨v, by simpa using e1, e2⟩, fun e => by
      have := h2 (by simpa using e)
      simpa using this⟩
section
variable {X : Cx} {G : Wd} {W : L2.St → XK} {pos : Pos} {e : Expr} {m : EM}
/-- a value's walk, whichever it is -/
theorem ss_for (f : Nat) {tg : Expr} {body : List Stmt} {g : GM} {b : SM} (hk : G.K = X.K) (hp : PassesOwn (model X.prog X.w) X.A X.env X.xe) (hc : X.calm = true) (he : SE X G W e m) (hg : SG X G tg g) (hb : SB X G W body b)
    (hs : ∀ x, foldedSetIterable e X.env x = pure x := by intro _; rfl) : SS X G W (.For tg e body [] pos) (mFor m g b f) := by
  refine ⟨fun pins s σ H D I ⟨τ, ι, h, sr, R, q⟩ => ?_⟩
  unfold mFor at q
  -- one turn: the target, the body
  have turn : ∀ {N : L2.St → Hp → Prop} {ι1 : List Addr} {H1 : Hp} {τ1 : Sl} {σ1 : L2.St} {h1 : Hs} {u : U} {x : V} {k : Sl → Hs → RS}, SRel G ι1 H1 τ1 σ1 → Rep G ι1 h1 H1 → VRel G ι1 H1 u x →
      (∀ ι' H' σ' τ' h', Ext ι1 H1 ι' H' → Rep G ι' h' H' → SRel G ι' H' τ' σ' → AftS G W ι' H' D (k τ' h') → N σ' H') →
      AftS G W ι1 H1 D (match g u τ1 h1 with
        | some (τ2, h2) => match b τ2 h2 with
          | .nx τ2 h2 => k τ2 h2
          | .ct τ2 h2 => k τ2 h2
          | .bk τ2 h2 => .nx τ2 h2
          | .rt u h2 => .rt u h2
          | .err x τ2 h2 => .err x τ2 h2
          | .no => .no
        | none => .no) → tG G g x σ1 H1 fun σ2 H2 => tS G W b { D with nx := N, ct := N, bk := D.nx } σ2 H2 := by
    intro N ι1 H1 τ1 σ1 h1 u x k s1 R1 r1 hN q1
    refine ⟨u, τ1, ι1, h1, s1, R1, r1, ?_⟩
    cases eg : g u τ1 h1 with
    | none =>
      rw [eg] at q1
      exact q1.elim
    | some p =>
      rw [eg] at q1
      refine fun ι' H' σ' E R' s' => ⟨p.1, ι', p.2, s', R', turn_out (k := k) (fun ι'' H'' σ'' τ'' h'' E' R'' s'' q'' => hN ι'' H'' σ'' τ'' h'' (E.trans E') R'' s'' q'') (AftS.ext E q1)⟩
  cases em : m τ h with
  | no =>
    rw [em] at q
    exact q.elim
  | err x k =>
    rw [em] at q
    refine (ps_for hp hc (pi_list he) hg hb hs).run pins s σ H D I ⟨τ, ι, h, sr, R, ?_⟩
    rw [em]
    exact fun ι' H' cls d E R' x => q ι' H' σ cls d E R' (sr.ext E) x
  | ok u k =>
    rw [em] at q
    cases u with
    | ref i =>
      refine (ps_for hp hc (pi_list he) hg hb hs).run pins s σ H D I ⟨τ, ι, h, sr, R, ?_⟩
      rw [em]
      intro ι1 H1 v E1 R1 r1
      have q1 : AftS G W ι1 H1 D (mForL g b i f 0 τ k) := AftS.ext E1 q
      cases r1 with
      | @ref _ a ea =>
        have hl : ∃ xs, SqL X.K H1 a xs := by
          obtain ⟨o, ho, e1, e2, e3⟩ := R1.ob i a ea
          cases f with
          | zero => exact q1.elim
          | succ f =>
            unfold mForL at q1
            rw [e1] at q1
            cases e3 with
            | lst r => exact ⟨_, .inl (.inl e2)⟩
            | dic => exact q1.elim
            | ins => exact q1.elim
        refine ⟨a, rfl, hl, fun j m σ H => ∃ τ ι h, SRel G ι H τ σ ∧ Rep G ι h H ∧ ι[i]? = some a ∧ AftS G W ι H D (mForL g b i m j τ h), ⟨f, τ, ι1, k, sr.ext E1, R1, ea, q1⟩, fun j m σ H ⟨τ, ι, h, sr, R, ea, q⟩ => ?_⟩
        cases m with
        | zero => exact q.elim
        | succ m =>
          unfold mForL at q
          obtain ⟨o, ho, e1, e2, e3⟩ := R.ob i a ea
          rw [e1] at q
          cases e3 with
          | dic => exact q.elim
          | ins => exact q.elim
          | @lst xs vs r =>
            have hq : SqL X.K H a vs := .inl (.inl e2)
            cases ej : xs[j]? with
            | none =>
              simp only [ej] at q
              exact .inl ⟨⟨vs, hq, List.getElem?_eq_none_iff.mp (r.get.2 ej)⟩, q.nx_now R sr⟩
            | some u =>
              simp only [ej] at q
              obtain ⟨v, ev, rv⟩ := r.get.1 u ej
              refine .inr ⟨⟨vs, v, hq, ev⟩, _, fun σ' H' w => ⟨m, Nat.lt_succ_self m, w⟩, fun x H' ⟨eH, hx⟩ => ?_⟩
              subst eH
              have e : v = x := by
                have e := hx vs hq
                rw [ev] at e
                exact Option.some.inj e
              subst e
              exact turn (k := fun τ' h' => mForL g b i m (j + 1) τ' h') sr R rv (fun ι' H' σ' τ' h' E R' s' q' => ⟨τ', ι', h', s', R', E.pre _ _ ea, q'⟩) q
    | tup xs =>
      refine (ps_for hp hc (pi_tup he) hg hb hs).run pins s σ H D I ⟨τ, ι, h, sr, R, ?_⟩
      rw [em]
      intro ι1 H1 v E1 R1 r1
      have q1 : AftS G W ι1 H1 D (mForT g b xs τ k) := AftS.ext E1 q
      cases r1 with
      | @tup _ a vs ht rs =>
        have ht' : SqT X.K H1 a vs := by rw [← hk]; exact ht
        refine ⟨a, rfl, ⟨vs, ht'⟩, fun j m σ H => ∃ τ ι h, SRel G ι H τ σ ∧ Rep G ι h H ∧ SqT X.K H a vs ∧ VRels G ι H (xs.drop j) (vs.drop j) ∧ m = (xs.drop j).length ∧ AftS G W ι H D (mForT g b (xs.drop j) τ h),
          ⟨xs.length, τ, ι1, k, sr.ext E1, R1, ht', rs, rfl, q1⟩, fun j m σ H ⟨τ, ι, h, sr, R, ht, rs, em, q⟩ => ?_⟩
        cases ed : xs.drop j with
        | nil =>
          rw [ed] at q rs
          have hv : vs.drop j = [] := by
            cases ev : vs.drop j with
            | nil => rfl
            | cons y ys =>
              rw [ev] at rs
              cases rs
          exact .inl ⟨⟨vs, ht, List.drop_eq_nil_iff.mp hv⟩, q.nx_now R sr⟩
        | cons u r =>
          rw [ed] at q rs em
          have er : xs.drop (j + 1) = r := by
            rw [← List.drop_drop, ed]
            rfl
          cases ev : vs.drop j with
          | nil =>
            rw [ev] at rs
            cases rs
          | cons y ys =>
            rw [ev] at rs
            have ey : vs.drop (j + 1) = ys := by
              rw [← List.drop_drop, ev]
              rfl
            have hy : vs[j]? = some y := by
              have : (vs.drop j)[0]? = some y := by rw [ev]; rfl
              rw [List.getElem?_drop] at this
              exact this
            cases rs with
            | cons r1 r2 =>
              refine .inr ⟨⟨vs, y, ht, hy⟩, fun σ H => ∃ τ ι h, SRel G ι H τ σ ∧ Rep G ι h H ∧ SqT X.K H a vs ∧ VRels G ι H (xs.drop (j + 1)) (vs.drop (j + 1)) ∧ AftS G W ι H D (mForT g b (xs.drop (j + 1)) τ h), fun σ' H' ⟨τ', ι', h', w1, w2, w3, w4, w5⟩ => ⟨r.length, by rw [em]; exact Nat.lt_succ_self _, τ', ι', h', w1, w2, w3, w4, by rw [er], w5⟩, fun x H' ⟨eH, hx⟩ => ?_⟩
              subst eH
              have e : y = x := by
                have e := hx vs ht
                rw [hy] at e
                exact Option.some.inj e
              subst e
              refine turn (k := fun τ' h' => mForT g b r τ' h') sr R r1 (fun ι' H' σ' τ' h' E R' s' q' => ⟨τ', ι', h', s', R', SqT.ext E ht, ?_, ?_⟩) q
              · rw [er, ey]
                exact VRels.ext E r2
              · rw [er]
                exact q'
    | _ => exact q.elim
end
end Sm

set_option Elab.async false
set_option linter.all false
set_option maxRecDepth 100000
set_option maxHeartbeats 2000000
/-! Sim, part 4: what a def promises; calls, methods, instances, fields. -/
namespace Sm
open PySem PySem.Spec PyProof.Rows L2

/-! ### a def -/
abbrev FM := List U → Hs → R U
def spM (G : Wd) (m : FM) : Sp := fun vs H Q E => ∃ us ι h, VRels G ι H us vs ∧ Rep G ι h H ∧ Aft G (VRel G) E ι H Q (m us h)
/-- the body b, of n parameters and N names -/
def runF (n N : Nat) (b : SM) : FM := fun us h => match Nat.beq us.length n with
  | true => match b (us.map some ++ List.replicate (N - n) none) h with
    | .nx _ h1 => .ok .non h1
    | .rt u h1 => .ok u h1
    | .err e _ h1 => .err e h1
    | _ => .no
  | false => .no
/-- the wish of a def's own body -/
abbrev wx (W : L2.St → XK) : WX := fun cls d σ H => W σ cls d H
structure Fn (P : Program) (w : World) (K : PySem.W.Frag) (mg : Str → Option Value) (base : Heap) (G : Wd) (k : Nat) (f : Addr) (m : FM) : Prop where
  ex : ∃ fd ps, FnOk P w K mg base (L2.CX P w) k f fd ps (spM G m) ∧ Binds K fd ps []
  kp : PySem.W.keepIn K (.ref f) = true
section
variable {P : Program} {w : World} {K : PySem.W.Frag} {mg : Str → Option Value} {base : Heap} {G : Wd}
theorem VRels.start {ι : List Addr} {H : Hp} {N ps : List Str} : ∀ {us : List U} {vs : List V}, VRels G ι H us vs → us.length = ps.length → SRel G ι H (us.map some ++ List.replicate (N.length - ps.length) none) (start N vs) := fun {us vs} r hl => by
  have e : vs.length = ps.length := by rw [← r.length]; exact hl
  refine ⟨by unfold L2.start; simp [r.length, e], fun i u hu => ?_⟩
  by_cases hi : i < us.length
  · rw [List.getElem?_append_left (by simpa using hi), List.getElem?_map] at hu
    cases eu : us[i]? with
    | none =>
      rw [eu] at hu
      cases hu
    | some u' =>
      rw [eu] at hu
      cases hu
      obtain ⟨v, e1, e2⟩ := r.get.1 u eu
      refine ⟨v, ?_, e2⟩
      unfold L2.start
      rw [List.getElem?_append_left (by rw [List.length_map, ← r.length]; exact hi), List.getElem?_map, e1]
      rfl
  · rw [List.getElem?_append_right (by simpa using hi), List.getElem?_replicate] at hu
    split at hu <;> cases hu
theorem fn_def {x qual : Str} {params : Arguments} {body : List Stmt} {scope : Scope} {dvs : List V} {kws : List (Str × V)} {f : Addr} {fd : FuncData} {N ps : List Str} {k : Nat} {b : SM} (F : FunD K x qual params body scope dvs kws f fd) (S : FnScope N ps scope)
    (hb : ∀ (cdv : Value) (A : Around) (outer : List Env) (s : Shared) (H : Hp) (E : XK), Room k (A.deeper (envOfC qual scope s.heap.objs.size f cdv)) → SB (cxOf (L2.CX P w) P w K mg base N qual scope f cdv A outer s H E) G (fun _ => E) body b) :
    FnOk P w K mg base (L2.CX P w) (k + 1) f fd ps (spM G (runF ps.length N.length b)) := by
  have key : ∀ {us : List U} {h : Hs} {E : XK} {ι : List Addr} {H : Hp} {Q : VK}, Aft G (VRel G) E ι H Q (runF ps.length N.length b us h) → us.length = ps.length ∧
      AftS G (fun _ => E) ι H { nx := fun _ H' => Q .non H', rt := Q } (b (us.map some ++ List.replicate (N.length - ps.length) none) h) := fun {us h E ι H Q} q => by
    unfold runF at q
    cases e : Nat.beq us.length ps.length with
    | false =>
      rw [e] at q
      exact q.elim
    | true =>
      rw [e] at q
      refine ⟨Nat.eq_of_beq_eq_true e, ?_⟩
      revert q
      generalize b (us.map some ++ List.replicate (N.length - ps.length) none) h = r
      cases r with
      | nx τ h1 => exact fun q ι' H' σ' E R s => q ι' H' .non E R .non
      | rt u h1 => exact fun q => q
      | err x τ h1 => exact fun q ι' H' σ' cls d E R s x => q ι' H' cls d E R x
      | bk τ h1 => exact fun q => q.elim
      | ct τ h1 => exact fun q => q.elim
      | no => exact fun q => q.elim
  refine F.ok S (fun vs H Q E ⟨us, ι, h, r, R, q⟩ => by rw [← r.length]; exact (key q).1) fun cdv A outer s H vs Q E hr ⟨us, ι, h, r, R, q⟩ => ⟨_, hb cdv A outer s H E hr, ?_⟩
  obtain ⟨hl, q1⟩ := key q
  exact ⟨_, ι, h, VRels.start r hl, R, q1⟩
end
/-! ### calls -/
def mCall (m : FM) (a : AM) : EM := fun τ h => (a τ h).bind fun us h1 => m us h1
section
variable {X : Cx} {G : Wd} {W : L2.St → XK} {pos p apos : Pos} {e o : Expr} {es : List Expr} {mo : EM} {ms : AM} {k : Nat} {f : Addr} {m : FM} {x : Str}
abbrev FnX (X : Cx) (G : Wd) (k : Nat) (f : Addr) (m : FM) : Prop := Fn X.prog X.w X.K X.mg X.base G k f m
theorem t_call {t : TA} (h1 : ∀ σ H Q, tA G W ms σ H Q → t σ H Q) {σ : L2.St} {H : Hp} {Q : VK} (q : tM G W (mCall m ms) σ H Q) : tCallS (spM G m) W t σ H Q := by
  obtain ⟨τ, ι, h, sr, R, q⟩ := q
  exact h1 σ H _ ⟨τ, ι, h, sr, R, q.bind fun ι1 H1 us h1 vs E1 R1 r1 q1 => ⟨us, ι1, h1, r1, R1, q1⟩⟩
theorem s_call (tk : Takes X (wx W)) (hg : Gl X x) (hm : X.mg x = some (.ref f)) (F : FnX X G k f m) (hr : Room k X.A) (ha : SA X G W (e :: es) ms) (hdb : (x == ("__debug__" : Str)) = false := by decide) (he : starEach (e :: es) X.env = (false, eval e X.env) :: starEach es X.env := by rfl)
    (hpl : (backTo pos (starEach es X.env)).any (·.1) = false := by rfl) : SE X G W (.Call (.Name x p) (e :: es) [] pos) (mCall m ms) := by
  obtain ⟨⟨fd, ps, F, b⟩, kp⟩ := F
  exact (pe_callS (E := W) F hr hg hm kp b (fun σ => passAt tk σ) ha hdb he hpl).imp fun σ H Q q => t_call (fun _ _ _ q => q) q
theorem s_call0 (tk : Takes X (wx W)) (hg : Gl X x) (hm : X.mg x = some (.ref f)) (F : FnX X G k f m) (hr : Room k X.A) (hdb : (x == ("__debug__" : Str)) = false := by decide) : SE X G W (.Call (.Name x p) [] [] pos) (mCall m mNil) := by
  obtain ⟨⟨fd, ps, F, b⟩, kp⟩ := F
  refine ⟨fun pins s σ H Q I ⟨τ, ι, h, sr, R, q⟩ => ?_⟩
  refine wpAny_Call_Name_kw (ld_glob I hg hm ?_ hdb)
  exact PySem.W.callWith_K0 I.kIn kp (run_fnS (us := []) F hr b (passAt tk σ) I .nil ⟨[], ι, h, .nil, R, q⟩)
/-- a method's call; tbl: by classes -/
def mMeth (c : Nat) (m : FM) (o : EM) (a : AM) : EM := fun τ h => (o τ h).bind fun u h1 => match u with
  | .ref i => match h1.get i with
    | some (.ins c' _) => match Nat.beq c' c with
      | true => (a τ h1).bind fun us h2 => m (u :: us) h2
      | false => .no
    | _ => .no
  | _ => .no
theorem FRels.none {ι : List Addr} {H : Hp} {m : Str} : ∀ {fs : List (Nat × U)} {vs : List (Str × V)}, FRels G ι H fs vs → (∀ f ∈ fs, G.nm f.1 ≠ m) → vs.lookup m = none
  | _, _, .nil, _ => rfl
  | _, _, .cons (f := f) _ t, h => by
    have e : (m == G.nm f) = false := beq_eq_false_iff_ne.mpr fun z => h _ List.mem_cons_self z.symm
    simp only [List.lookup, e]
    exact FRels.none t fun g hg => h g (List.mem_cons_of_mem _ hg)
/-- the receiver of a method's call -/
theorem at_ins {ι : List Addr} {h : Hs} {H : Hp} (R : Rep G ι h H) {i c : Nat} {fs : List (Nat × U)} {x : V} {C : Addr} (hC : G.gl c = some C) (e : h.get i = some (.ins c fs)) (r : VRel G ι H (.ref i) x) :
    ∃ a dx vs, x = .ref a ∧ ι[i]? = some a ∧ H a = some (.ins C dx vs) ∧ Cls G.K C ∧ (∀ f ∈ fs, NoAttr G.K C (G.nm f.1)) ∧ FRels G ι H fs vs := by
  obtain ⟨a, ho, e1, e2, e3, e4⟩ := R.at e r
  cases e4 with
  | @ins _ C' dx _ vs g cl n r =>
    rw [hC] at g
    cases g
    exact ⟨a, dx, vs, e1, e2, e3, cl, n, r⟩
def tMethS (C : Addr) (mn : Str) (sp : Sp) (E : L2.St → XK) (ta : TE) (t : TA) : TE := fun σ H Q => ta σ H fun x H1 => ∃ a dx fs, x = .ref a ∧ H1 a = some (.ins C dx fs) ∧ fs.lookup mn = none ∧ t σ H1 fun vs H2 => sp (x :: vs) H2 Q (E σ)
theorem t_meth {C : Addr} {c : Nat} {mn : Str} (hk : G.K = X.K) (hC : G.gl c = some C) (hM : Meth X.K C mn f) {te : TE} {t : TA} (h0 : ∀ σ H Q, tM G W mo σ H Q → te σ H Q) (h1 : ∀ σ H Q, tA G W ms σ H Q → t σ H Q) {σ : L2.St} {H : Hp} {Q : VK}
    (q : tM G W (mMeth c m mo ms) σ H Q) : tMethS C mn (spM G m) W te t σ H Q := by
  obtain ⟨τ, ι, h, sr, R, q⟩ := q
  refine h0 σ H _ ⟨τ, ι, h, sr, R, q.bind fun ι1 H1 u k1 v E1 R1 r1 q1 => ?_⟩
  cases u with
  | ref i =>
    cases eo : k1.get i with
    | none =>
      simp only [eo] at q1
      exact q1.elim
    | some ob =>
      simp only [eo] at q1
      cases ob with
      | ins c' fs =>
        cases ec : Nat.beq c' c with
        | false =>
          simp only [ec] at q1
          exact q1.elim
        | true =>
          simp only [ec] at q1
          have ec' := Nat.eq_of_beq_eq_true ec
          subst ec'
          obtain ⟨a, dx, vs, e1, _, e3, _, n, r⟩ := at_ins R1 hC eo r1
          refine ⟨a, dx, vs, e1, e3, r.none fun f hf z => ?_, h1 σ H1 _ ⟨τ, ι1, k1, sr.ext E1, R1, q1.bind fun ι2 H2 us k2 xs E2 R2 r2 q2 => ⟨_, ι2, k2, .cons (r1.ext E2) r2, R2, q2⟩⟩⟩
          have n1 := n f hf
          rw [z, hk] at n1
          have n2 := hM.at_
          unfold NoAttr at n1
          rw [n1] at n2
          cases n2
      | _ => exact q1.elim
  | _ => exact q1.elim
theorem s_meth {C : Addr} {c : Nat} {mn : Str} {pl : Sem Bool} (hk : G.K = X.K) (tk : Takes X (wx W)) (hC : G.gl c = some C) (hcl : Cls X.K C) (hM : Meth X.K C mn f) (F : FnX X G k f m) (hr : Room k X.A) (ho : SE X G W o mo) (ha : SA X G W (e :: es) ms)
    (hst : starEach (e :: es) X.env = (false, eval e X.env) :: starEach es X.env := by rfl) (hpl : (backTo pos (starEach es X.env)).any (·.1) = false := by rfl)
    (ht : eval (.Call (.Attribute o mn apos) (e :: es) [] pos) X.env = (do
      let ov ← eval o X.env
      standAt apos.atName
      let (f, first) ← holding [ov] (getMethod ov mn pl)
      callWith pos f first (backTo pos (starEach (e :: es) X.env)) (backToKw pos (keywordEach [] X.env))) := by rfl) :
    SE X G W (.Call (.Attribute o mn apos) (e :: es) [] pos) (mMeth c m mo ms) := by
  obtain ⟨⟨fd, ps, F, b⟩, kp⟩ := F
  refine ⟨fun pins s σ H Q I q => ?_⟩
  have q := t_meth (mn := mn) hk hC hM (fun _ _ _ q => q) (fun _ _ _ q => q) q
  refine PySem.W.methodCall_KW (pl := pl) (thn (ho.run pins s σ H _ I q) fun u s1 ⟨x, H1, I1, rx, a, dx, fs, ex, ea, l, q⟩ => ?_) ht
  subst ex
  obtain rfl : u = Value.ref a := rx
  refine getmeth_ok I1 ea hcl hM l ?_
  refine PySem.W.callWith_K (first := [.ref a]) (h₀ := X.base) I.ok.mod.kin hM.kp (thn (ha.run pos pins s1 σ H1 _ I1 q) fun us s2 ⟨vs, H2, I2, r, q2⟩ => ⟨I2.kIn, ?_⟩) hst hpl
  exact run_fnS (us := .ref a :: us) (vs := .ref a :: vs) F hr b (passAt tk σ) I2 (.cons rfl r) q2
theorem s_meth0 {C : Addr} {c : Nat} {mn : Str} {pl : Sem Bool} (hk : G.K = X.K) (tk : Takes X (wx W)) (hC : G.gl c = some C) (hcl : Cls X.K C) (hM : Meth X.K C mn f) (F : FnX X G k f m) (hr : Room k X.A) (ho : SE X G W o mo)
    (ht : eval (.Call (.Attribute o mn apos) [] [] pos) X.env = (do
      let ov ← eval o X.env
      standAt apos.atName
      let (f, first) ← holding [ov] (getMethod ov mn pl)
      callWith pos f first (backTo pos (starEach [] X.env)) (backToKw pos (keywordEach [] X.env))) := by rfl) :
    SE X G W (.Call (.Attribute o mn apos) [] [] pos) (mMeth c m mo mNil) := by
  obtain ⟨⟨fd, ps, F, b⟩, kp⟩ := F
  refine ⟨fun pins s σ H Q I q => ?_⟩
  have q : tMethS C mn (spM G m) W (tM G W mo) tNil σ H Q := t_meth hk hC hM (fun _ _ _ q => q) (fun σ H Q ⟨τ, ι, h, sr, R, q⟩ => q.now R .nil) q
  refine PySem.W.methodCall_KW (pl := pl) (thn (ho.run pins s σ H _ I q) fun u s1 ⟨x, H1, I1, rx, a, dx, fs, ex, ea, l, q⟩ => ?_) ht
  subst ex
  obtain rfl : u = Value.ref a := rx
  refine getmeth_ok I1 ea hcl hM l ?_
  exact PySem.W.callWith_K0 (first := [.ref a]) I1.kIn hM.kp (run_fnS (us := [.ref a]) (vs := [.ref a]) F hr b (passAt tk σ) I1 (.cons rfl .nil) q)
/-- C(..) -/
def mMake (c : Nat) (m : FM) (a : AM) : EM := fun τ h => (a τ h).bind fun us h1 => (m (.ref h1.n :: us) (h1.new (.ins c []))).bind fun u h3 => match u with
  | .non => .ok (.ref h1.n) h3
  | _ => .no
theorem VRel.ref_ext {ι ι' : List Addr} {H H' H1 : Hp} {i : Nat} {v : V} (r : VRel G ι H1 (.ref i) v) (E : Ext ι H ι' H') : VRel G ι' H' (.ref i) v := by
  cases r with
  | ref e => exact .ref (E.pre _ _ e)
def spMake (G : Wd) (c : Nat) (m : FM) (C : Addr) : List V → Hp → VK → XK → Prop := fun vs H1 Q E => ∀ x dx, H1 x = none → H1 dx = none → dx ≠ x → spM G m (.ref x :: vs) (upd (upd H1 dx (.own x)) x (.ins C dx [])) (fun v H2 => v = .non ∧ Q (.ref x) H2) E
theorem make_sp {C : Addr} {c : Nat} (hk : G.K = X.K) (hC : G.gl c = some C) (hcl : Cls X.K C) {E : XK} {ι : List Addr} {H : Hp} {h : Hs} {us : List U} {vs : List V} {Q : VK} (R : Rep G ι h H) (r : VRels G ι H us vs)
    (q : Aft G (VRel G) E ι H Q ((m (.ref h.n :: us) (h.new (.ins c []))).bind fun u h3 => match u with
      | .non => .ok (.ref h.n) h3
      | _ => .no)) : spMake G c m C vs H Q E := by
  intro x dx hx hdx hne
  have hx' : upd H dx (.own x) x = none := by rw [upd_ne (fun z => hne z.symm)]; exact hx
  have E1 : Ext ι H ι (upd H dx (.own x)) := Ext.fresh hdx
  have R1 : Rep G ι h (upd H dx (.own x)) := R.fresh hdx
  have E2 : Ext ι (upd H dx (.own x)) (ι ++ [x]) (upd (upd H dx (.own x)) x (.ins C dx [])) := Ext.new hx'
  have R2 : Rep G (ι ++ [x]) (h.new (.ins c [])) (upd (upd H dx (.own x)) x (.ins C dx [])) := R1.new hx' (.ins hC (by rw [hk]; exact hcl) (fun f hf => nomatch hf) .nil)
  have E12 := E1.trans E2
  refine ⟨.ref h.n :: us, ι ++ [x], h.new (.ins c []), .cons (VRel.fresh_ref R) (r.ext E12), R2, ?_⟩
  refine Aft.bind (Aft.ext E12 q) fun ι3 H3 u h3 v E3 R3 r3 q3 => ?_
  cases r3 with
  | non => exact ⟨rfl, q3.now R3 ((VRel.fresh_ref (H' := H3) R).ref_ext E3)⟩
  | _ => exact q3.elim
theorem run_makeS {C fI : Addr} {fd : FuncData} {ps : List Str} {sp : Sp} {CX : CXT} {pins : List (Addr × Obj)} {σ : L2.St} {H : Hp} {s : Shared} {Q : VK} {us : List Value} {vs : List V} {E : XK} (M : Mk X.K C fI) (F : FnOk X.prog X.w X.K X.mg X.base CX k fI fd ps sp) (hr : Room (k + 1) X.A) (hb : Binds X.K fd ps [])
    (hx : PassesAt CX X σ E) (I : Inv X pins σ H s) (r : Vals vs us)
    (h : ∀ x dx, H x = none → H dx = none → dx ≠ x → sp (.ref x :: vs) (upd (upd H dx (.own x)) x (.ins C dx [])) (fun v H2 => v = .non ∧ Q (.ref x) H2) E) :
    wpAny (model X.prog X.w) X.A (call (.ref C) us) (EP X pins σ Q) X.xe s := by
  have hq := h (s.heap.objs.size + 1) s.heap.objs.size (I.hok.fresh (Nat.le_succ _)) (I.hok.fresh (Nat.le_refl _)) (Nat.ne_of_lt (Nat.lt_succ_self _))
  have I2 := Inv.made (C := C) I
  have r2 : Vals (V.ref (s.heap.objs.size + 1) :: vs) (Value.ref (s.heap.objs.size + 1) :: us) := .cons rfl r
  have hl : ((Value.ref (s.heap.objs.size + 1) :: us) ++ ([] : List Value)).length = ps.length := by
    have e := r2.length
    rw [F.len _ _ _ _ hq] at e
    rw [List.append_nil]
    exact e.symm
  have b := hb _ (Value.ref (s.heap.objs.size + 1) :: us) I2.kIn hl
  rw [List.append_nil] at b
  refine wpAny_call (make_map (f := fI) I.kIn M.makes M.init (beq_iff_eq.mp M.fn) (codeAny_mono (F.run _ X.stack _ _ ⟨Value.ref (s.heap.objs.size + 1) :: us, []⟩ (Value.ref (s.heap.objs.size + 1) :: us) _ _ E (hr.make C us []) (I2.env0.make C us []) b r2 hq) fun r s' hq' => ?_))
  cases r with
  | error e => exact hx pins _ _ e s' I2 hq'
  | ok fl =>
    cases fl with
    | ret u =>
      obtain ⟨v, H', I3, rv, ev, q3⟩ := I2.after hq'
      subst ev
      exact ⟨rv, ⟨V.ref (s.heap.objs.size + 1), H', I3, rfl, q3⟩⟩
    | next => exact False.elim hq'
    | brk => exact False.elim hq'
    | cont => exact False.elim hq'
theorem s_make {C fI : Addr} {c : Nat} (hk : G.K = X.K) (tk : Takes X (wx W)) (hg : Gl X x) (hm : X.mg x = some (.ref C)) (hC : G.gl c = some C) (hcl : Cls X.K C) (M : Mk X.K C fI) (F : FnX X G k fI m) (hr : Room (k + 1) X.A) (ha : SA X G W (e :: es) ms)
    (hdb : (x == ("__debug__" : Str)) = false := by decide) (he : starEach (e :: es) X.env = (false, eval e X.env) :: starEach es X.env := by rfl) (hpl : (backTo pos (starEach es X.env)).any (·.1) = false := by rfl) :
    SE X G W (.Call (.Name x p) (e :: es) [] pos) (mMake c m ms) := by
  obtain ⟨⟨fd, ps, F, b⟩, kp⟩ := F
  refine ⟨fun pins s σ H Q I ⟨τ, ι, h, sr, R, q⟩ => ?_⟩
  refine wpAny_Call_Name_kw (ld_glob I hg hm ?_ hdb)
  refine PySem.W.callWith_K (h₀ := X.base) I.ok.mod.kin M.kp (thn (ha.run pos pins s σ H (fun vs H1 => spMake G c m C vs H1 Q (W σ)) I ⟨τ, ι, h, sr, R, q.bind fun ι1 H1 us h1 vs E1 R1 r1 q1 => make_sp hk hC hcl R1 r1 q1⟩) fun us s1 ⟨vs, H1, I1, r, q⟩ => ⟨I1.kIn, ?_⟩) he hpl
  exact run_makeS M F hr b (passAt tk σ) I1 r q
theorem s_make0 {C fI : Addr} {c : Nat} (hk : G.K = X.K) (tk : Takes X (wx W)) (hg : Gl X x) (hm : X.mg x = some (.ref C)) (hC : G.gl c = some C) (hcl : Cls X.K C) (M : Mk X.K C fI) (F : FnX X G k fI m) (hr : Room (k + 1) X.A)
    (hdb : (x == ("__debug__" : Str)) = false := by decide) : SE X G W (.Call (.Name x p) [] [] pos) (mMake c m mNil) := by
  obtain ⟨⟨fd, ps, F, b⟩, kp⟩ := F
  refine ⟨fun pins s σ H Q I ⟨τ, ι, h, sr, R, q⟩ => ?_⟩
  refine wpAny_Call_Name_kw (ld_glob I hg hm ?_ hdb)
  exact PySem.W.callWith_K0 I.kIn M.kp (run_makeS (us := []) M F hr b (passAt tk σ) I .nil (make_sp hk hC hcl R .nil q))
/-! ### fields -/
def lkF (f : Nat) : List (Nat × U) → Option U
  | [] => none
  | (g, u) :: r => match Nat.beq f g with
    | true => some u
    | false => lkF f r
def ptF (f : Nat) (u : U) : List (Nat × U) → List (Nat × U)
  | [] => [(f, u)]
  | (g, x) :: r => match Nat.beq g f with
    | true => (g, u) :: r
    | false => (g, x) :: ptF f u r
theorem FRels.look {ι : List Addr} {H : Hp} {f : Nat} {u : U} : ∀ {fs : List (Nat × U)} {vs : List (Str × V)}, FRels G ι H fs vs → lkF f fs = some u → (∃ v, vs.lookup (G.nm f) = some v ∧ VRel G ι H u v) ∧ ∃ q ∈ fs, q.1 = f
  | _, _, .nil, e => by cases e
  | _, _, .cons (f := g) (u := x) r t, e => by
    unfold lkF at e
    cases eg : Nat.beq f g with
    | true =>
      rw [eg] at e
      cases e
      have eg' := Nat.eq_of_beq_eq_true eg
      subst eg'
      have eb : (G.nm f == G.nm f) = true := beq_self_eq_true _
      exact ⟨⟨_, by simp only [List.lookup, eb], r⟩, _, List.mem_cons_self, rfl⟩
    | false =>
      rw [eg] at e
      obtain ⟨⟨v, e1, e2⟩, q, h1, h2⟩ := FRels.look t e
      have eb : (G.nm f == G.nm g) = false := beq_eq_false_iff_ne.mpr fun z => by
        have z' := G.inj _ _ z
        rw [z', Nat.beq_refl] at eg
        cases eg
      exact ⟨⟨v, by simp only [List.lookup, eb]; exact e1, e2⟩, q, List.mem_cons_of_mem _ h1, h2⟩
theorem FRels.put {ι : List Addr} {H : Hp} {f : Nat} {u : U} {v : V} (r : VRel G ι H u v) : ∀ {fs : List (Nat × U)} {vs : List (Str × V)}, FRels G ι H fs vs → FRels G ι H (ptF f u fs) (putF (G.nm f) v vs)
  | _, _, .nil => .cons r .nil
  | _, _, .cons (f := g) (us := us) (vs := vs) (u := x) (v := y) r' t => by
    show FRels G ι H (match Nat.beq g f with
      | true => (g, u) :: us
      | false => (g, x) :: ptF f u us) (if G.nm g = G.nm f then (G.nm g, v) :: vs else (G.nm g, y) :: putF (G.nm f) v vs)
    cases eg : Nat.beq g f with
    | true =>
      rw [Nat.eq_of_beq_eq_true eg, if_pos rfl]
      exact .cons r t
    | false =>
      rw [if_neg fun z => by
        rw [G.inj _ _ z, Nat.beq_refl] at eg
        cases eg]
      exact .cons r' (FRels.put r t)
theorem FRels.length {ι : List Addr} {H : Hp} : ∀ {fs : List (Nat × U)} {vs : List (Str × V)}, FRels G ι H fs vs → fs.length = vs.length
  | _, _, .nil => rfl
  | _, _, .cons _ t => congrArg Nat.succ (FRels.length t)
theorem mem_ptF {f : Nat} {u : U} : ∀ {fs : List (Nat × U)} {q : Nat × U}, q ∈ ptF f u fs → q.1 = f ∨ ∃ q' ∈ fs, q'.1 = q.1
  | [], q, h => by
    have e : q = (f, u) := by simpa [ptF] using h
    exact .inl (by rw [e])
  | (g, x) :: r, q, h => by
    unfold ptF at h
    cases eg : Nat.beq g f with
    | true =>
      rw [eg] at h
      rcases List.mem_cons.mp h with z | z
      · exact .inr ⟨_, List.mem_cons_self, by rw [z]⟩
      · exact .inr ⟨q, List.mem_cons_of_mem _ z, rfl⟩
    | false =>
      rw [eg] at h
      rcases List.mem_cons.mp h with z | z
      · exact .inr ⟨_, List.mem_cons_self, by rw [z]⟩
      · rcases mem_ptF z with z | ⟨q', z1, z2⟩
        · exact .inl z
        · exact .inr ⟨q', List.mem_cons_of_mem _ z1, z2⟩
/-- o.f -/
def mFld (f : Nat) (o : EM) : EM := fun τ h => (o τ h).bind fun u h1 => match u with
  | .ref i => match h1.get i with
    | some (.ins _ fs) => match lkF f fs with
      | some v => .ok v h1
      | none => .no
    | _ => .no
  | _ => .no
theorem t_fld (f : Nat) {fn : Str} (hn : fn = G.nm f) (hk : G.K = X.K) {te : TE} (h0 : ∀ σ H Q, tM G W mo σ H Q → te σ H Q) {σ : L2.St} {H : Hp} {Q : VK} (q : tM G W (mFld f mo) σ H Q) : tFld X.K te fn σ H Q := by
  subst hn
  obtain ⟨τ, ι, h, sr, R, q⟩ := q
  refine h0 σ H _ ⟨τ, ι, h, sr, R, q.bind fun ι1 H1 u k1 v E1 R1 r1 q1 => ?_⟩
  cases u with
  | ref i =>
    cases eo : k1.get i with
    | none =>
      simp only [eo] at q1
      exact q1.elim
    | some ob =>
      simp only [eo] at q1
      cases ob with
      | ins c fs =>
        cases el : lkF f fs with
        | none =>
          simp only [el] at q1
          exact q1.elim
        | some w' =>
          simp only [el] at q1
          obtain ⟨a, ho, e1, e2, e3, e4⟩ := R1.at eo r1
          cases e4 with
          | ins g cl n r =>
            obtain ⟨⟨v', l1, l2⟩, q, m1, m2⟩ := r.look el
            exact ⟨a, _, _, _, v', e1, e3, by rw [← hk]; exact cl, by rw [← hk, ← m2]; exact n q m1, l1, q1.now R1 l2⟩
      | _ => exact q1.elim
  | _ => exact q1.elim
theorem s_fld (f : Nat) {fn : Str} (hn : fn = G.nm f) (hk : G.K = X.K) (ho : SE X G W o mo) (hb : attributeBase o fn X.env (eval o X.env) = eval o X.env := by rfl) : SE X G W (.Attribute o fn pos) (mFld f mo) :=
  (pe_fld ho hb).imp fun σ H Q q => t_fld f hn hk (fun _ _ _ q => q) q
/-- o.f = e, of the classes cs -/
def putFld (f : Nat) (cs : List Nat) (h : Hs) (i : Nat) (u : U) : Option Hs := match h.get i with
  | some (.ins c fs) => match cs.any (Nat.beq c) && Nat.blt fs.length 1000 with
    | true => some (h.put i (.ins c (ptF f u fs)))
    | false => none
  | _ => none
def mSetF (f : Nat) (cs : List Nat) (o a : EM) : SM := fun τ h => (a τ h).st τ fun u h1 => (o τ h1).st τ fun x h2 => match x with
  | .ref i => match putFld f cs h2 i u with
    | some h3 => .nx τ h3
    | none => .no
  | _ => .no
def NoA (G : Wd) (f : Nat) (cs : List Nat) : Prop := ∀ c ∈ cs, ∀ C, G.gl c = some C → NoAttr G.K C (G.nm f)
theorem put_fld {f : Nat} {cs : List Nat} (ha : NoA G f cs) {ι : List Addr} {h h' : Hs} {H : Hp} {i : Nat} {u : U} {v x : V} (R : Rep G ι h H) (e : putFld f cs h i u = some h') (r : VRel G ι H u v) (rx : VRel G ι H (.ref i) x) :
    ∃ a C dx vs, x = .ref a ∧ H a = some (.ins C dx vs) ∧ (∃ c ∈ cs, G.gl c = some C) ∧ Cls G.K C ∧ NoAttr G.K C (G.nm f) ∧ vs.length < 1000 ∧ Ext ι H ι (upd H a (.ins C dx (putF (G.nm f) v vs))) ∧ Rep G ι h' (upd H a (.ins C dx (putF (G.nm f) v vs))) := by
  unfold putFld at e
  cases eo : h.get i with
  | none =>
    rw [eo] at e
    cases e
  | some ob =>
    rw [eo] at e
    cases ob with
    | ins c fs =>
      have e' : (match cs.any (Nat.beq c) && Nat.blt fs.length 1000 with
        | true => some (h.put i (.ins c (ptF f u fs)))
        | false => none) = some h' := e
      cases eb : cs.any (Nat.beq c) && Nat.blt fs.length 1000 with
      | false =>
        rw [eb] at e'
        cases e'
      | true =>
        rw [eb] at e'
        cases e'
        obtain ⟨b1, b2⟩ := Bool.and_eq_true_iff.mp eb
        obtain ⟨c', m1, m2⟩ := List.any_eq_true.mp b1
        have ec := Nat.eq_of_beq_eq_true m2
        subst ec
        obtain ⟨a, ho, e1, e2, e3, e4⟩ := R.at eo rx
        cases e4 with
        | ins g cl n r' =>
          have hno := ha c m1 _ g
          refine ⟨a, _, _, _, e1, e3, ⟨c, m1, g⟩, cl, hno, by rw [← r'.length]; exact Nat.le_of_ble_eq_true b2, R.extPut e2, R.put e2 (.ins g cl (fun q hq => ?_) (r'.put r))⟩
          rcases mem_ptF hq with z | ⟨q', z1, z2⟩
          · rw [z]
            exact hno
          · rw [← z2]
            exact n q' z1
    | _ => cases e
theorem ss_fld (f : Nat) {fn : Str} {cs : List Nat} {value : Expr} {mv : EM} {pos' : Pos} (hn : fn = G.nm f) (hk : G.K = X.K) (ha : NoA G f cs) (ho : SE X G W o mo) (hv : SE X G W value mv) (hs : swapsWith value (some (.Attribute o fn pos')) pos.line X.env = pure false := by rfl) :
    SS X G W (.Assign [.Attribute o fn pos'] value pos) (mSetF f cs mo mv) := by
  subst hn
  refine (ps_fld ho hv hs).imp fun D σ H ⟨τ, ι, h, sr, R, q⟩ => ⟨τ, ι, h, sr, R, q.bind sr fun ι1 H1 u h1 v E1 R1 r1 q1 => ⟨τ, ι1, h1, sr.ext E1, R1, q1.bind (sr.ext E1) fun ι2 H2 x h2 y E2 R2 r2 q2 => ?_⟩⟩
  cases x with
  | ref i =>
    cases ep : putFld f cs h2 i u with
    | none =>
      simp only [ep] at q2
      exact q2.elim
    | some h3 =>
      simp only [ep] at q2
      obtain ⟨a, C, dx, vs, e1, e2, _, e3, e4, e5, e6, e7⟩ := put_fld ha R2 ep (r1.ext E2) r2
      exact ⟨a, C, dx, vs, e1, e2, by rw [← hk]; exact e3, by rw [← hk]; exact e4, e5, q2 _ _ _ e6 e7 (((sr.ext E1).ext E2).ext e6)⟩
  | _ => exact q2.elim
/-- o.f op= e -/
def mAugF (op : U → U → Hs → Option (U × Hs)) (f : Nat) (cs : List Nat) (o a : EM) : SM := fun τ h => (o τ h).st τ fun x h1 => match x with
  | .ref i => match h1.get i with
    | some (.ins c fs) => match lkF f fs with
      | some u => match cs.any (Nat.beq c) with
        | true => (a τ h1).st τ fun w h2 => match op u w h2 with
          | some (z, h3) => match putFld f [c] h3 i z with
            | some h4 => .nx τ h4
            | none => .no
          | none => .no
        | false => .no
      | none => .no
    | _ => .no
  | _ => .no
/-- an operation in place -/
def InS (X : Cx) (G : Wd) (op' : Operator) (op : U → U → Hs → Option (U × Hs)) : Prop :=
  ∃ r, InOp X op' r ∧ ∀ ι h H u w x y Q, Rep G ι h H → VRel G ι H u x → VRel G ι H w y → AftO G (VRel G) ι H Q (op u w h) → r x y H Q
theorem ss_fldaug (f : Nat) {fn : Str} {cs : List Nat} {value : Expr} {mv : EM} {tpos : Pos} {op' : Operator} {op : U → U → Hs → Option (U × Hs)} (hop : InS X G op' op) (hn : fn = G.nm f) (hk : G.K = X.K) (ha : NoA G f cs) (ho : SE X G W o mo) (hv : SE X G W value mv) :
    SS X G W (.AugAssign (.Attribute o fn tpos) op' value pos) (mAugF op f cs mo mv) := by
  subst hn
  obtain ⟨r, hr, hop⟩ := hop
  refine (ps_fldaug ho hv hr).imp fun D σ H ⟨τ, ι, h, sr, R, q⟩ => ⟨τ, ι, h, sr, R, q.bind sr fun ι1 H1 x h1 y E1 R1 r1 q1 => ?_⟩
  cases x with
  | ref i =>
    cases eo : h1.get i with
    | none =>
      simp only [eo] at q1
      exact q1.elim
    | some ob =>
      simp only [eo] at q1
      cases ob with
      | ins c fs =>
        cases el : lkF f fs with
        | none =>
          simp only [el] at q1
          exact q1.elim
        | some u =>
          simp only [el] at q1
          cases ec : cs.any (Nat.beq c) with
          | false =>
            simp only [ec] at q1
            exact q1.elim
          | true =>
            simp only [ec] at q1
            have ha' : NoA G f [c] := fun c' hc' => by
              have z : c' = c := by simpa using hc'
              subst z
              obtain ⟨c2, m1, m2⟩ := List.any_eq_true.mp ec
              have z := Nat.eq_of_beq_eq_true m2
              subst z
              exact ha _ m1
            obtain ⟨a, ho, e1, e2, e3, e4⟩ := R1.at eo r1
            cases e4 with
            | ins g cl n r' =>
              obtain ⟨⟨v', l1, l2⟩, qq, m1, m2⟩ := r'.look el
              refine ⟨a, _, _, _, v', e1, e3, by rw [← hk]; exact cl, by rw [← hk, ← m2]; exact n qq m1, l1, τ, ι1, h1, sr.ext E1, R1, q1.bind (sr.ext E1) fun ι2 H2 w h2 y2 E2 R2 r2 q2 => ?_⟩
              refine hop ι2 h2 H2 u w v' y2 _ R2 (l2.ext E2) r2 ?_
              cases ep : op u w h2 with
              | none =>
                simp only [ep] at q2
                exact q2.elim
              | some p =>
                simp only [ep] at q2
                refine fun ι3 H3 z E3 R3 r3 => ?_
                cases ef : putFld f [c] p.2 i p.1 with
                | none =>
                  simp only [ef] at q2
                  exact q2.elim
                | some h4 =>
                  simp only [ef] at q2
                  have rx : VRel G ι3 H3 (.ref i) y := (r1.ext E2).ext E3
                  obtain ⟨a', C, dx, vs, f1, f2, ⟨c', fc, fg⟩, f3, f4, f5, f6, f7⟩ := put_fld ha' R3 ef r3 rx
                  have ea : a' = a := by
                    rw [e1] at f1
                    exact (V.ref.inj f1).symm
                  subst ea
                  have ec' : c' = c := by simpa using fc
                  subst ec'
                  rw [g] at fg
                  cases fg
                  exact ⟨dx, vs, f2, f5, q2 _ _ _ (E3.trans f6) f7 ((((sr.ext E1).ext E2).ext E3).ext f6)⟩
      | _ => exact q1.elim
  | _ => exact q1.elim
end
end Sm

set_option Elab.async false
set_option linter.all false
set_option maxRecDepth 100000
set_option maxHeartbeats 2000000
/-! Sim, part 5: operators. -/
namespace Sm
open PySem PySem.Spec PyProof.Rows L2

/-! ### equality -/
def eqN : List Nat → List Nat → Bool
  | [], [] => true
  | a :: r, b :: t => match Nat.beq a b with
    | true => eqN r t
    | false => false
  | _, _ => false
theorem eqN_iff : ∀ {a b : List Nat}, eqN a b = true ↔ a = b
  | [], [] => ⟨fun _ => rfl, fun _ => rfl⟩
  | [], _ :: _ => ⟨fun h => (nomatch h), fun h => (nomatch h)⟩
  | _ :: _, [] => ⟨fun h => (nomatch h), fun h => (nomatch h)⟩
  | a :: r, b :: t => by
    unfold eqN
    cases e : Nat.beq a b with
    | true =>
      have e' := Nat.eq_of_beq_eq_true e
      subst e'
      show eqN r t = true ↔ _
      rw [eqN_iff (a := r) (b := t)]
      exact ⟨fun h => by rw [h], fun h => by injection h⟩
    | false =>
      refine ⟨fun h => (nomatch h), fun h => ?_⟩
      injection h with h1 h2
      subst h1
      rw [Nat.beq_refl] at e
      cases e
theorem eqN_eq (a b : List Nat) : eqN a b = decide (S a = S b) := by
  by_cases h : a = b
  · subst h
    rw [eqN_iff.mpr rfl, decide_eq_true rfl]
  · rw [decide_eq_false fun z => h (S_inj z)]
    cases e : eqN a b with
    | false => rfl
    | true => exact absurd (eqN_iff.mp e) h
def eqZ (i j : Int) : Bool := match i, j with
  | .ofNat a, .ofNat b => Nat.beq a b
  | .negSucc a, .negSucc b => Nat.beq a b
  | _, _ => false
theorem eqZ_eq (i j : Int) : eqZ i j = decide (i = j) := by
  have nb : ∀ a b : Nat, Nat.beq a b = decide (a = b) := PySem.W.BT.beq_eq
  cases i with
  | ofNat a => cases j with
    | ofNat b =>
      show Nat.beq a b = _
      rw [nb]
      by_cases h : a = b
      · rw [decide_eq_true h, decide_eq_true (by rw [h])]
      · rw [decide_eq_false h, decide_eq_false fun z => h (Int.ofNat.inj z)]
    | negSucc b => exact (decide_eq_false fun z => nomatch z).symm
  | negSucc a => cases j with
    | ofNat b => exact (decide_eq_false fun z => nomatch z).symm
    | negSucc b =>
      show Nat.beq a b = _
      rw [nb]
      by_cases h : a = b
      · rw [decide_eq_true h, decide_eq_true (by rw [h])]
      · rw [decide_eq_false h, decide_eq_false fun z => h (Int.negSucc.inj z)]
def b2z (b : Bool) : Int := match b with
  | true => 1
  | false => 0
def allU (p : U → Bool) : List U → Bool
  | [] => true
  | u :: r => match p u with
    | true => allU p r
    | false => false
theorem allU_iff {p : U → Bool} : ∀ {l : List U}, allU p l = true → ∀ u ∈ l, p u = true
  | [], _, u, h => nomatch h
  | v :: r, e, u, h => by
    unfold allU at e
    cases q : p v with
    | false =>
      rw [q] at e
      cases e
    | true =>
      rw [q] at e
      rcases List.mem_cons.mp h with z | z
      · rw [z]
        exact q
      · exact allU_iff e u z
/-- data to a depth: none, bools, ints, texts, lists and tuples of such -/
def isD : Nat → Hs → U → Bool
  | n, h, .non => true
  | n, h, .bl _ => true
  | n, h, .int _ => true
  | n, h, .str _ => true
  | n + 1, h, .tup xs => allU (isD n h) xs
  | n + 1, h, .ref i => match h.get i with
    | some (.lst xs) => allU (isD n h) xs
    | _ => false
  | _, _, _ => false
def all2 (p : U → U → Bool) : List U → List U → Bool
  | [], [] => true
  | u :: r, w :: t => match p u w with
    | true => all2 p r t
    | false => false
  | _, _ => false
/-- == of data -/
def eqD : Nat → Hs → U → U → Bool
  | _, _, .non, .non => true
  | _, _, .bl a, .bl b => a == b
  | _, _, .bl a, .int j => eqZ (b2z a) j
  | _, _, .int i, .bl b => eqZ i (b2z b)
  | _, _, .int i, .int j => eqZ i j
  | _, _, .str a, .str b => eqN a b
  | n + 1, h, .tup xs, .tup ys => all2 (eqD n h) xs ys
  | n + 1, h, .ref i, .ref j => match h.get i, h.get j with
    | some (.lst xs), some (.lst ys) => all2 (eqD n h) xs ys
    | _, _ => false
  | _, _, _, _ => false
/-- the data itself -/
def dat : Nat → Hs → U → PyData
  | _, _, .non => .none
  | _, _, .bl b => .bool b
  | _, _, .int i => .int i
  | _, _, .str s => .str (S s)
  | n + 1, h, .tup xs => .tuple (xs.map (dat n h))
  | n + 1, h, .ref i => match h.get i with
    | some (.lst xs) => .list (xs.map (dat n h))
    | _ => .none
  | _, _, _ => .none
section
variable {G : Wd} {ι : List Addr} {H : Hp} {h : Hs}
theorem strOk_of {l : List Nat} (o : OkS l) : PyData.strOk (S l) = true := by
  unfold PyData.strOk
  rw [Array.all_eq_true_iff_forall_mem]
  intro c hc
  exact decide_eq_true (o c (by simpa using hc))
theorem dat_ok (R : Rep G ι h H) : ∀ (n : Nat) (u : U) (v : V), isD n h u = true → VRel G ι H u v → Dp G.K H v (dat n h u) ∧ (dat n h u).canLay0 = true ∧ (dat n h u).depth ≤ n
  | n, .non, v, e, r => by
    cases r
    cases n <;> exact ⟨.non, by simp [dat, PyData.canLay0], by simp [dat, PyData.depth]⟩
  | n, .bl b, v, e, r => by
    cases r
    cases n <;> exact ⟨.bl b, by simp [dat, PyData.canLay0], by simp [dat, PyData.depth]⟩
  | n, .int i, v, e, r => by
    cases r
    cases n <;> exact ⟨.int i, by simp [dat, PyData.canLay0], by simp [dat, PyData.depth]⟩
  | n, .str s, v, e, r => by
    cases r with
    | str _ o => cases n <;> exact ⟨.str _, by simp [dat, PyData.canLay0, strOk_of o], by simp [dat, PyData.depth]⟩
  | 0, .tup xs, v, e, r => by cases e
  | 0, .ref i, v, e, r => by cases e
  | n, .ty _, v, e, r => by cases n <;> cases e
  | n, .glo _, v, e, r => by cases n <;> cases e
  | n, .frz _, v, e, r => by cases n <;> cases e
  | n + 1, .tup xs, v, e, r => by
    cases r with
    | tup ht rs =>
      have ha : allU (isD n h) xs = true := by simpa [isD] using e
      have key : ∀ {us : List U} {vs : List V}, allU (isD n h) us = true → VRels G ι H us vs → DpAll G.K H vs (us.map (dat n h)) ∧ PyData.canLayAll0 (us.map (dat n h)) = true ∧ PyData.depthAll (us.map (dat n h)) ≤ n := by
        intro us
        induction us with
        | nil =>
          intro vs _ r
          cases r
          exact ⟨.nil, by simp [PyData.canLayAll0], by simp [PyData.depthAll]⟩
        | cons u us ih =>
          intro vs e r
          cases r with
          | cons r1 r2 =>
            unfold allU at e
            cases q : isD n h u with
            | false =>
              rw [q] at e
              cases e
            | true =>
              rw [q] at e
              obtain ⟨a1, a2, a3⟩ := dat_ok R n u _ q r1
              obtain ⟨b1, b2, b3⟩ := ih e r2
              exact ⟨.cons a1 b1, by simp [PyData.canLayAll0, a2, b2], by simp only [List.map_cons, PyData.depthAll]; omega⟩
      obtain ⟨b1, b2, b3⟩ := key ha rs
      exact ⟨.tup ht b1, by simpa [dat, PyData.canLay0] using b2, by simp only [dat, PyData.depth]; omega⟩
  | n + 1, .ref i, v, e, r => by
    cases eo : h.get i with
    | none => simp [isD, eo] at e
    | some ob =>
      cases ob with
      | lst xs =>
        obtain ⟨a, ho, rfl, e2, e3, e4⟩ := R.at eo r
        cases e4 with
        | lst rs =>
          have ha : allU (isD n h) xs = true := by simpa [isD, eo] using e
          have key : ∀ {us : List U} {vs : List V}, allU (isD n h) us = true → VRels G ι H us vs → DpAll G.K H vs (us.map (dat n h)) ∧ PyData.canLayAll0 (us.map (dat n h)) = true ∧ PyData.depthAll (us.map (dat n h)) ≤ n := by
            intro us
            induction us with
            | nil =>
              intro vs _ r
              cases r
              exact ⟨.nil, by simp [PyData.canLayAll0], by simp [PyData.depthAll]⟩
            | cons u us ih =>
              intro vs e r
              cases r with
              | cons r1 r2 =>
                unfold allU at e
                cases q : isD n h u with
                | false =>
                  rw [q] at e
                  cases e
                | true =>
                  rw [q] at e
                  obtain ⟨a1, a2, a3⟩ := dat_ok R n u _ q r1
                  obtain ⟨b1, b2, b3⟩ := ih e r2
                  exact ⟨.cons a1 b1, by simp [PyData.canLayAll0, a2, b2], by simp only [List.map_cons, PyData.depthAll]; omega⟩
          obtain ⟨b1, b2, b3⟩ := key ha rs
          exact ⟨by simp only [dat, eo]; exact .lst (.inl (.inl e3)) b1, by simp only [dat, eo, PyData.canLay0]; exact b2, by simp only [dat, eo, PyData.depth]; omega⟩
      | _ => simp [isD, eo] at e
theorem eqv_all {n : Nat} {h : Hs} (ih : ∀ u w, isD n h u = true → isD n h w = true → PyData.eqv (dat n h u) (dat n h w) = eqD n h u w) : ∀ {xs ys : List U}, allU (isD n h) xs = true → allU (isD n h) ys = true → PyData.eqvAll (xs.map (dat n h)) (ys.map (dat n h)) = all2 (eqD n h) xs ys
  | [], [], _, _ => by simp [PyData.eqvAll, all2]
  | [], _ :: _, _, _ => by simp [PyData.eqvAll, all2]
  | _ :: _, [], _, _ => by simp [PyData.eqvAll, all2]
  | u :: xs, w :: ys, e1, e2 => by
    unfold allU at e1 e2
    cases q1 : isD n h u with
    | false =>
      rw [q1] at e1
      cases e1
    | true =>
      cases q2 : isD n h w with
      | false =>
        rw [q2] at e2
        cases e2
      | true =>
        rw [q1] at e1
        rw [q2] at e2
        have r := eqv_all ih e1 e2
        simp only [List.map_cons, PyData.eqvAll, all2, ih u w q1 q2, r]
        cases eqD n h u w <;> rfl
theorem eqv_dat : ∀ (n : Nat) (h : Hs) (u w : U), isD n h u = true → isD n h w = true → PyData.eqv (dat n h u) (dat n h w) = eqD n h u w := by
  have bb : ∀ {α : Type} [DecidableEq α] (x y : α), (x == y) = decide (x = y) := fun x y => rfl
  have leaf : ∀ (n : Nat) (h : Hs) (u w : U), (∀ xs, u ≠ .tup xs) → (∀ i, u ≠ .ref i) → isD n h u = true → isD n h w = true → PyData.eqv (dat n h u) (dat n h w) = eqD n h u w := by
    intro n h u w n1 n2 e1 e2
    cases u with
    | tup xs => exact absurd rfl (n1 xs)
    | ref i => exact absurd rfl (n2 i)
    | ty s => cases n <;> simp [isD] at e1
    | glo s => cases n <;> simp [isD] at e1
    | frz s => cases n <;> simp [isD] at e1
    | non =>
      cases w with
      | tup ys => cases n <;> first | (simp [isD] at e2; done) | simp [dat, eqD, PyData.eqv]
      | ref j =>
        cases n with
        | zero => simp [isD] at e2
        | succ n =>
          cases q : h.get j with
          | none => simp [isD, q] at e2
          | some ob => cases ob <;> first | (simp [isD, q] at e2; done) | simp [dat, eqD, PyData.eqv, q]
      | ty s => cases n <;> simp [isD] at e2
      | glo s => cases n <;> simp [isD] at e2
      | frz s => cases n <;> simp [isD] at e2
      | _ => cases n <;> simp [dat, eqD, PyData.eqv]
    | bl a =>
      cases w with
      | tup ys => cases n <;> first | (simp [isD] at e2; done) | simp [dat, eqD, PyData.eqv]
      | ref j =>
        cases n with
        | zero => simp [isD] at e2
        | succ n =>
          cases q : h.get j with
          | none => simp [isD, q] at e2
          | some ob => cases ob <;> first | (simp [isD, q] at e2; done) | simp [dat, eqD, PyData.eqv, q]
      | ty s => cases n <;> simp [isD] at e2
      | glo s => cases n <;> simp [isD] at e2
      | frz s => cases n <;> simp [isD] at e2
      | int j => cases n <;> (simp only [dat, eqD, PyData.eqv, eqZ_eq, bb]; cases a <;> rfl)
      | _ => cases n <;> simp [dat, eqD, PyData.eqv]
    | int i =>
      cases w with
      | tup ys => cases n <;> first | (simp [isD] at e2; done) | simp [dat, eqD, PyData.eqv]
      | ref j =>
        cases n with
        | zero => simp [isD] at e2
        | succ n =>
          cases q : h.get j with
          | none => simp [isD, q] at e2
          | some ob => cases ob <;> first | (simp [isD, q] at e2; done) | simp [dat, eqD, PyData.eqv, q]
      | ty s => cases n <;> simp [isD] at e2
      | glo s => cases n <;> simp [isD] at e2
      | frz s => cases n <;> simp [isD] at e2
      | int j => cases n <;> simp only [dat, eqD, PyData.eqv, eqZ_eq, bb]
      | bl b => cases n <;> (simp only [dat, eqD, PyData.eqv, eqZ_eq, bb]; cases b <;> rfl)
      | _ => cases n <;> simp [dat, eqD, PyData.eqv]
    | str s =>
      cases w with
      | tup ys => cases n <;> first | (simp [isD] at e2; done) | simp [dat, eqD, PyData.eqv]
      | ref j =>
        cases n with
        | zero => simp [isD] at e2
        | succ n =>
          cases q : h.get j with
          | none => simp [isD, q] at e2
          | some ob => cases ob <;> first | (simp [isD, q] at e2; done) | simp [dat, eqD, PyData.eqv, q]
      | ty s => cases n <;> simp [isD] at e2
      | glo s => cases n <;> simp [isD] at e2
      | frz s => cases n <;> simp [isD] at e2
      | str t => cases n <;> simp only [dat, eqD, PyData.eqv, eqN_eq, bb]
      | _ => cases n <;> simp [dat, eqD, PyData.eqv]
  intro n
  induction n with
  | zero =>
    intro h u w e1 e2
    cases u with
    | tup xs => simp [isD] at e1
    | ref i => simp [isD] at e1
    | _ => exact leaf 0 h _ w (fun _ z => nomatch z) (fun _ z => nomatch z) e1 e2
  | succ n ih =>
    intro h u w e1 e2
    cases u with
    | tup xs =>
      have a1 : allU (isD n h) xs = true := by simpa [isD] using e1
      cases w with
      | tup ys =>
        have a2 : allU (isD n h) ys = true := by simpa [isD] using e2
        simp only [dat, eqD, PyData.eqv]
        exact eqv_all (ih h) a1 a2
      | ref j =>
        cases q : h.get j with
        | none => simp [isD, q] at e2
        | some ob => cases ob <;> first | (simp [isD, q] at e2; done) | simp [dat, eqD, PyData.eqv, q]
      | ty s => simp [isD] at e2
      | glo s => simp [isD] at e2
      | _ => simp [dat, eqD, PyData.eqv]
    | ref i =>
      cases q1 : h.get i with
      | none => simp [isD, q1] at e1
      | some ob =>
        cases ob with
        | lst xs =>
          have a1 : allU (isD n h) xs = true := by simpa [isD, q1] using e1
          cases w with
          | tup ys => simp [dat, eqD, PyData.eqv, q1]
          | ref j =>
            cases q : h.get j with
            | none => simp [isD, q] at e2
            | some ob =>
              cases ob with
              | lst ys =>
                have a2 : allU (isD n h) ys = true := by simpa [isD, q] using e2
                simp only [dat, eqD, PyData.eqv, q1, q]
                exact eqv_all (ih h) a1 a2
              | _ => simp [isD, q] at e2
          | ty s => simp [isD] at e2
          | glo s => simp [isD] at e2
          | _ => simp [dat, eqD, PyData.eqv, q1]
        | _ => simp [isD, q1] at e1
    | _ => exact leaf (n + 1) h _ w (fun _ z => nomatch z) (fun _ z => nomatch z) e1 e2
theorem shaped_of {d : PyData} (a : d.canLay0 = true) (b : d.depth ≤ 64) : SeqAt.shaped d = true := by
  unfold SeqAt.shaped
  rw [a, decide_eq_true b]
  rfl
end
/-! ### the operators -/
def pick (c : Bool) (u : U) (h : Hs) : Option (U × Hs) := match c with
  | true => some (u, h)
  | false => none
/-- two lists of unlike lengths -/
def unl (h : Hs) (u w : U) : Bool := match u, w with
  | .ref i, .ref j => match h.get i, h.get j with
    | some (.lst xs), some (.lst ys) => !(Nat.beq xs.length ys.length)
    | _, _ => false
  | _, _ => false
def opEq (u w : U) (h : Hs) : Option (U × Hs) := match isD 64 h u && isD 64 h w with
  | true => some (.bl (eqD 64 h u w), h)
  | false => pick (unl h u w) (.bl false) h
def opNe (u w : U) (h : Hs) : Option (U × Hs) := pick (isD 64 h u && isD 64 h w) (.bl (!eqD 64 h u w)) h
def small (i : Int) : Bool := Nat.blt i.natAbs 18446744073709551616
def opAdd (u w : U) (h : Hs) : Option (U × Hs) := match u, w with
  | .int i, .int j => some (.int (i + j), h)
  | .str a, .str b => pick (fits (a.length + b.length)) (.str (a ++ b)) h
  | .tup a, .tup b => pick (fits (a.length + b.length)) (.tup (a ++ b)) h
  | .ref i, .ref j => match h.get i, h.get j with
    | some (.lst a), some (.lst b) => match fits (a.length + b.length) with
      | true => some (.ref h.n, h.new (.lst (a ++ b)))
      | false => none
    | _, _ => none
  | _, _ => none
def opAddZ (u w : U) (h : Hs) : Option (U × Hs) := match u, w with
  | .int i, .int j => some (.int (i + j), h)
  | _, _ => none
def opSub (u w : U) (h : Hs) : Option (U × Hs) := match u, w with
  | .int i, .int j => some (.int (i - j), h)
  | _, _ => none
def opMul (u w : U) (h : Hs) : Option (U × Hs) := match u, w with
  | .int i, .int j => pick (small i || small j || Nat.blt (i.natAbs.log2 + j.natAbs.log2) 1000000) (.int (i * j)) h
  | .ref i, .int k => match h.get i with
    | some (.lst a) => match small k && Nat.blt k.natAbs 1000000000 && fits (a.length * k.toNat) with
      | true => some (.ref h.n, h.new (.lst (List.replicate k.toNat a).flatten))
      | false => none
    | _ => none
  | .str s, .int k => pick (small k && Nat.blt k.natAbs 1000000000 && fits (s.length * k.toNat)) (.str (List.replicate k.toNat s).flatten) h
  | _, _ => none
def opMod (u w : U) (h : Hs) : Option (U × Hs) := match u, w with
  | .int i, .int j => pick (!(eqZ j 0)) (.int (i.fmod j)) h
  | _, _ => none
def opFdiv (u w : U) (h : Hs) : Option (U × Hs) := match u, w with
  | .int i, .int j => pick (!(eqZ j 0) && Nat.blt j.natAbs 1073741824) (.int (i.fdiv j)) h
  | _, _ => none
def opLt (u w : U) (h : Hs) : Option (U × Hs) := match u, w with
  | .int i, .int j => some (.bl (decide (i < j)), h)
  | _, _ => none
def opLe (u w : U) (h : Hs) : Option (U × Hs) := match u, w with
  | .int i, .int j => some (.bl (decide (i ≤ j)), h)
  | _, _ => none
def opGt (u w : U) (h : Hs) : Option (U × Hs) := match u, w with
  | .int i, .int j => some (.bl (decide (j < i)), h)
  | _, _ => none
def opGe (u w : U) (h : Hs) : Option (U × Hs) := match u, w with
  | .int i, .int j => some (.bl (decide (j ≤ i)), h)
  | _, _ => none
def isNon : U → Bool
  | .non => true
  | _ => false
def opIsN (u w : U) (h : Hs) : Option (U × Hs) := pick (isNon w) (.bl (isNon u)) h
def opNotN (u w : U) (h : Hs) : Option (U × Hs) := pick (isNon w) (.bl (!isNon u)) h
def flat : U → Bool
  | .non => true
  | .bl _ => true
  | .int _ => true
  | .str _ => true
  | _ => false
/-- == of flat ones -/
def eqF : U → U → Bool
  | .non, .non => true
  | .bl a, .bl b => a == b
  | .bl a, .int j => eqZ (b2z a) j
  | .int i, .bl b => eqZ i (b2z b)
  | .int i, .int j => eqZ i j
  | .str a, .str b => eqN a b
  | _, _ => false
def memF (x : U) : List U → Bool
  | [] => false
  | y :: r => match eqF y x with
    | true => true
    | false => memF x r
def memN (c : Nat) : List Nat → Bool
  | [] => false
  | y :: r => match Nat.beq c y with
    | true => true
    | false => memN c r
/-- in: a flat value in a list or tuple of flat ones, one sign in a text -/
def inM (u w : U) (h : Hs) : Option Bool := match w with
  | .tup xs => match flat u && allU flat xs with
    | true => some (memF u xs)
    | false => none
  | .ref i => match h.get i with
    | some (.lst xs) => match flat u && allU flat xs with
      | true => some (memF u xs)
      | false => none
    | _ => none
  | .str z => match u with
    | .str [c] => some (memN c z)
    | _ => none
  | _ => none
def opIn (u w : U) (h : Hs) : Option (U × Hs) := match inM u w h with
  | some b => some (.bl b, h)
  | none => none
def opNotIn (u w : U) (h : Hs) : Option (U × Hs) := match inM u w h with
  | some b => some (.bl (!b), h)
  | none => none
section
variable {X : Cx} {G : Wd}
theorem pick_aft {c : Bool} {u : U} {h : Hs} {ι : List Addr} {H : Hp} {Q : VK} (q : AftO G (VRel G) ι H Q (pick c u h)) : c = true ∧ AftO G (VRel G) ι H Q (some (u, h)) := by
  cases c with
  | true => exact ⟨rfl, q⟩
  | false => exact q.elim
theorem unl_of {h : Hs} {u w : U} (c : unl h u w = true) : ∃ i j xs ys, u = .ref i ∧ w = .ref j ∧ h.get i = some (.lst xs) ∧ h.get j = some (.lst ys) ∧ xs.length ≠ ys.length := by
  unfold unl at c
  split at c
  · rename_i i j
    split at c
    · rename_i xs ys e1 e2
      refine ⟨i, j, xs, ys, rfl, rfl, e1, e2, fun z => ?_⟩
      rw [z, Nat.beq_refl] at c
      cases c
    · cases c
  · cases c
theorem o_eq (hk : G.K = X.K) (hu : X.A.units + 64 < cLine) : OpS X G (compareOp .Eq) opEq := by
  have len : OpR X (compareOp .Eq) (fun x y H Q => ∃ a b xs ys, x = .ref a ∧ y = .ref b ∧ H a = some (.lst xs) ∧ H b = some (.lst ys) ∧ xs.length ≠ ys.length ∧ Q (.bl false) H) := by
    intro pins s σ H x y v u Q I rx ry h
    obtain ⟨a, b, xs, ys, rfl, rfl, ha, hb, hne, q⟩ := h
    cases rx
    cases ry
    obtain ⟨i1, r1, p1, _⟩ := I.list (show SqL X.K H a xs from .inl (.inl ha))
    obtain ⟨i2, r2, p2, _⟩ := I.list (show SqL X.K H b ys from .inl (.inl hb))
    refine SeqAt.eq_list_lengthsAt p1.isList p2.isList ?_ (by omega) ⟨.bl false, H, I, rfl, q⟩
    have e1 := r1.length
    have e2 := r2.length
    simp
    omega
  refine ⟨_, (op_eqD hu).or len, fun ι h H u w x y Q R r1 r2 q => ?_⟩
  unfold opEq at q
  cases e : isD 64 h u && isD 64 h w with
  | true =>
    rw [e] at q
    obtain ⟨e1, e2⟩ := Bool.and_eq_true_iff.mp e
    obtain ⟨a1, a2, a3⟩ := dat_ok R 64 u x e1 r1
    obtain ⟨b1, b2, b3⟩ := dat_ok R 64 w y e2 r2
    refine .inl ⟨_, _, by rw [← hk]; exact a1, by rw [← hk]; exact b1, shaped_of a2 a3, shaped_of b2 b3, ?_⟩
    rw [eqv_dat 64 h u w e1 e2]
    exact q.now R (.bl _)
  | false =>
    rw [e] at q
    obtain ⟨c, q1⟩ := pick_aft q
    obtain ⟨i, j, xs, ys, rfl, rfl, e1, e2, ne⟩ := unl_of c
    obtain ⟨a, ho, f1, _, f3, f4⟩ := R.at e1 r1
    obtain ⟨b, ho', g1, _, g3, g4⟩ := R.at e2 r2
    cases f4 with
    | lst s1 =>
      cases g4 with
      | lst s2 => exact .inr ⟨a, b, _, _, f1, g1, f3, g3, by rw [← s1.length, ← s2.length]; exact ne, q1.now R (.bl _)⟩
theorem o_ne (hk : G.K = X.K) (hu : X.A.units + 64 < cLine) : OpS X G (compareOp .NotEq) opNe := by
  refine ⟨_, op_neD hu, fun ι h H u w x y Q R r1 r2 q => ?_⟩
  obtain ⟨e, q⟩ := pick_aft q
  obtain ⟨e1, e2⟩ := Bool.and_eq_true_iff.mp e
  obtain ⟨a1, a2, a3⟩ := dat_ok R 64 u x e1 r1
  obtain ⟨b1, b2, b3⟩ := dat_ok R 64 w y e2 r2
  refine ⟨_, _, by rw [← hk]; exact a1, by rw [← hk]; exact b1, shaped_of a2 a3, shaped_of b2 b3, ?_⟩
  rw [eqv_dat 64 h u w e1 e2]
  exact q.now R (.bl _)
theorem VRels.append {ι : List Addr} {H : Hp} : ∀ {us ws : List U} {xs ys : List V}, VRels G ι H us xs → VRels G ι H ws ys → VRels G ι H (us ++ ws) (xs ++ ys)
  | _, _, _, _, .nil, r => r
  | _, _, _, _, .cons a b, r => .cons a (VRels.append b r)
theorem o_add (hk : G.K = X.K) : OpS X G (binaryOp .Add) opAdd := by
  refine ⟨_, (op_add.or (op_add_str.or (op_catA.or op_cat))), fun ι h H u w x y Q R r1 r2 q => ?_⟩
  cases u with
  | int i =>
    cases w with
    | int j =>
      cases r1
      cases r2
      exact .inl ⟨i, j, rfl, rfl, q.now R (.int _)⟩
    | _ => exact q.elim
  | str a =>
    cases w with
    | str b =>
      cases r1 with
      | str _ o1 =>
        cases r2 with
        | str _ o2 =>
          obtain ⟨c, q⟩ := pick_aft q
          refine .inr (.inl ⟨_, _, rfl, rfl, by have := fits_le c; show (S a).cps.size + (S b).cps.size ≤ sizeLine; simpa using this, ?_⟩)
          have e : S a ++ S b = S (a ++ b) := by
            show (⟨a.toArray ++ b.toArray⟩ : Str) = ⟨(a ++ b).toArray⟩
            rw [List.append_toArray]
          rw [e]
          refine q.now R (.str _ fun c hc => ?_)
          rcases List.mem_append.mp hc with z | z
          · exact o1 c z
          · exact o2 c z
    | _ => exact q.elim
  | tup a =>
    cases w with
    | tup b =>
      cases r1 with
      | tup h1 s1 =>
        cases r2 with
        | tup h2 s2 =>
          obtain ⟨c, q⟩ := pick_aft q
          refine .inr (.inr (.inl ⟨_, _, _, _, rfl, rfl, by rw [← hk]; exact h1, by rw [← hk]; exact h2, by rw [← s1.length, ← s2.length]; exact fits_le c, fun e => ?_, fun _ e => ?_, fun _ _ p hp => ?_⟩))
          · subst e
            cases s1
            exact q.now R (.tup h2 s2)
          · subst e
            cases s2
            rw [List.append_nil] at q
            exact q.now R (.tup h1 s1)
          · exact q _ _ _ (Ext.fresh hp) (R.fresh hp) (.tup (.inl (.inl upd_same)) (VRels.ext (Ext.fresh hp) (s1.append s2)))
    | _ => exact q.elim
  | ref i =>
    cases w with
    | ref j =>
      unfold opAdd at q
      cases e1 : h.get i with
      | none =>
        simp only [e1] at q
        exact q.elim
      | some o1 =>
        cases e2 : h.get j with
        | none =>
          simp only [e1, e2] at q
          cases o1 <;> exact q.elim
        | some o2 =>
          simp only [e1, e2] at q
          cases o1 with
          | lst a =>
            cases o2 with
            | lst b =>
              cases c : fits (a.length + b.length) with
              | false =>
                simp only [c] at q
                exact q.elim
              | true =>
                simp only [c] at q
                obtain ⟨a', ho, f1, _, f3, f4⟩ := R.at e1 r1
                obtain ⟨b', ho', g1, _, g3, g4⟩ := R.at e2 r2
                cases f4 with
                | lst s1 =>
                  cases g4 with
                  | lst s2 => exact .inr (.inr (.inr ⟨a', b', _, _, f1, g1, f3, g3, by rw [← s1.length, ← s2.length]; exact fits_le c, fun p hp => q _ _ _ (Ext.new hp) (R.new hp (.lst (s1.append s2))) (VRel.fresh_ref R)⟩))
            | _ => exact q.elim
          | _ => exact q.elim
    | _ => exact q.elim
  | _ => exact q.elim
theorem o_sub : OpS X G (binaryOp .Sub) opSub := ⟨_, op_sub, fun ι h H u w x y Q R r1 r2 q => by
  cases u with
  | int i =>
    cases w with
    | int j =>
      cases r1
      cases r2
      exact ⟨i, j, rfl, rfl, q.now R (.int _)⟩
    | _ => exact q.elim
  | _ => exact q.elim⟩
theorem small_lt {i : Int} (h : small i = true) : -(2 ^ 64) < i ∧ i < 2 ^ 64 := by
  have : i.natAbs < 18446744073709551616 := Nat.le_of_ble_eq_true h
  omega
theorem mul_S (l : List Nat) (k : Int) : Txt.mul (S l) k = S (List.replicate k.toNat l).flatten := by
  have fr : ∀ (n : Nat) (acc : List Nat), (List.replicate n l.toArray).foldl (· ++ ·) acc.toArray = (acc ++ (List.replicate n l).flatten).toArray := fun n => by
    induction n with
    | zero => intro acc; simp
    | succ n ih =>
      intro acc
      rw [List.replicate_succ, List.foldl_cons, List.replicate_succ, List.flatten_cons, ← List.append_assoc]
      have e : acc.toArray ++ l.toArray = (acc ++ l).toArray := by simp
      rw [e]
      exact ih (acc ++ l)
  unfold Txt.mul
  by_cases h1 : k < 1
  · rw [if_pos h1]
    have e : k.toNat = 0 := by omega
    rw [e]
    rfl
  · rw [if_neg h1]
    split
    · rename_i hc
      rw [Bool.or_eq_true, beq_iff_eq, beq_iff_eq] at hc
      rcases hc with h | h
      · subst h
        simp
      · have el : l = [] := by
          have : l.toArray.size = 0 := h
          simpa using this
        subst el
        simp
    · have := fr k.toNat []
      rw [List.nil_append] at this
      show (⟨_⟩ : Str) = ⟨_⟩
      exact congrArg Str.mk this
def rRepS : R2 := fun x y H Q => ∃ (l : List Nat) (k : Int), x = .str (S l) ∧ y = .int k ∧ -1000000000 < k ∧ k < 1000000000 ∧ l.length * k.toNat ≤ 16777216 ∧ Q (.str (S (List.replicate k.toNat l).flatten)) H
theorem op_repS {X : Cx} : OpR X (binaryOp .Mult) rRepS := by
  intro pins s σ H x y v u Q I rx ry h
  obtain ⟨l, k, rfl, rfl, h1, h2, hz, q⟩ := h
  obtain ⟨t, rfl⟩ := rx
  obtain ⟨t', rfl⟩ := ry
  have hlen : (S l).length = l.length := by show l.toArray.size = _; simp
  have ok : MulOk (S l) k := by
    refine ⟨?_, fun h1 _ => ?_, fun h1 _ => ?_⟩
    · have a1 : ¬ k < -(2 ^ 63 : Int) := by omega
      have a2 : ¬ k ≥ (2 ^ 63 : Int) := by omega
      rw [decide_eq_false a1, decide_eq_false a2]; rfl
    · rw [hlen]
      have hpos : 0 < k := by omega
      have e : ((l.length * k.toNat : Nat) : Int) = (l.length : Int) * k := by rw [Int.natCast_mul, Int.toNat_of_nonneg (by omega)]
      have h3 : (l.length : Int) * k ≤ 2 ^ 63 - 1 := by rw [← e]; omega
      have h4 : (l.length : Int) ≤ (2 ^ 63 - 1) / k := (Int.le_ediv_iff_mul_le hpos).mpr h3
      omega
    · rw [hlen]
      unfold Builtin.Str.tooLong
      rw [sizeLine_eq]
      exact decide_eq_false (by omega)
  refine SB.mul ok fun t1 k1 => ?_
  rw [mul_S]
  exact ⟨.str (S (List.replicate k.toNat l).flatten), H, I.tok _, ⟨t1, rfl⟩, q⟩
theorem o_mul : OpS X G (binaryOp .Mult) opMul := by
  refine ⟨_, (op_mul.or (op_mulW.or (op_rep.or op_repS))), fun ι h H u w x y Q R r1 r2 q => ?_⟩
  cases u with
  | int i =>
    cases w with
    | int j =>
      cases r1
      cases r2
      obtain ⟨c, q⟩ := pick_aft q
      rcases Bool.or_eq_true_iff.mp c with c | c
      · rcases Bool.or_eq_true_iff.mp c with c | c
        · exact .inl ⟨i, j, rfl, rfl, .inl (small_lt c), q.now R (.int _)⟩
        · exact .inl ⟨i, j, rfl, rfl, .inr (small_lt c), q.now R (.int _)⟩
      · exact .inr (.inl ⟨i, j, rfl, rfl, Nat.le_of_ble_eq_true c, q.now R (.int _)⟩)
    | _ => exact q.elim
  | ref i =>
    cases w with
    | int k =>
      unfold opMul at q
      cases e1 : h.get i with
      | none =>
        simp only [e1] at q
        exact q.elim
      | some o1 =>
        simp only [e1] at q
        cases o1 with
        | lst a =>
          cases c : small k && Nat.blt k.natAbs 1000000000 && fits (a.length * k.toNat) with
          | false =>
            simp only [c] at q
            exact q.elim
          | true =>
            simp only [c] at q
            obtain ⟨c1, c2⟩ := Bool.and_eq_true_iff.mp c
            obtain ⟨c1, c3⟩ := Bool.and_eq_true_iff.mp c1
            have c4 : k.natAbs < 1000000000 := Nat.le_of_ble_eq_true c3
            obtain ⟨a', ho, f1, _, f3, f4⟩ := R.at e1 r1
            cases r2
            cases f4 with
            | lst s1 =>
              refine .inr (.inr (.inl ⟨a', k, _, f1, rfl, f3, by omega, by omega, by rw [← s1.length]; exact fits_le c2, fun p hp => q _ _ _ (Ext.new hp) (R.new hp (.lst ?_)) (VRel.fresh_ref R)⟩))
              generalize k.toNat = n
              induction n with
              | zero => exact .nil
              | succ n ih =>
                rw [List.replicate_succ, List.flatten_cons, List.replicate_succ, List.flatten_cons]
                exact s1.append ih
        | _ => exact q.elim
    | _ => exact q.elim
  | str l =>
    cases w with
    | int k =>
      obtain ⟨c, q⟩ := pick_aft q
      obtain ⟨c1, c2⟩ := Bool.and_eq_true_iff.mp c
      obtain ⟨c1, c3⟩ := Bool.and_eq_true_iff.mp c1
      have c4 : k.natAbs < 1000000000 := Nat.le_of_ble_eq_true c3
      cases r2
      cases r1 with
      | str _ o =>
        refine .inr (.inr (.inr ⟨l, k, rfl, rfl, by omega, by omega, Nat.le_of_ble_eq_true c2, q.now R (.str _ fun c hc => ?_)⟩))
        obtain ⟨r, hr, hm⟩ := List.mem_flatten.mp hc
        rw [(List.mem_replicate.mp hr).2] at hm
        exact o c hm
    | _ => exact q.elim
  | _ => exact q.elim
theorem ne0 {j : Int} (h : (!(eqZ j 0)) = true) : j ≠ 0 := fun z => by
  rw [eqZ_eq, decide_eq_true z] at h
  cases h
theorem o_mod : OpS X G (binaryOp .Mod) opMod := ⟨_, op_modN, fun ι h H u w x y Q R r1 r2 q => by
  cases u with
  | int i =>
    cases w with
    | int j =>
      cases r1
      cases r2
      obtain ⟨c, q⟩ := pick_aft q
      exact ⟨i, j, rfl, rfl, ne0 c, q.now R (.int _)⟩
    | _ => exact q.elim
  | _ => exact q.elim⟩
theorem o_fdiv : OpS X G (binaryOp .FloorDiv) opFdiv := ⟨_, op_fdivN, fun ι h H u w x y Q R r1 r2 q => by
  cases u with
  | int i =>
    cases w with
    | int j =>
      cases r1
      cases r2
      obtain ⟨c, q⟩ := pick_aft q
      obtain ⟨c1, c2⟩ := Bool.and_eq_true_iff.mp c
      exact ⟨i, j, rfl, rfl, ⟨ne0 c1, Nat.le_of_ble_eq_true c2⟩, q.now R (.int _)⟩
    | _ => exact q.elim
  | _ => exact q.elim⟩
theorem o_int {op : CmpOp} {g : Int → Int → Bool} {f : U → U → Hs → Option (U × Hs)} (h : OpR X (compareOp op) (rI0 fun i j => .bl (g i j))) (hf : ∀ u w h, f u w h = match u, w with
    | .int i, .int j => some (.bl (g i j), h)
    | _, _ => none) : OpS X G (compareOp op) f := ⟨_, h, fun ι h H u w x y Q R r1 r2 q => by
  rw [hf] at q
  cases u with
  | int i =>
    cases w with
    | int j =>
      cases r1
      cases r2
      exact ⟨i, j, rfl, rfl, q.now R (.bl _)⟩
    | _ => exact q.elim
  | _ => exact q.elim⟩
theorem o_lt : OpS X G (compareOp .Lt) opLt := o_int op_lt fun _ _ _ => rfl
theorem o_le : OpS X G (compareOp .LtE) opLe := o_int op_le fun _ _ _ => rfl
theorem o_gt : OpS X G (compareOp .Gt) opGt := o_int op_gt fun _ _ _ => rfl
theorem o_ge : OpS X G (compareOp .GtE) opGe := o_int op_ge fun _ _ _ => rfl
theorem isNon_rel {ι : List Addr} {H : Hp} {u : U} {x : V} (r : VRel G ι H u x) : decide (x = .non) = isNon u := by
  cases r <;> rfl
theorem o_isN : OpS X G (compareOp .Is) opIsN := ⟨_, op_isN, fun ι h H u w x y Q R r1 r2 q => by
  obtain ⟨c, q⟩ := pick_aft q
  cases w with
  | non =>
    cases r2
    refine ⟨rfl, ?_⟩
    rw [isNon_rel r1]
    exact q.now R (.bl _)
  | _ => cases c⟩
theorem o_notN : OpS X G (compareOp .IsNot) opNotN := ⟨_, op_notN, fun ι h H u w x y Q R r1 r2 q => by
  obtain ⟨c, q⟩ := pick_aft q
  cases w with
  | non =>
    cases r2
    refine ⟨rfl, ?_⟩
    rw [isNon_rel r1]
    exact q.now R (.bl _)
  | _ => cases c⟩
theorem flat_rel {ι : List Addr} {H : Hp} {u : U} {x : V} (r : VRel G ι H u x) (f : flat u = true) : flatV x = true := by
  cases r <;> first | rfl | cases f
theorem eqF_rel {ι : List Addr} {H : Hp} {u w : U} {x y : V} (r1 : VRel G ι H u x) (r2 : VRel G ι H w y) (f : flat u = true) (g : flat w = true) : eqV x y = eqF u w := by
  have bb : ∀ {α : Type} [DecidableEq α] (x y : α), (x == y) = decide (x = y) := fun x y => rfl
  cases r1 <;> first | (cases f; done) | skip
  all_goals (cases r2 <;> first | (cases g; done) | rfl | skip)
  · rename_i a j
    simp only [eqV, eqF, eqZ_eq, bb]
    cases a <;> rfl
  · rename_i i b
    simp only [eqV, eqF, eqZ_eq, bb]
    cases b <;> rfl
  · simp only [eqV, eqF, eqZ_eq, bb]
  · simp only [eqV, eqF, eqN_eq, bb]
theorem flat_rels {ι : List Addr} {H : Hp} : ∀ {us : List U} {xs : List V}, VRels G ι H us xs → allU flat us = true → xs.all flatV = true
  | _, _, .nil, _ => rfl
  | _, _, .cons (u := u) r t, e => by
    unfold allU at e
    cases q : flat u with
    | false =>
      rw [q] at e
      cases e
    | true =>
      rw [q] at e
      rw [List.all_cons, flat_rel r q, flat_rels t e]
      rfl
theorem memF_rel {ι : List Addr} {H : Hp} {u : U} {x : V} (r : VRel G ι H u x) (f : flat u = true) : ∀ {us : List U} {xs : List V}, VRels G ι H us xs → allU flat us = true → inV x xs = memF u us
  | _, _, .nil, _ => rfl
  | _, _, .cons (u := w) r' t, e => by
    unfold allU at e
    cases q : flat w with
    | false =>
      rw [q] at e
      cases e
    | true =>
      rw [q] at e
      have ih := memF_rel r f t e
      unfold inV at ih ⊢
      rw [List.any_cons, ih, eqF_rel r' r q f]
      show (eqF w u || memF u _) = (match eqF w u with
        | true => true
        | false => memF u _)
      cases eqF w u <;> rfl
theorem memN_eq (c : Nat) : ∀ l : List Nat, memN c l = decide (c ∈ l)
  | [] => by simp [memN]
  | y :: r => by
    unfold memN
    cases e : Nat.beq c y with
    | true =>
      have := Nat.eq_of_beq_eq_true e
      subst this
      simp
    | false =>
      have n : ¬ c = y := fun z => by
        rw [z, Nat.beq_refl] at e
        cases e
      rw [memN_eq c r]
      simp [n]
/-- in, and not in: by g of the answer -/
theorem in_rel (hk : G.K = X.K) {ι : List Addr} {h : Hs} {H : Hp} {u w : U} {x y : V} {b : Bool} (R : Rep G ι h H) (r1 : VRel G ι H u x) (r2 : VRel G ι H w y) (e : inM u w h = some b) :
    (∃ p xs, y = .ref p ∧ (SqL X.K H p xs ∨ SqT X.K H p xs) ∧ flatV x = true ∧ xs.all flatV = true ∧ inV x xs = b) ∨ (∃ (c : Nat) (z : Str), x = .str ⟨#[c]⟩ ∧ y = .str z ∧ decide (c ∈ z.cps.toList) = b) := by
  unfold inM at e
  cases w with
  | tup ws =>
    cases r2 with
    | tup ht s =>
      cases c : flat u && allU flat ws with
      | false =>
        simp only [c] at e
        cases e
      | true =>
        simp only [c] at e
        cases e
        obtain ⟨c1, c2⟩ := Bool.and_eq_true_iff.mp c
        exact .inl ⟨_, _, rfl, .inr (by rw [← hk]; exact ht), flat_rel r1 c1, flat_rels s c2, memF_rel r1 c1 s c2⟩
  | ref i =>
    cases eo : h.get i with
    | none =>
      simp only [eo] at e
      cases e
    | some ob =>
      simp only [eo] at e
      cases ob with
      | lst ws =>
        cases c : flat u && allU flat ws with
        | false =>
          simp only [c] at e
          cases e
        | true =>
          simp only [c] at e
          cases e
          obtain ⟨c1, c2⟩ := Bool.and_eq_true_iff.mp c
          obtain ⟨a, ho, f1, _, f3, f4⟩ := R.at eo r2
          cases f4 with
          | lst s => exact .inl ⟨a, _, f1, .inl (.inl (.inl f3)), flat_rel r1 c1, flat_rels s c2, memF_rel r1 c1 s c2⟩
      | _ => cases e
  | str z =>
    cases u with
    | str l =>
      cases l with
      | nil => cases e
      | cons c l =>
        cases l with
        | cons => cases e
        | nil =>
          cases e
          cases r1
          cases r2
          refine .inr ⟨c, _, rfl, rfl, ?_⟩
          rw [memN_eq]
    | _ => cases e
  | _ => cases e
theorem o_in (hk : G.K = X.K) : OpS X G (compareOp .In) opIn := ⟨_, (op_in_seq.or op_in_sign), fun ι h H u w x y Q R r1 r2 q => by
  unfold opIn at q
  cases e : inM u w h with
  | none =>
    rw [e] at q
    exact q.elim
  | some b =>
    rw [e] at q
    rcases in_rel hk R r1 r2 e with ⟨p, xs, h1, h2, h3, h4, h5⟩ | ⟨c, z, h1, h2, h3⟩
    · refine .inl ⟨p, xs, h1, h2, h3, h4, ?_⟩
      rw [if_neg Bool.false_ne_true, h5]
      exact q.now R (.bl _)
    · refine .inr ⟨c, z, h1, h2, ?_⟩
      rw [h3]
      exact q.now R (.bl _)⟩
theorem o_notIn (hk : G.K = X.K) : OpS X G (compareOp .NotIn) opNotIn := ⟨_, (op_notIn_seq.or op_notIn_sign), fun ι h H u w x y Q R r1 r2 q => by
  unfold opNotIn at q
  cases e : inM u w h with
  | none =>
    rw [e] at q
    exact q.elim
  | some b =>
    rw [e] at q
    rcases in_rel hk R r1 r2 e with ⟨p, xs, h1, h2, h3, h4, h5⟩ | ⟨c, z, h1, h2, h3⟩
    · refine .inl ⟨p, xs, h1, h2, h3, h4, ?_⟩
      rw [if_pos rfl, h5]
      exact q.now R (.bl _)
    · refine .inr ⟨c, z, h1, h2, ?_⟩
      rw [h3]
      exact q.now R (.bl _)⟩
theorem i_add : InS X G .Add opAddZ := ⟨_, in_add, fun ι h H u w x y Q R r1 r2 q => by
  cases u with
  | int i =>
    cases w with
    | int j =>
      cases r1
      cases r2
      exact ⟨i, j, rfl, rfl, q.now R (.int _)⟩
    | _ => exact q.elim
  | _ => exact q.elim⟩
end
end Sm

set_option Elab.async false
set_option linter.all false
set_option maxRecDepth 100000
set_option maxHeartbeats 4000000
/-! Sim, part 6: super().m(..) as the first statement of a method. -/
namespace Sm
open PySem PySem.Spec PyProof.Rows L2
open PySem.W (ksEnv ksFn ks_superObj kxs_mw methodObj)

/-- the names of a method that says super(): parameters local, none a cell -/
structure SupScope (N ps : List Str) (sc : Scope) : Prop where
  kind : sc.kind = .function
  co : sc.isCoroutine = false
  gen : sc.isGenerator = false
  nd : N.Nodup
  pre : N.take ps.length = ps
  par : ∀ x ∈ ps, sc.names.lookup x = some .local
  nocell : ∀ x ∈ sc.names, x.2 ≠ .cell
  free : ∀ x ∈ sc.names, x.2 = .free → x.1 = "__class__"
  hks : sc.names.lookup ("super" : Str) = some .globalImplicit
  hkc : sc.names.lookup ("__class__" : Str) = some .free
def cxS (CX : CXT) (P : Program) (w : World) (K : PySem.W.Frag) (mg : Str → Option Value) (base : Heap) (N : List Str) (qual : Str) (scope : Scope) (f cda cc : Addr) (A : Around) (outer : List Env) (s : Shared) (H : Hp) (E : XK) : Cx where
  prog := P
  w := w
  K := K
  mg := mg
  base := base
  A := A.deeper (ksEnv qual scope s.heap.objs.size f (.ref cda) cc)
  N := N
  s_0 := s
  H_0 := H
  env := ksEnv qual scope s.heap.objs.size f (.ref cda) cc
  outer := outer
  stack := ksEnv qual scope s.heap.objs.size f (.ref cda) cc :: outer
  ex := []
  calm := true
  fn := fun _ => false
  pn := []
  xe := fun e s' => wpAny (model P w) (A.deeper (ksEnv qual scope s.heap.objs.size f (.ref cda) cc)) (leaving (ksEnv qual scope s.heap.objs.size f (.ref cda) cc) e) (fun _ s'' => CX outer H s E e s'') (fun e' s'' => CX outer H s E e' s'') s'
theorem zip_rev_lookup : ∀ {ps : List Str} {us : List Value} {i : Nat} {y : Str} {u : Value}, ps.Nodup → ps[i]? = some y → us[i]? = some u → (ps.zip us).reverse.lookup y = some u
  | [], _, i, y, u, _, h, _ => by simp at h
  | p :: ps, [], i, y, u, _, _, h => by simp at h
  | p :: ps, x :: us, i, y, u, nd, h1, h2 => by
    have key : ∀ (l : List (Str × Value)) (z : Str) (v : Value), (l ++ [(z, v)]).lookup y = match l.lookup y with
      | some w => some w
      | none => if y = z then some v else none := by
      intro l z v
      induction l with
      | nil =>
        by_cases e : y = z
        · subst e
          simp [List.lookup]
        · have : (y == z) = false := beq_eq_false_iff_ne.mpr e
          simp [List.lookup, this, e]
      | cons q l ih =>
        obtain ⟨a, b⟩ := q
        by_cases e : y = a
        · subst e
          simp [List.lookup]
        · have : (y == a) = false := beq_eq_false_iff_ne.mpr e
          simp only [List.cons_append, List.lookup, this]
          exact ih
    rw [List.zip_cons_cons, List.reverse_cons, key]
    obtain ⟨nd1, nd2⟩ := List.nodup_cons.mp nd
    cases i with
    | zero =>
      simp at h1 h2
      subst h1 h2
      have : (ps.zip us).reverse.lookup p = none := by
        have none_of : ∀ l : List (Str × Value), (∀ q ∈ l, q.1 ≠ p) → l.lookup p = none := by
          intro l
          induction l with
          | nil => intro _; rfl
          | cons q l ih =>
            intro h
            obtain ⟨a, b⟩ := q
            have : (p == a) = false := beq_eq_false_iff_ne.mpr fun z => h _ List.mem_cons_self z.symm
            simp only [List.lookup, this]
            exact ih fun q hq => h q (List.mem_cons_of_mem _ hq)
        refine none_of _ fun q hq z => ?_
        have hq' : q ∈ ps.zip us := List.mem_reverse.mp hq
        obtain ⟨a, b⟩ := q
        have := (List.of_mem_zip hq').1
        rw [show a = p from z] at this
        exact nd1 this
      rw [this, if_pos rfl]
    | succ i =>
      rw [zip_rev_lookup nd2 (by simpa using h1) (by simpa using h2)]
section
variable {CX : CXT} {P : Program} {w : World} {K : PySem.W.Frag} {mg : Str → Option Value} {base : Heap} {N ps : List Str} {qual : Str} {scope : Scope} {f cda cc D : Addr} {A : Around} {outer : List Env} {s : Shared} {H : Hp} {E : XK} {us : List Value} {vs : List V}
theorem inv_sup {cl : Value} {cld : Option Addr} {csl : Array (Option Value)} {h₀ : Heap} {tk : Nat} (S : SupScope N ps scope) (hd : A.handled = none) (e0 : Env0 P w K mg base A outer s H) (hl : vs.length = ps.length) (r : Vals vs us)
    (hcc : K.lookup cc = some ⟨cl, cld, .cell (some (.ref D)), csl⟩) (hns : h₀.Ns s.heap.objs.size fun y => (ps.zip us).reverse.lookup y) (kp : ∀ b o, s.heap.get? b = some o → h₀.get? b = some o) :
    Inv (cxS CX P w K mg base N qual scope f cda cc A outer s H E) [] (L2.start N vs) H { s with heap := h₀, toks := tk } := by
  have hpl : ps.length ≤ N.length := by have := congrArg List.length S.pre; rw [List.length_take] at this; omega
  have bcc := e0.mod.kin cc _ hcc
  have scc := (e0.bs cc _ bcc).1
  have noA : ∀ b : Addr, b ∉ (cxS CX P w K mg base N qual scope f cda cc A outer s H E).ex := fun b z => absurd (show b ∈ ([] : List Addr) from z) (by simp)
  have cellis : ∀ {x c}, ([("__class__", cc)] : List (Str × Addr)).lookup x = some c → x = "__class__" ∧ c = cc := fun {x c} h => by
    by_cases e : x = "__class__"
    · subst e
      simp [List.lookup] at h
      exact ⟨rfl, h.symm⟩
    · have : (x == ("__class__" : Str)) = false := beq_eq_false_iff_ne.mpr e
      simp [List.lookup, this] at h
  refine ⟨⟨e0.mod, S.kind, rfl, rfl, Nat.le_refl _, fun x y c h1 h2 => ?_, fun y hy => ?_, fun y c h _ => (by cases h), fun _ => hd, Around.frames_deeper e0.frames, .inr ⟨rfl, rfl⟩, fun b z => absurd z (noA b), e0.bs, e0.bsz, fun b _ _ => noA b, fun b z => absurd z (noA b), e0.funs, e0.frf⟩,
    rfl, e0.bare, Un.kept kp, ⟨_, hns, fun i y v h1 h2 h3 => ?_⟩, fun y c h => ?_, e0.hok.fresh (Nat.le_refl _), fun y c h => ?_, fun p hp => absurd (show p ∈ ([] : List (Addr × Obj)) from hp) (by simp), e0.hok.kept kp, ?_⟩
  · exact (cellis h1).1.trans (cellis h2).1.symm
  · have hy : scope.names.lookup y = some .cell ∨ scope.names.lookup y = some .free := hy
    rcases hy with hy | hy
    · exact absurd rfl (S.nocell _ (PySem.mem_of_lookup hy))
    · have e := S.free _ (PySem.mem_of_lookup hy) rfl
      have e : y = "__class__" := e
      exact ⟨cc, by rw [e]; show (([("__class__", cc)] : List (Str × Addr)).lookup ("__class__" : Str)) = _; simp [List.lookup]⟩
  · have hi : i < vs.length := by
      unfold L2.start at h2
      by_cases hi : i < vs.length
      · exact hi
      · rw [List.getElem?_append_right (by simpa using hi)] at h2
        rw [List.getElem?_replicate] at h2
        split at h2 <;> cases h2
    have ha : vs[i]? = some v := by
      unfold L2.start at h2
      rw [List.getElem?_append_left (by simpa using hi), List.getElem?_map] at h2
      cases e : vs[i]? with
      | none => rw [e] at h2; cases h2
      | some a => rw [e] at h2; cases h2; rfl
    obtain ⟨u, hu, rv⟩ := r.get ha
    have hp : ps[i]? = some y := by
      rw [← S.pre, List.getElem?_take_of_lt (by omega)]; exact h1
    have ndP : ps.Nodup := by rw [← S.pre]; exact S.nd.sublist (List.take_sublist _ _)
    exact ⟨u, rv, .inl ⟨S.par y (List.mem_of_getElem? hp), zip_rev_lookup ndP hp hu⟩⟩
  · obtain ⟨_, e2⟩ := cellis h
    subst e2
    exact ⟨_, _, kp _ _ scc, rfl⟩
  · obtain ⟨_, e2⟩ := cellis h
    subst e2
    exact (e0.bs _ _ bcc).2
  · unfold L2.start
    show _ = N.length
    rw [List.length_append, List.length_map, List.length_replicate]
    omega
end
/-- what the written part and the text say, so that super() works in the body of the def at f, in the class at D -/
structure SupF (P : Program) (K : PySem.W.Frag) (mg : Str → Option Value) (name qual : Str) (params : Arguments) (body : List Stmt) (scope : Scope) (N ps : List Str) (f cda cc D : Addr) (fd : FuncData) : Prop where
  fn : ∃ (dV kV doc pm ct oc : Value) (an od : Option Addr) (osl : Array (Option Value)), fd = ksFn name qual params body scope dV kV doc pm an (.ref cda) ct cc ∧ K.lookup f = some ⟨oc, od, .func fd, osl⟩
  cd : PySem.W.codeIn K (.ref cda) qual = true
  sc : SupScope N ps scope
  hp : ∃ ar, (params.posonlyargs ++ params.args).head? = some ar ∧ ps[0]? = some ar.arg
  co : ∃ (oc : Value) (od : Option Addr) (os : Array (Option Value)) (vs : Array Value) (file : Str) (tf : Tok), K.lookup cda = some ⟨oc, od, .fields vs, os⟩ ∧ vs[2]? = some (.str file tf) ∧ ((P.main.file : Str) == file) = true
  ce : ∃ (cl : Value) (cld : Option Addr) (csl : Array (Option Value)), K.lookup cc = some ⟨cl, cld, .cell (some (.ref D)), csl⟩
  cl : (PySem.W.clsIn K D).isSome = true
  top : (P.main.scope.names.lookup ("super" : Str)).isSome = false
  ms : mg ("super" : Str) = none
  st : PySem.W.nsIn K cStatics "thirdparty.any" = some none
section
variable {CX : CXT} {P : Program} {w : World} {K : PySem.W.Frag} {mg : Str → Option Value} {base : Heap} {N ps : List Str} {name qual : Str} {params : Arguments} {body : List Stmt} {scope : Scope} {f cda cc D : Addr} {A : Around} {outer : List Env} {s0 : Shared} {H0 : Hp} {E : XK} {fd : FuncData}
/-- the node super(), read for .attr -/
theorem sup_node {pins : List (Addr × Obj)} {σ : L2.St} {H : Hp} {s : Shared} {x C : Addr} {ox : Obj} {attr : Str} {whole : Sem Value} {p0 p1 : Pos} {Q : Value → Shared → Prop} {EE : Value → Shared → Prop} {b' : List Stmt}
    (F : SupF P K mg name qual params body scope N ps f cda cc D fd) (I : Inv (cxS CX P w K mg base N qual scope f cda cc A outer s0 H0 E) pins σ H s) (h0 : σ[0]? = some (some (.ref x))) (hx : s.heap.get? x = some ox) (hxc : ox.cls = .ref C) (hnc : ∀ c, ox.data ≠ .cls c)
    (hsub : PySem.W.mroIn K C (.ref D) = some true) (hat : (attr == ("__class__" : Str)) = false)
    (h : ∀ h', h'.get? s.heap.objs.size = some (ks_superObj D x C) → (∀ y o, s.heap.get? y = some o → h'.get? y = some o) → Q (.ref s.heap.objs.size) { s with heap := h' }) :
    _root_.PySem.wpAt (model P w) (cxS CX P w K mg base N qual scope f cda cc A outer s0 H0 E).A (.func b' (cxS CX P w K mg base N qual scope f cda cc A outer s0 H0 E).env) (attributeBase (.Call (.Name "super" p0) [] [] p1) attr (cxS CX P w K mg base N qual scope f cda cc A outer s0 H0 E).env whole) Q EE s := by
  obtain ⟨dV, kV, doc, pm, ct, oc, an, od, osl, rfl, lk⟩ := F.fn
  obtain ⟨ar, hp, hp0⟩ := F.hp
  obtain ⟨oc2, od2, os2, vs, file, tf, lc, hvs, hfile⟩ := F.co
  obtain ⟨cl, cld, csl, lcc⟩ := F.ce
  have X : K.In s.heap := I.kIn
  obtain ⟨cdD, hD⟩ := Option.isSome_iff_exists.mp F.cl
  obtain ⟨oD, hD1, hD2⟩ : ∃ oD, s.heap.get? D = some oD ∧ oD.data = .cls cdD := by
    unfold PySem.W.clsIn at hD
    split at hD
    · rename_i c d cd' sl ho
      cases hD
      exact ⟨_, X _ _ ho, rfl⟩
    · cases hD
  have S := F.sc
  have hkf : scope.kind = .function := S.kind
  obtain ⟨mb, b1, b2⟩ := I.mod.blt
  have par0 : scope.names.lookup ar.arg = some .local := S.par _ (List.mem_of_getElem? hp0)
  have n0 : N[0]? = some ar.arg := by
    have hlt := (List.getElem?_eq_some_iff.mp hp0).1
    rw [← S.pre, List.getElem?_take_of_lt hlt] at hp0
    exact hp0
  obtain ⟨m, hn, hl⟩ := I.loc
  obtain ⟨u, ru, lu⟩ := hl 0 ar.arg (.ref x) n0 h0 (.inl par0)
  obtain rfl : u = Value.ref x := ru
  have hv : m ar.arg = some (.ref x) := by
    rcases lu with ⟨_, z⟩ | ⟨z, _⟩
    · exact z
    · have z : scope.names.lookup ar.arg = some .cell ∨ scope.names.lookup ar.arg = some .free := z
      rcases z with z | z <;> rw [par0] at z <;> cases z
  obtain ⟨hh, g, d, t, os⟩ := s
  refine ks_wpAt_super_base (env := ksEnv qual scope s0.heap.objs.size f (.ref cda) cc) S.hks S.hkc hat rfl (X _ _ lk) rfl hp rfl (X _ _ lc) rfl hvs hfile F.top ?_
  refine PySem.W.ks_loadName_global hkf S.hks (Calls.loadGlobal_builtin (env := ksEnv qual scope s0.heap.objs.size f (.ref cda) cc) (I.mod.glob.keeps I.bk) F.ms (b1.keeps I.bk) ((b2 _ (by decide)).trans PyProof.Rows.Boot.«super») ⟨rfl, ?_⟩)
  refine wpAny_loadName_free hkf S.hkc rfl ⟨_, X _ _ lcc, rfl⟩ ?_
  refine wpAny_loadName_local hkf par0 hn hv ?_
  refine ks_wpAny_isType_cls hD1 hD2 ⟨rfl, ?_⟩
  exact ks_wpAny_call_super hD1 hD2 hx hxc hnc (PySem.W.looks_mroIn X hsub) h
end

/-! ### the first statement run, then the rest -/
/-- how super().m stands for an instance of C in a method of D: the def at g -/
structure SupM (K : PySem.W.Frag) (C D : Addr) (m : Str) (g : Addr) : Prop where
  sub : PySem.W.mroIn K C (.ref D) = some true
  at_ : PySem.W.ks_superIn K C D m = some (some (.ref g))
  ty : PySem.W.typeIn K (.ref g) = some (.type "function")
  fi : PySem.W.fnIn K g = true
/-- a def's promise, by whatever it is called with -/
abbrev FnS (P : Program) (w : World) (K : PySem.W.Frag) (mg : Str → Option Value) (base : Heap) (G : Wd) (k : Nat) (g : Addr) (m : FM) : Prop := FnR P w K mg base (L2.CX P w) k g (spM G m)
theorem Fn.fnS {P : Program} {w : World} {K : PySem.W.Frag} {mg : Str → Option Value} {base : Heap} {G : Wd} {k : Nat} {f : Addr} {m : FM} (F : Fn P w K mg base G k f m) : FnS P w K mg base G k f m := by
  obtain ⟨fd, ps, F, b⟩ := F.ex
  intro A outer s H us vs Q E hr e0 r hs
  have hl : us.length = ps.length := by rw [← r.length]; exact F.len _ _ _ _ hs
  have KX : K.In s.heap := e0.mod.kin.keeps fun b o e => (e0.bs b o e).1
  have b' := b s us KX (by rw [List.append_nil]; exact hl)
  rw [List.append_nil] at b'
  exact F.run A outer s H ⟨us, []⟩ us vs Q E hr e0 b' r hs
/-- the receiver and its class -/
def selfC (cs : List Nat) (us : List U) (h : Hs) : Bool := match us with
  | .ref i :: _ => match h.get i with
    | some (.ins c _) => cs.any (Nat.beq c)
    | _ => false
  | _ => false
/-- super().m(..); the rest -/
def runSup (cs : List Nat) (n N : Nat) (ms : AM) (mb : FM) (b : SM) : FM := fun us h => match Nat.beq us.length n && selfC cs us h with
  | true => (ms (us.map some ++ List.replicate (N - n) none) h).bind fun ws h1 => (mb (us.headD .non :: ws) h1).bind fun _ h2 => match b (us.map some ++ List.replicate (N - n) none) h2 with
    | .nx _ h3 => .ok .non h3
    | .rt u h3 => .ok u h3
    | .err e _ h3 => .err e h3
    | _ => .no
  | false => .no
section
variable {P : Program} {w : World} {K : PySem.W.Frag} {mg : Str → Option Value} {base : Heap} {N ps : List Str} {name qual : Str} {params : Arguments} {scope : Scope} {f cda cc D : Addr} {fd : FuncData}
theorem fn_sup {pl : Env → Sem Bool} {G : Wd} {k : Nat} {g : Addr} {mb : FM} {ms : AM} {b : SM} {cs : List Nat} {m : Str} {e : Expr} {es : List Expr} {rest : List Stmt} {p0 p1 pa pc pe : Pos} (hk : G.K = K)
    (F : SupF P K mg name qual params (.Expr (.Call (.Attribute (.Call (.Name "super" p0) [] [] p1) m pa) (e :: es) [] pc) pe :: rest) scope N ps f cda cc D fd)
    (hcs : ∀ c ∈ cs, ∀ C, G.gl c = some C → SupM K C D m g) (hat : (m == ("__class__" : Str)) = false) (Fg : FnS P w K mg base G k g mb)
    (ha : ∀ (A : Around) (outer : List Env) (s : Shared) (H : Hp) (E : XK), SA (cxS (L2.CX P w) P w K mg base N qual scope f cda cc A outer s H E) G (fun _ => E) (e :: es) ms)
    (hb : ∀ (A : Around) (outer : List Env) (s : Shared) (H : Hp) (E : XK), Room k (A.deeper (ksEnv qual scope s.heap.objs.size f (.ref cda) cc)) → SB (cxS (L2.CX P w) P w K mg base N qual scope f cda cc A outer s H E) G (fun _ => E) rest b)
    (hstar : ∀ env : Env, starEach (e :: es) env = (false, eval e env) :: starEach es env) (hpl : ∀ env : Env, (backTo pc (starEach es env)).any (·.1) = false)
    (he : ∀ env : Env, eval (.Call (.Attribute (.Call (.Name "super" p0) [] [] p1) m pa) (e :: es) [] pc) env = (do
      let ov ← attributeBase (.Call (.Name "super" p0) [] [] p1) m env (eval (.Call (.Name "super" p0) [] [] p1) env)
      standAt pa.atName
      let (f, first) ← holding [ov] (getMethod ov m (pl env))
      callWith pc f first (backTo pc (starEach (e :: es) env)) []))
    (hsw : ∀ env : Env, swapsWith (.Call (.Attribute (.Call (.Name "super" p0) [] [] p1) m pa) (e :: es) [] pc) none pe.line env = pure false) :
    FnOk P w K mg base (L2.CX P w) (k + 1) f fd ps (spM G (runSup cs ps.length N.length ms mb b)) := by
  have key : ∀ {us : List U} {h : Hs} {E : XK} {ι : List Addr} {H : Hp} {Q : VK}, Aft G (VRel G) E ι H Q (runSup cs ps.length N.length ms mb b us h) → us.length = ps.length ∧ selfC cs us h = true := fun {us h E ι H Q} q => by
    unfold runSup at q
    cases e : Nat.beq us.length ps.length && selfC cs us h with
    | false =>
      rw [e] at q
      exact q.elim
    | true =>
      obtain ⟨e1, e2⟩ := Bool.and_eq_true_iff.mp e
      exact ⟨Nat.eq_of_beq_eq_true e1, e2⟩
  refine ⟨fun vs H Q E ⟨us, ι, h, r, R, q⟩ => by rw [← r.length]; exact (key q).1, fun A outer s H args us vs Q E hr e0 hbd r hsp => ?_⟩
  obtain ⟨us', ι, h, rv, R, q⟩ := hsp
  obtain ⟨hl, hself⟩ := key q
  have S := F.sc
  have hlv : vs.length = ps.length := by rw [← rv.length]; exact hl
  have KX : K.In s.heap := e0.mod.kin.keeps fun b o e => (e0.bs b o e).1
  have lim : s.heap.NoLimit := e0.mod.nolimit.keeps fun b o e => (e0.bs b o e).1
  obtain ⟨dV, kV, doc, pm, ct, oc, an, od, osl, hfd, lk⟩ := F.fn
  obtain ⟨cl, cld, csl, lcc⟩ := F.ce
  have hcd := F.cd
  have F' := F
  subst hfd
  refine ks_codeAny_call_defAt (fd := ksFn name qual params (.Expr (.Call (.Attribute (.Call (.Name "super" p0) [] [] p1) m pa) (e :: es) [] pc) pe :: rest) scope dV kV doc pm an (.ref cda) ct cc) (binds := ps.zip us) hr.depth (KX _ _ lk) rfl lim (PySem.W.codeRec_of KX hcd) rfl hbd S.nocell
    (fun y hy => S.par _ (List.of_mem_zip hy).1) (fun h₀ hns kp => ?_) S.co S.gen S.kind
  have I0 := inv_sup (CX := L2.CX P w) (qual := qual) (f := f) (cda := cda) (D := D) (E := E) (tk := s.toks + (ps.zip us).length) S hr.hd e0 hlv r lcc hns kp
  -- the receiver
  obtain ⟨i, us2, c, fs, hu, ho, hc⟩ : ∃ i us2 c fs, us' = .ref i :: us2 ∧ h.get i = some (.ins c fs) ∧ cs.any (Nat.beq c) = true := by
    unfold selfC at hself
    split at hself
    · split at hself
      · exact ⟨_, _, _, _, rfl, by assumption, hself⟩
      · cases hself
    · cases hself
  subst hu
  obtain ⟨c', hm1, hm2⟩ := List.any_eq_true.mp hc
  have hcc := Nat.eq_of_beq_eq_true hm2
  subst hcc
  cases rv with
  | @cons _ v0 _ vs2 rv0 rv2 =>
  obtain ⟨a, ho', ea, ei, eh, er⟩ := R.at ho rv0
  subst ea
  cases er with
  | @ins _ C dx _ fvs gC cC nC rF =>
  have SM := hcs c hm1 C gC
  subst hk
  obtain ⟨mA, O, _, _, _, _⟩ := ins_get I0.hok eh
  obtain ⟨od0, J, _⟩ := O.look
  have h0 : (L2.start N (V.ref a :: vs2))[0]? = some (some (.ref a)) := by
    unfold L2.start
    simp
  refine ks_wpAt_execs_cons (ks_wpAt_Expr_any (ks_wpAt_MethodCall (pl := pl (ksEnv qual scope s.heap.objs.size f (.ref cda) cc)) ?_ (he _)) I0.quiet (hsw _))
  refine sup_node F' I0 h0 J.at_ J.cls (fun c e => ?_) SM.sub hat fun h' e' k' => ?_
  · have := J.no
    unfold PySem.W.notCls at this
    rw [e] at this
    exact Bool.noConfusion this
  have I1 := I0.kept (t' := s.toks + (ps.zip us).length) k'
  have hX := I1.kIn
  -- super().m: a bound method, new
  have hclC : (PySem.W.clsIn G.K C).isSome = true := by
    have := SM.sub
    unfold PySem.W.mroIn at this
    cases z : PySem.W.clsIn G.K C with
    | none =>
      rw [z] at this
      cases this
    | some cd => rfl
  obtain ⟨cd, hcdC⟩ := Option.isSome_iff_exists.mp hclC
  have hal := SM.at_
  unfold PySem.W.ks_superIn at hal
  rw [hcdC] at hal
  obtain ⟨of, hof, hofc⟩ : ∃ of, h'.get? g = some of ∧ of.cls = .type "function" := by
    have ht' : (G.K.lookup g).map (·.cls) = some (.type "function") := SM.ty
    cases z : G.K.lookup g with
    | none => rw [z] at ht'; cases ht'
    | some of => rw [z] at ht'; exact ⟨of, hX _ _ z, Option.some.inj ht'⟩
  refine ks_wpAny_getMethod_super e' (PySem.W.looks_opaque hX F'.st) (l₀ := cd.mro) (fun A Q E s k q => wpAny_bind ((PySem.W.looks_clsIn hX hcdC) A _ E s k (wpAny_pure q))) rfl hX hal hof hofc (PySem.W.ks_ne I0.kIn J hcdC) hat ?_
  have hn : H h'.objs.size = none := I1.hok.fresh (Nat.le_refl _)
  have I2 := I1.laid (t' := s.toks + (ps.zip us).length + 1) (a := h'.objs.size) (o := .met g a) (h' := h'.push (PySem.W.methodObj (.ref g) (.ref a))) (fun b u z => Heap.get?_push_of_some _ z) (Nat.le_refl _)
    (show (h'.push (PySem.W.methodObj (.ref g) (.ref a))).get? h'.objs.size = some (PySem.W.methodObj (.ref g) (.ref a)) from Heap.get?_push_size h' rfl)
  have E2 : Ext ι H ι (upd H h'.objs.size (.met g a)) := Ext.fresh hn
  have R2 : Rep G ι h (upd H h'.objs.size (.met g a)) := R.fresh hn
  have mq : h'.objs.size ∉ ι := fun z => (R.ne z).2.2.2.2 hn
  have rvs : VRels G ι H (.ref i :: us2) (.ref a :: vs2) := .cons rv0 rv2
  have s2 : SRel G ι (upd H h'.objs.size (.met g a)) ((U.ref i :: us2).map some ++ List.replicate (N.length - ps.length) none) (L2.start N (V.ref a :: vs2)) := VRels.start (VRels.ext E2 rvs) hl
  unfold runSup at q
  rw [show (Nat.beq (U.ref i :: us2).length ps.length && selfC cs (.ref i :: us2) h) = true by rw [hself, Bool.and_true, hl, Nat.beq_refl]] at q
  have q2 := Aft.ext E2 q
  refine callwith_met (X := cxS (L2.CX P w) P w G.K mg base N qual scope f cda cc A outer s H E) (q := h'.objs.size) (g := g) (a := a) (first := []) (by rw [hstar]; show (false || (backTo pc (starEach es _)).any (·.1) || _) = false; rw [hpl]; rfl) SM.fi ?_
  have tk : Takes (cxS (L2.CX P w) P w G.K mg base N qual scope f cda cc A outer s H E) (wx fun _ => E) := takes_of rfl rfl rfl rfl
  have harun := (ha A outer s H E).run pc [] _ (L2.start N (V.ref a :: vs2)) _ (fun ws H3 => H3 h'.objs.size = some (.met g a) ∧ spM G mb (.ref a :: ws) H3 (fun _ H4 => tS G (fun _ => E) b { nx := fun _ H' => Q .non H', rt := Q } (L2.start N (V.ref a :: vs2)) H4) E) I2
    ⟨_, ι, h, s2, R2, q2.bind fun ι3 H3 ws h3 wv E3 R3 r3 q3 => ⟨E3.kp _ _ upd_same mq (fun _ z => nomatch z), _, ι3, h3, .cons ((rv0.ext E2).ext E3) r3, R3, q3.bind fun ι4 H4 u4 h4 v4 E4 R4 r4 q4 => ⟨_, ι4, h4, ((s2.ext E3).ext E4), R4, ?_⟩⟩⟩
  · rw [hstar] at harun ⊢
    refine Calls.evalArgs_plain (wpAny_mono harun (fun wu s3 hh => ?_) fun _ _ z => z)
    obtain ⟨ws, H3, I3, r3, hq3, hs3⟩ := hh
    refine ⟨met_P I3 hq3, ?_⟩
    refine wpAny_call (call_met I3 hq3 (codeAny_mono (Fg _ _ s3 H3 (.ref a :: wu) (.ref a :: ws) _ E ?_ I3.env0 (.cons rfl r3) hs3) fun r' s4 hh4 => ?_))
    · exact hr.deeper _
    · cases r' with
      | error ee => exact passAt tk (L2.start N (V.ref a :: vs2)) _ _ _ _ _ I3 hh4
      | ok fl =>
        cases fl with
        | ret u =>
          obtain ⟨v, H4, I4, rv4, q4⟩ := I3.after hh4
          refine _root_.PySem.wpAt_of_wpAny ?_
          have hrest := (hb A outer s H E (hr.deeper _)).run [] _ (L2.start N (V.ref a :: vs2)) H4 _ I4 q4
          have fin : ∀ {σ' : L2.St} {H' : Hp} {v : V} {u : Value} {s' : Shared}, Inv (cxS (L2.CX P w) P w G.K mg base N qual scope f cda cc A outer s H E) [] σ' H' s' → L2.RelV v u → Q v H' → CE outer P w H s Q u s' :=
            fun {σ' H' v u s'} J rv q => ⟨v, H', J.os, J.bare, J.base, J.hok, rv, q⟩
          refine wpAny_mono hrest (fun fl s' hs => ?_) fun e s' hs => hs
          cases fl with
          | ret u =>
            obtain ⟨v, σ', H', J, rv, q⟩ := hs
            exact fin J rv q
          | next =>
            obtain ⟨σ', H', J, q⟩ := hs
            exact fin (v := V.non) (u := Value.none) J rfl q
          | brk =>
            obtain ⟨_, _, _, q⟩ := hs
            exact False.elim q
          | cont =>
            obtain ⟨_, _, _, q⟩ := hs
            exact False.elim q
        | next => exact False.elim hh4
        | brk => exact False.elim hh4
        | cont => exact False.elim hh4
  · revert q4
    generalize b ((U.ref i :: us2).map some ++ List.replicate (N.length - ps.length) none) h4 = rr
    cases rr with
    | nx τ h1 => exact fun q ι' H' σ' E R s => q ι' H' .non E R .non
    | rt u h1 => exact fun q => q
    | err x τ h1 => exact fun q ι' H' σ' cls d E R s x => q ι' H' cls d E R x
    | bk τ h1 => exact fun q => q.elim
    | ct τ h1 => exact fun q => q.elim
    | no => exact fun q => q.elim
end

/-! ### .. of an own exception over ValueError -/
structure SupX (K : PySem.W.Frag) (C D : Addr) : Prop where
  sub : PySem.W.mroIn K C (.ref D) = some true
  at_ : PySem.W.ks_superIn K C D "__init__" = some (some (.builtin "ValueError.__init__"))
  ve : PySem.W.subIn K (.ref C) (.type "ValueError") = some true
section
variable {P : Program} {w : World} {K : PySem.W.Frag} {mg : Str → Option Value} {base : Heap} {N ps : List Str} {name qual : Str} {params : Arguments} {scope : Scope} {f cda cc D : Addr} {fd : FuncData}
theorem call_mw {X : Cx} {pins : List (Addr × Obj)} {σ : L2.St} {H : Hp} {s : Shared} {u a C : Addr} {us : List Value} {Q : Value → Shared → Prop} {EE : Value → Shared → Prop} {A : Around} (T : OexC X.K C) (I : Inv X ((u, kxs_mw "ValueError.__init__" a) :: pins) σ H s) (e : H a = some (exo a C none)) (hl : us.length ≤ sizeLine)
    (h : ∀ s', Inv X pins σ H s' → Q .none s') : wpAny (model X.prog X.w) A (call (.ref u) us) Q EE s := by
  obtain ⟨nm, q, N, bs, bm, sn, sub, ab, col, dd, k0, k1, k2, k3, k5, hC, hbm⟩ := T.cls
  obtain ⟨t1, ho⟩ := exo_at I.hok e
  have hu := ClX.pin_at I
  obtain ⟨hp, g, d, t, os⟩ := s
  have hC' := I.kIn _ _ hC
  refine wpAny_call (codeAny_of_tree ?_)
  show wpAny _ A.in1 (callAny (.ref u) ⟨us, []⟩) _ _ _
  simp only [callAny]
  refine wpAny_bind (wpAny_load hu ?_)
  simp only [kxs_mw, show (Value.type "method-wrapper" == Value.type "method" || Value.type "method-wrapper" == Value.type "builtin_function_or_method" || Value.type "method-wrapper" == Value.type "method-wrapper") = true by decide, if_true]
  refine PySem.W.KFB.if_so (by decide) ?_
  refine wpAny_bind (PySem.W.check_bound_init F.excBase_ValueError.toExcCallFacts hC' ho rfl ?_)
  refine wpAny_bind (wpAny_pure (wpAny_pure ?_))
  refine ⟨plainId_quiet F.excBase_ValueError.init.plain _, codeAny_builtin F.excBase_ValueError.initEntry ?_⟩
  refine PySem.W.exc_init_tree (cls := .ref C) (t0 := t1) (dv := none) (c2 := .none) (c3 := .none) (b4 := .bool false) ho hl fun h' k hx _ => ?_
  have J := I.write (t' := t) (x := a) (e := a) (o := exo a C none) (by rw [e]; exact True.intro) (.inl rfl) k ⟨_, hx⟩ (exo_ok hx)
  have eu : upd H a (exo a C none) = H := by
    funext b
    by_cases hb : b = a
    · rw [hb, upd_same, e]
    · rw [upd_ne hb]
  rw [eu] at J
  exact h _ (ClX.unpin J)
theorem fn_supx {pl : Env → Sem Bool} {k : Nat} {sp : Sp} {e : Expr} {es : List Expr} {rest : List Stmt} {p0 p1 pa pc pe : Pos}
    (F : SupF P K mg name qual params (.Expr (.Call (.Attribute (.Call (.Name "super" p0) [] [] p1) "__init__" pa) (e :: es) [] pc) pe :: rest) scope N ps f cda cc D fd)
    (len : ∀ vs H Q E, sp vs H Q E → vs.length = ps.length)
    (hb : ∀ (A : Around) (outer : List Env) (s : Shared) (H : Hp) (vs : List V) (Q : VK) (E : XK), sp vs H Q E → ∃ ta t, PA (cxS (L2.CX P w) P w K mg base N qual scope f cda cc A outer s H E) (e :: es) ta ∧ PSs (cxS (L2.CX P w) P w K mg base N qual scope f cda cc A outer s H E) rest t ∧
      ∃ a C, vs.head? = some (.ref a) ∧ H a = some (exo a C none) ∧ OexC K C ∧ SupX K C D ∧ ta (L2.start N vs) H fun ws H1 => H1 = H ∧ ws.length ≤ 1000 ∧ t { nx := fun _ H' => Q .non H', rt := Q } (L2.start N vs) H)
    (hstar : ∀ env : Env, starEach (e :: es) env = (false, eval e env) :: starEach es env) (hpl : ∀ env : Env, (backTo pc (starEach es env)).any (·.1) = false)
    (he : ∀ env : Env, eval (.Call (.Attribute (.Call (.Name "super" p0) [] [] p1) "__init__" pa) (e :: es) [] pc) env = (do
      let ov ← attributeBase (.Call (.Name "super" p0) [] [] p1) "__init__" env (eval (.Call (.Name "super" p0) [] [] p1) env)
      standAt pa.atName
      let (f, first) ← holding [ov] (getMethod ov "__init__" (pl env))
      callWith pc f first (backTo pc (starEach (e :: es) env)) []))
    (hsw : ∀ env : Env, swapsWith (.Call (.Attribute (.Call (.Name "super" p0) [] [] p1) "__init__" pa) (e :: es) [] pc) none pe.line env = pure false) :
    FnOk P w K mg base (L2.CX P w) (k + 1) f fd ps sp := by
  refine ⟨len, fun A outer s H args us vs Q E hr e0 hbd r hsp => ?_⟩
  obtain ⟨ta, t, pta, pt, a, C, hhd, ha, T, SX, hrun⟩ := hb A outer s H vs Q E hsp
  have S := F.sc
  have hlv : vs.length = ps.length := len _ _ _ _ hsp
  have KX : K.In s.heap := e0.mod.kin.keeps fun b o e => (e0.bs b o e).1
  have lim : s.heap.NoLimit := e0.mod.nolimit.keeps fun b o e => (e0.bs b o e).1
  obtain ⟨dV, kV, doc, pm, ct, oc, an, od, osl, hfd, lk⟩ := F.fn
  obtain ⟨cl, cld, csl, lcc⟩ := F.ce
  have hcd := F.cd
  have F' := F
  subst hfd
  refine ks_codeAny_call_defAt (fd := ksFn name qual params (.Expr (.Call (.Attribute (.Call (.Name "super" p0) [] [] p1) "__init__" pa) (e :: es) [] pc) pe :: rest) scope dV kV doc pm an (.ref cda) ct cc) (binds := ps.zip us) hr.depth (KX _ _ lk) rfl lim (PySem.W.codeRec_of KX hcd) rfl hbd S.nocell
    (fun y hy => S.par _ (List.of_mem_zip hy).1) (fun h₀ hns kp => ?_) S.co S.gen S.kind
  have I0 := inv_sup (CX := L2.CX P w) (qual := qual) (f := f) (cda := cda) (D := D) (E := E) (tk := s.toks + (ps.zip us).length) S hr.hd e0 hlv r lcc hns kp
  obtain ⟨vs2, rfl⟩ : ∃ vs2, vs = .ref a :: vs2 := by
    cases vs with
    | nil => cases hhd
    | cons v vs2 =>
      have : v = .ref a := by simpa using hhd
      exact ⟨vs2, by rw [this]⟩
  obtain ⟨t1, ho⟩ := exo_at I0.hok ha
  have J : PySem.W.InstAt h₀ a { cls := .ref C, dict := none, data := .fields #[.ref t1, .none, .none, .none, .bool false, .none] } C none := ⟨ho, rfl, rfl, trivial⟩
  have h0 : (L2.start N (V.ref a :: vs2))[0]? = some (some (.ref a)) := by
    unfold L2.start
    simp
  refine ks_wpAt_execs_cons (ks_wpAt_Expr_any (ks_wpAt_MethodCall (pl := pl (ksEnv qual scope s.heap.objs.size f (.ref cda) cc)) ?_ (he _)) I0.quiet (hsw _))
  refine sup_node F' I0 h0 J.at_ J.cls (fun c e => (nomatch e)) SX.sub (by decide) fun h' e' k' => ?_
  have I1 := I0.kept (t' := s.toks + (ps.zip us).length) k'
  have hX := I1.kIn
  obtain ⟨nm, q, N', bs, bm, sn, sub, ab, col, dd, k0, k1, k2, k3, k5, hC, hbm⟩ := T.cls
  have hcdC : PySem.W.clsIn K C = some { name := nm, bases := bs, mro := .ref C :: bm, ns := N', qualname := q, hasDict := true, slotNames := sn, subclasses := sub, abstract := ab, collection := col, hasDel := false } := by unfold PySem.W.clsIn; rw [hC] <;> rfl
  have hal := SX.at_
  unfold PySem.W.ks_superIn at hal
  rw [hcdC] at hal
  obtain ⟨t2, ho1⟩ := exo_at I1.hok ha
  have J1 : PySem.W.InstAt h' a { cls := .ref C, dict := none, data := .fields #[.ref t2, .none, .none, .none, .bool false, .none] } C none := ⟨ho1, rfl, rfl, trivial⟩
  refine PySem.W.kxs_getMethod PySem.W.kxs_ValueError e' (PySem.W.looks_opaque hX F'.st) (l₀ := .ref C :: bm) (fun A Q E s k q => wpAny_bind ((PySem.W.looks_clsIn hX hcdC) A _ E s k (wpAny_pure q))) rfl hX hal (J1.type.andThen (PySem.W.looks_subIn hX SX.ve)) (PySem.W.ks_ne I0.kIn J hcdC) (by decide) ?_
  have I2 : Inv (cxS (L2.CX P w) P w K mg base N qual scope f cda cc A outer s H E) [(h'.objs.size, kxs_mw "ValueError.__init__" a)] (L2.start N (V.ref a :: vs2)) H ⟨h'.push (kxs_mw "ValueError.__init__" a), s.gens, s.drawn, s.toks + (ps.zip us).length + 1, s.os⟩ :=
    ClX.pin_new (s := ⟨h', s.gens, s.drawn, s.toks + (ps.zip us).length, s.os⟩) (t' := s.toks + (ps.zip us).length + 1) (h' := h'.push (kxs_mw "ValueError.__init__" a)) (o := kxs_mw "ValueError.__init__" a) I1 (fun b u z => Heap.get?_push_of_some _ z) (Nat.le_refl _) (Heap.get?_push_size h' rfl) (fun v z => nomatch z)
  refine PySem.W.kxs_callWith (i := "ValueError.__init__") (x := a) (first := []) (by rw [hstar]; show (false || (backTo pc (starEach es _)).any (·.1)) = false; rw [hpl]; rfl) ?_
  have harun := pta.run pc [(h'.objs.size, kxs_mw "ValueError.__init__" a)] _ (L2.start N (V.ref a :: vs2)) H _ I2 hrun
  rw [hstar] at harun ⊢
  refine Calls.evalArgs_plain (wpAny_mono harun (fun wu s3 hh => ?_) fun _ _ z => z)
  obtain ⟨ws, H3, I3, r3, eH, hz, hs3⟩ := hh
  subst eH
  refine ⟨ClX.pin_at I3, ?_⟩
  refine call_mw T I3 ha (show wu.length ≤ _ by rw [← r3.length, sizeLine_eq]; omega) fun s4 I4 => ?_
  refine _root_.PySem.wpAt_of_wpAny ?_
  have hrest := pt.run [] _ (L2.start N (V.ref a :: vs2)) H3 _ I4 hs3
  have fin : ∀ {σ' : L2.St} {H' : Hp} {v : V} {u : Value} {s' : Shared}, Inv (cxS (L2.CX P w) P w K mg base N qual scope f cda cc A outer s H3 E) [] σ' H' s' → L2.RelV v u → Q v H' → CE outer P w H3 s Q u s' :=
    fun {σ' H' v u s'} J rv q => ⟨v, H', J.os, J.bare, J.base, J.hok, rv, q⟩
  refine wpAny_mono hrest (fun fl s' hs => ?_) fun e s' hs => hs
  cases fl with
  | ret u =>
    obtain ⟨v, σ', H', J, rv, q⟩ := hs
    exact fin J rv q
  | next =>
    obtain ⟨σ', H', J, q⟩ := hs
    exact fin (v := V.non) (u := Value.none) J rfl q
  | brk =>
    obtain ⟨_, _, _, q⟩ := hs
    exact False.elim q
  | cont =>
    obtain ⟨_, _, _, q⟩ := hs
    exact False.elim q
end
end Sm

set_option Elab.async false
set_option linter.all false
set_option maxRecDepth 100000
set_option maxHeartbeats 4000000
/-! Sim, part 7: own exceptions made and raised. -/
namespace Sm
open PySem PySem.Spec PyProof.Rows L2
open PySem.W (ksEnv ksFn)

/-- what __init__(self, x, ..): super().__init__(x, ..); self.f = x; .. promises -/
def spE (K : PySem.W.Frag) (D : Addr) (flds : List Str) : Sp := fun vs H Q E => ∃ a C ws, vs = .ref a :: ws ∧ ws.length = flds.length ∧ H a = some (exo a C none) ∧ OexC K C ∧ SupX K C D ∧ (∀ f ∈ flds, PySem.W.findIn K (.ref C) f = some none) ∧
  ∀ dx, H dx = none → dx ≠ a → Q .non (upd (upd H dx (exd dx (flds.zip ws).reverse)) a (exo a C (some dx)))
section
variable {P : Program} {w : World} {K : PySem.W.Frag} {mg : Str → Option Value} {base : Heap} {name qual : Str} {params : Arguments} {scope : Scope} {f cda cc D : Addr} {fd : FuncData} {pl : Env → Sem Bool} {p0 p1 pa pc pe q1 q2 q3 q4 q5 q6 q7 q8 q9 q10 : Pos} {self x y fx fy : Str}
theorem fn_exc1 (F : SupF P K mg name qual params [.Expr (.Call (.Attribute (.Call (.Name "super" p0) [] [] p1) "__init__" pa) [.Name x q1] [] pc) pe, .Assign [.Attribute (.Name self q2) fx q3] (.Name x q4) q5] scope [self, x] [self, x] f cda cc D fd)
    (hd1 : (self == ("__debug__" : Str)) = false) (hd2 : (x == ("__debug__" : Str)) = false) (hc1 : (self == ("__classdict__" : Str)) = false) (hc2 : (x == ("__classdict__" : Str)) = false)
    (he : ∀ env : Env, eval (.Call (.Attribute (.Call (.Name "super" p0) [] [] p1) "__init__" pa) [.Name x q1] [] pc) env = (do
      let ov ← attributeBase (.Call (.Name "super" p0) [] [] p1) "__init__" env (eval (.Call (.Name "super" p0) [] [] p1) env)
      standAt pa.atName
      let (f, first) ← holding [ov] (getMethod ov "__init__" (pl env))
      callWith pc f first (backTo pc (starEach [.Name x q1] env)) []))
    (hsw : ∀ env : Env, swapsWith (.Call (.Attribute (.Call (.Name "super" p0) [] [] p1) "__init__" pa) [.Name x q1] [] pc) none pe.line env = pure false) (hs2 : ∀ env : Env, swapsWith (.Name x q4) (some (.Attribute (.Name self q2) fx q3)) q5.line env = pure false) (k : Nat) :
    FnOk P w K mg base (L2.CX P w) (k + 1) f fd [self, x] (spE K D [fx]) := by
  have l1 : scope.names.lookup self = some .local := F.sc.par _ (by simp)
  have l2 : scope.names.lookup x = some .local := F.sc.par _ (by simp)
  refine fn_supx F (fun vs H Q E ⟨a, C, ws, e, hl, _⟩ => by rw [e]; simpa using hl) (fun A outer s H vs Q E ⟨a, C, ws, ev, hl, ha, T, SX, hno, hq⟩ => ?_) (fun _ => rfl) (fun _ => rfl) he hsw
  subst ev
  match ws, hl with
  | [v], _ =>
    refine ⟨_, _, pa_cons (pe_var (i := 1) rfl (.inl l2) hd2 hc2) pa_nil rfl, pss_one (ps_ost (pe_var (i := 0) rfl (.inl l1) hd1 hc1) (pe_var (i := 1) rfl (.inl l2) hd2 hc2) (hs2 _)), a, C, rfl, ha, T, SX, ?_⟩
    refine ⟨v, rfl, rfl, by simp, v, rfl, .ref a, rfl, a, C, rfl, T, hno _ (by simp), .inl ⟨ha, fun dx h1 h2 => ?_⟩⟩
    exact hq dx h1 h2
theorem fn_exc2 (F : SupF P K mg name qual params [.Expr (.Call (.Attribute (.Call (.Name "super" p0) [] [] p1) "__init__" pa) [.Name x q1, .Name y q6] [] pc) pe, .Assign [.Attribute (.Name self q2) fx q3] (.Name x q4) q5, .Assign [.Attribute (.Name self q7) fy q8] (.Name y q9) q10] scope [self, x, y] [self, x, y] f cda cc D fd)
    (hd1 : (self == ("__debug__" : Str)) = false) (hd2 : (x == ("__debug__" : Str)) = false) (hc1 : (self == ("__classdict__" : Str)) = false) (hc2 : (x == ("__classdict__" : Str)) = false)
    (hd3 : (y == ("__debug__" : Str)) = false) (hc3 : (y == ("__classdict__" : Str)) = false)
    (he : ∀ env : Env, eval (.Call (.Attribute (.Call (.Name "super" p0) [] [] p1) "__init__" pa) [.Name x q1, .Name y q6] [] pc) env = (do
      let ov ← attributeBase (.Call (.Name "super" p0) [] [] p1) "__init__" env (eval (.Call (.Name "super" p0) [] [] p1) env)
      standAt pa.atName
      let (f, first) ← holding [ov] (getMethod ov "__init__" (pl env))
      callWith pc f first (backTo pc (starEach [.Name x q1, .Name y q6] env)) []))
    (hsw : ∀ env : Env, swapsWith (.Call (.Attribute (.Call (.Name "super" p0) [] [] p1) "__init__" pa) [.Name x q1, .Name y q6] [] pc) none pe.line env = pure false) (hs2 : ∀ env : Env, swapsWith (.Name x q4) (some (.Attribute (.Name self q2) fx q3)) q5.line env = pure false)
    (hs3 : ∀ env : Env, swapsWith (.Name y q9) (some (.Attribute (.Name self q7) fy q8)) q10.line env = pure false) (k : Nat) :
    FnOk P w K mg base (L2.CX P w) (k + 1) f fd [self, x, y] (spE K D [fx, fy]) := by
  have l1 : scope.names.lookup self = some .local := F.sc.par _ (by simp)
  have l2 : scope.names.lookup x = some .local := F.sc.par _ (by simp)
  have l3 : scope.names.lookup y = some .local := F.sc.par _ (by simp)
  refine fn_supx F (fun vs H Q E ⟨a, C, ws, e, hl, _⟩ => by rw [e]; simpa using hl) (fun A outer s H vs Q E ⟨a, C, ws, ev, hl, ha, T, SX, hno, hq⟩ => ?_) (fun _ => rfl) (fun _ => rfl) he hsw
  subst ev
  match ws, hl with
  | [v, v'], _ =>
    refine ⟨_, _, pa_cons (pe_var (i := 1) rfl (.inl l2) hd2 hc2) (pa_cons (pe_var (i := 2) rfl (.inl l3) hd3 hc3) pa_nil rfl) rfl, pss_cons (ps_ost (pe_var (i := 0) rfl (.inl l1) hd1 hc1) (pe_var (i := 1) rfl (.inl l2) hd2 hc2) (hs2 _))
      (pss_one (ps_ost (pe_var (i := 0) rfl (.inl l1) hd1 hc1) (pe_var (i := 2) rfl (.inl l3) hd3 hc3) (hs3 _))), a, C, rfl, ha, T, SX, ?_⟩
    refine ⟨v, rfl, v', rfl, rfl, by simp, v, rfl, .ref a, rfl, a, C, rfl, T, hno _ (by simp), .inl ⟨ha, fun dx h1 h2 => ?_⟩⟩
    refine ⟨v', rfl, .ref a, rfl, a, C, rfl, T, hno _ (by simp), .inr ⟨dx, [(fx, v)], upd_same, by rw [upd_ne h2, upd_same], by simp, ?_⟩⟩
    have e : upd (upd (upd H dx (exd dx [(fx, v)])) a (exo a C (some dx))) dx (exd dx [(fy, v'), (fx, v)]) = upd (upd H dx (exd dx [(fy, v'), (fx, v)])) a (exo a C (some dx)) := by
      funext b
      by_cases hb : b = dx
      · subst hb
        rw [upd_same, upd_ne h2, upd_same]
      · rw [upd_ne hb]
        by_cases hb2 : b = a
        · subst hb2
          rw [upd_same, upd_same]
        · rw [upd_ne hb2, upd_ne hb2, upd_ne hb, upd_ne hb]
    have z := hq dx h1 h2
    rw [e]
    exact z
end
/-! ### raise C(..) -/
def mRaise (c : Nat) (fl : List Nat) (ms : AM) : SM := fun τ h => (ms τ h).st τ fun us h1 => match Nat.beq us.length fl.length && Nat.ble us.length 1000 with
  | true => .err ⟨c, (fl.zip us).reverse⟩ τ h1
  | false => .no
section
variable {X : Cx} {G : Wd} {W : L2.St → XK} {pos pos' p : Pos} {e : Expr} {es : List Expr} {ms : AM} {k : Nat} {x : Str}
theorem FRels.app {ι : List Addr} {H : Hp} {us1 us2 : List (Nat × U)} {v1 v2 : List (Str × V)} (h1 : FRels G ι H us1 v1) (h2 : FRels G ι H us2 v2) : FRels G ι H (us1 ++ us2) (v1 ++ v2) := by
  induction h1 with
  | nil => exact h2
  | cons r _ ih => exact .cons r ih
theorem FRels.zipRev {ι : List Addr} {H : Hp} : ∀ {fl : List Nat} {us : List U} {vs : List V}, VRels G ι H us vs → FRels G ι H (fl.zip us).reverse ((fl.map G.nm).zip vs).reverse
  | [], _, _, _ => .nil
  | f :: fl, _, _, .nil => .nil
  | f :: fl, _, _, .cons r t => by
    rw [List.map_cons, List.zip_cons_cons, List.zip_cons_cons, List.reverse_cons, List.reverse_cons]
    exact (FRels.zipRev t).app (.cons r .nil)
theorem ss_raise {C fI : Addr} {c : Nat} {fl : List Nat} {flds : List Str} {D : Addr} {fd : FuncData} {ps : List Str} (hk : G.K = X.K) (hcalm : X.calm = true) (tk : Takes X (wx W)) (hfl : flds = fl.map G.nm) (hne : fl ≠ []) (hC : G.gl c = some C) (T : OexC X.K C) (SX : SupX X.K C D) (hno : ∀ f ∈ flds, PySem.W.findIn X.K (.ref C) f = some none)
    (iC : PySem.W.findIn X.K (.ref C) "__init__" = some (some (.ref fI))) (tI : PySem.W.typeIn X.K (.ref fI) = some (.type "function")) (F1 : FnOk X.prog X.w X.K X.mg X.base (L2.CX X.prog X.w) k fI fd ps (spE X.K D flds)) (hr : Room (k + 1) X.A) (hb : Binds X.K fd ps [])
    (hg : Gl X x) (hm : X.mg x = some (.ref C)) (ha : SA X G W (e :: es) ms) (tk0 : Takes X fun _ _ _ _ => False)
    (hdb : (x == ("__debug__" : Str)) = false := by decide) (he : starEach (e :: es) X.env = (false, eval e X.env) :: starEach es X.env := by rfl) (hpl : (backTo pos (starEach es X.env)).any (·.1) = false := by rfl) :
    SS X G W (.Raise (some (.Call (.Name x p) (e :: es) [] pos)) none pos') (mRaise c fl ms) := by
  have hx : Passes (L2.CX X.prog X.w) X (fun _ _ _ => False) := passes_call tk0 fun _ _ _ _ z => z
  refine (ps_raise hcalm tk (pmk_oex T iC tI F1 hr hb .nil hx hg hm ha hdb he hpl)).imp fun DD σ H ⟨τ, ι, h, sr, R, q⟩ => ?_
  refine ⟨τ, ι, h, sr, R, q.bind sr fun ι1 H1 us h1 vs E1 R1 r1 q1 => ?_⟩
  cases hc : Nat.beq us.length fl.length && Nat.ble us.length 1000 with
  | false =>
    simp only [hc] at q1
    exact q1.elim
  | true =>
    simp only [hc] at q1
    obtain ⟨c1, c2⟩ := Bool.and_eq_true_iff.mp hc
    have hl := Nat.eq_of_beq_eq_true c1
    have hz := Nat.le_of_ble_eq_true c2
    refine ⟨by rw [← r1.length]; exact hz, fun a hna => ?_⟩
    refine ⟨a, C, vs, by rw [List.append_nil], by rw [hfl, List.length_map, ← r1.length, hl], upd_same, T, SX, hno, fun dx hdx hne' => ?_⟩
    have hdx1 : H1 dx = none := by rw [upd_ne hne'] at hdx; exact hdx
    refine ⟨rfl, dx, (flds.zip vs).reverse, upd_same, by rw [upd_ne hne', upd_same], hdx1, ?_⟩
    have eH : upd (del (upd (upd (upd H1 a (exo a C none)) dx (exd dx (flds.zip vs).reverse)) a (exo a C (some dx))) a) dx (.xd (flds.zip vs).reverse) = upd H1 dx (.xd (flds.zip vs).reverse) := by
      funext b
      by_cases hb : b = dx
      · subst hb
        rw [upd_same, upd_same]
      · rw [upd_ne hb, upd_ne hb]
        by_cases hb2 : b = a
        · subst hb2
          rw [del_same, hna]
        · rw [del_ne hb2, upd_ne hb2, upd_ne hb, upd_ne hb2]
    rw [eH]
    have E2 : Ext ι1 H1 ι1 (upd H1 dx (.xd (flds.zip vs).reverse)) := Ext.fresh hdx1
    refine q1 ι1 _ σ (.ref C) (some dx) E2 (R1.fresh hdx1) ((sr.ext E1).ext E2) ⟨⟨C, hC, rfl⟩, fun z => ?_, fun _ => ⟨dx, _, rfl, upd_same, ?_⟩⟩
    · exfalso
      cases fl with
      | nil => exact hne rfl
      | cons f fl =>
        cases us with
        | nil => cases hl
        | cons u us => simp at z
    · have z := FRels.zipRev (fl := fl) (VRels.ext E2 r1)
      rw [← hfl] at z
      exact z
end
end Sm

set_option Elab.async false
set_option linter.all false
set_option maxRecDepth 100000
set_option maxHeartbeats 4000000
/-! Sim, part 8: type(e).__name__ of an own class; def f(self, *v). -/
namespace Sm
open PySem PySem.Spec PyProof.Rows L2

/-- what the written part says of the class's name -/
structure ClsNm (K : PySem.W.Frag) (C : Addr) (nm : Str) : Prop where
  rd : PySem.W.readsIn K C (.type "type") = true
  fd : PySem.W.findCls K (.ref C) (.type "type") "__name__" = some (.get (.builtin "getset_descriptor.__get__") (.builtin "type.__name__") (.ref C) (.type "type"))
  sl : ∃ (oc : Value) (od : Option Addr) (cd : ClassData) (sl : Array (Option Value)) (tk : Tok), K.lookup C = some ⟨oc, od, .cls cd, sl⟩ ∧ sl[2]? = some (some (.str nm tk))
section
open PySem.W
variable {prog : Program} {w : World} {A : Around} {E : Value → Shared → Prop} {s : Shared} {K : Frag} {R : Result → Shared → Prop} {C : Addr} {nm : Str}
theorem own_name_get {tp : Value} {oc : Value} {od : Option Addr} {cd : ClassData} {sl : Array (Option Value)} {tk : Tok} (X : K.In s.heap) (ht : typeIn K (.ref C) = some (.type "type")) (lk : K.lookup C = some ⟨oc, od, .cls cd, sl⟩) (hs : sl[2]? = some (some (.str nm tk)))
    (h : R (.ok (.ret (.str nm tk))) s) : codeAny (model prog w) A (.call (.builtin "getset_descriptor.__get__") ⟨[.builtin "type.__name__", .ref C, tp], []⟩) R s := by
  obtain ⟨hh, g, dr, t, os⟩ := s
  have hC := X _ _ lk
  have L0 : Looks (model prog w) hh (typeOf (.ref C)) (.type "type") := looks_typeIn X ht
  have L1 : Looks (model prog w) hh (isSubtype (.type "type") (.type "type")) true := Looks.of_pure (by rw [isSubtype_type]; kernel_rfl)
  refine codeAny_call_builtin KF.slot_gs.plain KF.entry_gs (KF.slot_gs.check _ _ _ _ _ _ _ _ ktyn_type (KF.args_gs _ _ _) ?_)
  unfold Builtin.«getset_descriptor.__get__» Builtin.Getset_descriptor.descrGet
  rw [dga_obj]
  refine wpAny_bind (wpAny_pure ?_)
  unfold Builtin.Getset_descriptor.descrGetter Builtin.Getset_descriptor.descrCheckInstance Builtin.Getset_descriptor.descrNameAndClass isInstance
  simp only [ktyn_owner]
  repeat lk
  refine ⟨Code.quiet_builtin _ (by decide +kernel), codeAny_builtin ktyn_entry ?_⟩
  unfold Builtin.«type.__name__»
  dsimp only
  have hj : (sl[2]?).join = some (.str nm tk) := by rw [hs]; rfl
  unfold Builtin.keptObject PySem.slotAt
  refine wpAny_bind (wpAny_bind (wpAny_loadPart_at hC ?_))
  refine wpAny_pure ?_
  dsimp only
  rw [hj]
  dsimp only
  wp_walk
  exact h
end
/-- e.__name__, e a class of the text -/
def tNm (K : PySem.W.Frag) (te : TE) : TE := fun σ H Q => te σ H fun x H1 => ∃ C nm, x = .ref C ∧ ClsNm K C nm ∧ Q (.str nm) H1
section
variable {X : Cx} {G : Wd} {W : L2.St → XK} {pos p1 p2 : Pos} {e o : Expr} {te : TE} {mo : EM}
theorem pe_nm (he : PE X e te) (hb : attributeBase e "__name__" X.env (eval e X.env) = eval e X.env) : PE X (.Attribute e "__name__" pos) (tNm X.K te) := by
  refine ⟨fun pins s σ H Q I h => ?_⟩
  refine attr_of hb (thn (he.run pins s σ H _ I h) fun u s1 ⟨x, H1, I1, rx, C, nm, ex, N, q⟩ => ?_)
  subst ex
  obtain rfl : u = Value.ref C := rx
  obtain ⟨oc, od, cd, sl, tk, lk, hs⟩ := N.sl
  have ht : PySem.W.typeIn X.K (.ref C) = some (.type "type") := by
    have := N.rd
    simp only [PySem.W.readsIn, Bool.and_eq_true, beq_iff_eq] at this
    exact this.1.1.1.2
  refine PySem.W.cls_bind I1.kIn N.rd N.fd (wpAny_call ?_)
  refine own_name_get (s := { s1 with toks := s1.toks + 1 }) I1.kIn ht lk hs ?_
  exact PySem.W.handed_on rfl ⟨.str nm, H1, I1.tok _, ⟨tk, rfl⟩, q⟩
/-- type(o).__name__: by classes -/
def mTyNm (nms : Nat → Option (List Nat)) (o : EM) : EM := fun τ h => (o τ h).bind fun u h1 => match u with
  | .ref i => match h1.get i with
    | some (.ins c _) => match nms c with
      | some l => .ok (.str l) h1
      | none => .no
    | _ => .no
  | _ => .no
structure Nms (G : Wd) (nms : Nat → Option (List Nat)) : Prop where
  at_ : ∀ c l, nms c = some l → ∀ C, G.gl c = some C → ClsNm G.K C (S l)
  ok : ∀ c l, nms c = some l → OkS l
theorem s_tynm {nms : Nat → Option (List Nat)} (hk : G.K = X.K) (N : Nms G nms) (hg : Gl X "type") (hm : X.mg "type" = none) (ho : SE X G W o mo) (na : starEach [o] X.env = (false, eval o X.env) :: starEach [] X.env := by rfl)
    (hb : attributeBase (.Call (.Name "type" p1) [o] [] p2) "__name__" X.env (eval (.Call (.Name "type" p1) [o] [] p2) X.env) = eval (.Call (.Name "type" p1) [o] [] p2) X.env := by rfl) :
    SE X G W (.Attribute (.Call (.Name "type" p1) [o] [] p2) "__name__" pos) (mTyNm nms mo) := by
  refine (pe_nm (pe_callTy cr_type hg hm (by decide +kernel) (pa_cons ho pa_nil na) (he := na)) hb).imp fun σ H Q ⟨τ, ι, h, sr, R, q⟩ => ?_
  refine ⟨τ, ι, h, sr, R, q.bind fun ι1 H1 u h1 v E1 R1 r1 q1 => ?_⟩
  cases u with
  | ref i =>
    cases eo : h1.get i with
    | none =>
      simp only [eo] at q1
      exact q1.elim
    | some ob =>
      simp only [eo] at q1
      cases ob with
      | ins c fs =>
        cases en : nms c with
        | none =>
          simp only [en] at q1
          exact q1.elim
        | some l =>
          simp only [en] at q1
          obtain ⟨a, ho, e1, e2, e3, e4⟩ := R1.at eo r1
          cases e4 with
          | @ins _ C dx _ vs g cl n r =>
            refine ⟨a, C, dx, vs, by rw [e1], e3, C, S l, rfl, by rw [← hk]; exact N.at_ c l en C g, q1.now R1 (.str l (N.ok c l en))⟩
      | _ => exact q1.elim
  | _ => exact q1.elim
end
/-! ### def f(a, .., *v) -/
def starF (n : Nat) (m : FM) : FM := fun us h => match Nat.ble n us.length && fits us.length with
  | true => m (us.take n ++ [.tup (us.drop n)]) h
  | false => .no
theorem VRels.split {G : Wd} {ι : List Addr} {H : Hp} : ∀ {n : Nat} {us : List U} {vs : List V}, VRels G ι H us vs → VRels G ι H (us.take n) (vs.take n) ∧ VRels G ι H (us.drop n) (vs.drop n)
  | 0, _, _, r => ⟨.nil, r⟩
  | n + 1, _, _, .nil => ⟨.nil, .nil⟩
  | n + 1, _, _, .cons a b => ⟨.cons a (VRels.split (n := n) b).1, (VRels.split (n := n) b).2⟩
section
variable {P : Program} {w : World} {K : PySem.W.Frag} {mg : Str → Option Value} {base : Heap} {G : Wd}
theorem run_key {E : XK} {n N : Nat} {b : SM} {us : List U} {h : Hs} {ι : List Addr} {H : Hp} {Q : VK} (q : Aft G (VRel G) E ι H Q (runF n N b us h)) : us.length = n ∧
      AftS G (fun _ => E) ι H { nx := fun _ H' => Q .non H', rt := Q } (b (us.map some ++ List.replicate (N - n) none) h) := by
  unfold runF at q
  cases e : Nat.beq us.length n with
  | false =>
    rw [e] at q
    exact q.elim
  | true =>
    rw [e] at q
    refine ⟨Nat.eq_of_beq_eq_true e, ?_⟩
    revert q
    generalize b (us.map some ++ List.replicate (N - n) none) h = r
    cases r with
    | nx τ h1 => exact fun q ι' H' σ' E R s => q ι' H' .non E R .non
    | rt u h1 => exact fun q => q
    | err x τ h1 => exact fun q ι' H' σ' cls d E R s x => q ι' H' cls d E R x
    | bk τ h1 => exact fun q => q.elim
    | ct τ h1 => exact fun q => q.elim
    | no => exact fun q => q.elim
theorem fn_star {x qual : Str} {params : Arguments} {body : List Stmt} {scope : Scope} {f : Addr} {fd : FuncData} {N ps : List Str} {pv : Str} {k : Nat} {b : SM} (hk : G.K = K) (F : FunD K x qual params body scope [] [] f fd) (S : FnScope N (ps ++ [pv]) scope)
    (hbd : ∀ (kV doc pm : Value) (an : Option Addr) (cdv ct : Value) (us rest : List Value), us.length = ps.length → bindArgs (PySem.W.fnOf x qual params body scope .none kV doc pm an cdv ct) ⟨us ++ rest, []⟩ = (newTuple rest >>= fun t => pure (ps.zip us ++ [(pv, t)])))
    (hb : ∀ (cdv : Value) (A : Around) (outer : List Env) (s : Shared) (H : Hp) (E : XK), Room k (A.deeper (envOfC qual scope s.heap.objs.size f cdv)) → SB (cxOf (L2.CX P w) P w K mg base N qual scope f cdv A outer s H E) G (fun _ => E) body b) :
    FnS P w K mg base G (k + 1) f (starF ps.length (runF (ps.length + 1) N.length b)) := by
  obtain ⟨oc, od, dV, kV, doc, pm, an, cdv, ct, osl, rfl, lk, hcd, hD, _⟩ := F.ex
  obtain rfl : dV = .none := by
    rcases hD with ⟨_, e⟩ | ⟨e, _⟩
    · exact e
    · exact absurd rfl e
  have hl : (ps ++ [pv]).length = ps.length + 1 := by simp
  refine (StX.fn_star (sp := spM G (runF (ps.length + 1) N.length b)) lk hcd S StX.cxUp (hbd kV doc pm an cdv ct) fun A outer s H vs Q E hr ⟨us, ι, h, r, R, q⟩ => ⟨_, hb cdv A outer s H E hr, ?_⟩).imp fun vs H Q E ⟨us, ι, h, r, R, q⟩ => ?_
  · obtain ⟨h1, q1⟩ := run_key q
    rw [← hl] at h1 q1
    exact ⟨_, ι, h, VRels.start r h1, R, q1⟩
  · unfold starF at q
    cases c : Nat.ble ps.length us.length && fits us.length with
    | false =>
      rw [c] at q
      exact q.elim
    | true =>
      rw [c] at q
      obtain ⟨c1, c2⟩ := Bool.and_eq_true_iff.mp c
      have c1 := Nat.le_of_ble_eq_true c1
      have c2 := fits_le c2
      have hlen := r.length
      obtain ⟨r1, r2⟩ := VRels.split (n := ps.length) r
      refine ⟨vs.take ps.length, vs.drop ps.length, (List.take_append_drop _ _).symm, by rw [List.length_take]; omega, by rw [List.length_drop]; omega, fun p hp => ?_⟩
      exact ⟨_, ι, h, (r1.ext (Ext.fresh hp)).append (.cons (.tup (.inl (.inl upd_same)) (r2.ext (Ext.fresh hp))) .nil), R.fresh hp, Aft.ext (Ext.fresh hp) q⟩
end
end Sm

set_option Elab.async false
set_option linter.all false
set_option maxRecDepth 100000
set_option maxHeartbeats 4000000
/-! Sim, part 9: what is walked; for loops, comprehensions. -/
namespace Sm
open PySem PySem.Spec PyProof.Rows L2

/-! ### a list that is not yet of the mirror -/
structure ExtV (ι : List Addr) (H : Hp) (ι' : List Addr) (H' : Hp) : Prop where
  pre : ∀ (i : Nat) (a : Addr), ι[i]? = some a → ι'[i]? = some a
  tp : ∀ a xs, H a = some (.tup xs) → H' a = some (.tup xs)
  fz : ∀ a o u, H a = some (.frz o u) → H' a = some (.frz o u)
section
variable {G : Wd} {ι ι' ι1 : List Addr} {h h' : Hs} {H H' H1 : Hp}
theorem SqT.extV {K : PySem.W.Frag} {a : Addr} {vs : List V} (E : ExtV ι H ι' H') (h : SqT K H a vs) : SqT K H' a vs := by
  rcases h with (h | ⟨o, h⟩) | h
  · exact .inl (.inl (E.tp _ _ h))
  · exact .inl (.inr ⟨o, E.fz _ _ _ h⟩)
  · exact .inr h
theorem SqF.extV {K : PySem.W.Frag} {a : Addr} {vs : List V} (E : ExtV ι H ι' H') (h : SqF K H a vs) : SqF K H' a vs := by
  rcases h with ⟨o, h⟩ | h
  · exact .inl ⟨o, E.fz _ _ _ h⟩
  · exact .inr h
mutual
theorem VRel.extV (E : ExtV ι H ι' H') : ∀ {u : U} {v : V}, VRel G ι H u v → VRel G ι' H' u v
  | _, _, .non => .non
  | _, _, .bl b => .bl b
  | _, _, .int i => .int i
  | _, _, .str l o => .str l o
  | _, _, .tup a b => .tup (SqT.extV E a) (VRels.extV E b)
  | _, _, .ref e => .ref (E.pre _ _ e)
  | _, _, .ty n => .ty n
  | _, _, .glo e => .glo e
  | _, _, .frz a b => .frz (SqF.extV E a) (VRels.extV E b)
theorem VRels.extV (E : ExtV ι H ι' H') : ∀ {u : List U} {v : List V}, VRels G ι H u v → VRels G ι' H' u v
  | _, _, .nil => .nil
  | _, _, .cons a b => .cons (VRel.extV E a) (VRels.extV E b)
end
theorem KRels.extV (E : ExtV ι H ι' H') : ∀ {u : List (Ky × U)} {v : List (Key × V)}, KRels G ι H u v → KRels G ι' H' u v
  | _, _, .nil => .nil
  | _, _, .cons o a b => .cons o (VRel.extV E a) (KRels.extV E b)
theorem FRels.extV (E : ExtV ι H ι' H') : ∀ {u : List (Nat × U)} {v : List (Str × V)}, FRels G ι H u v → FRels G ι' H' u v
  | _, _, .nil => .nil
  | _, _, .cons a b => .cons (VRel.extV E a) (FRels.extV E b)
theorem ORel.extV {a : Addr} (E : ExtV ι H ι' H') {o : O} {ho : HO} (r : ORel G ι H a o ho) : ORel G ι' H' a o ho := by
  cases r with
  | lst r => exact .lst (VRels.extV E r)
  | dic r => exact .dic (KRels.extV E r)
  | ins g c n r => exact .ins g c n (FRels.extV E r)
theorem Ext.v (E : Ext ι H ι' H') : ExtV ι H ι' H' := ⟨E.pre, E.tp, E.fz⟩
theorem ExtV.refl : ExtV ι H ι H := ⟨fun _ _ e => e, fun _ _ e => e, fun _ _ _ e => e⟩
theorem ExtV.trans (a : ExtV ι H ι' H') (b : ExtV ι' H' ι1 H1) : ExtV ι H ι1 H1 := ⟨fun i x e => b.pre _ _ (a.pre i x e), fun x xs e => b.tp _ _ (a.tp _ _ e), fun x o u e => b.fz _ _ _ (a.fz _ _ _ e)⟩
end
/-! ### sources -/
/-- a list as it stands at each turn; fixed values; enumerate, zip of lists -/
inductive MIt where
  | live (i : Nat) | vals (xs : List U) | liveE (i : Nat) | live2 (i k : Nat) | valsE (xs : List U)
def MIt.at (it : MIt) (j : Nat) (h : Hs) : Option (Option U) := match it with
  | .live i => match h.get i with
    | some (.lst xs) => some xs[j]?
    | _ => none
  | .vals xs => some xs[j]?
  | .valsE xs => match xs[j]? with
    | some u => some (some (.tup [.int (j : Nat), u]))
    | none => some none
  | .liveE i => match h.get i with
    | some (.lst xs) => match xs[j]? with
      | some u => some (some (.tup [.int (j : Nat), u]))
      | none => some none
    | _ => none
  | .live2 i k => match h.get i, h.get k with
    | some (.lst xs), some (.lst ys) => match xs[j]?, ys[j]? with
      | some u, some w => some (some (.tup [u, w]))
      | _, _ => some none
    | _, _ => none
def ItRel (G : Wd) (ι : List Addr) (H : Hp) (it : MIt) (J : It) : Prop := ∀ (ι' : List Addr) (h' : Hs) (H' : Hp), ExtV ι H ι' H' → Rep G ι' h' H' → ∀ j : Nat, match it.at j h' with
  | some (some u) => J.go j H' ∧ ∀ x H'', J.yld j H' x H'' → Ext ι' H' ι' H'' ∧ Rep G ι' h' H'' ∧ VRel G ι' H'' u x
  | some none => J.stop j H'
  | none => True
abbrev IM := Sl → Hs → R MIt
def tI (G : Wd) (W : L2.St → XK) (m : IM) : TI := fun σ H Q => ∃ τ ι h, SRel G ι H τ σ ∧ Rep G ι h H ∧ Aft G (ItRel G) (W σ) ι H Q (m τ h)
abbrev SI (X : Cx) (G : Wd) (W : L2.St → XK) (tg e : Expr) (m : IM) : Prop := PI X tg e (tI G W m)
section
variable {G : Wd} {ι ι' : List Addr} {h h' : Hs} {H H' : Hp}
theorem VRels.at_none {us : List U} {vs : List V} {j : Nat} (r : VRels G ι H us vs) (e : us[j]? = none) : vs.length ≤ j := List.getElem?_eq_none_iff.mp (r.get.2 e)
theorem it_live {K : PySem.W.Frag} {i : Nat} {a : Addr} (e : ι[i]? = some a) : ItRel G ι H (.live i) (Itl K a) := by
  intro ι' h' H' E R j
  obtain ⟨o, ho, e1, e2, e3⟩ := R.ob i a (E.pre _ _ e)
  show match (match h'.get i with | some (.lst xs) => some xs[j]? | _ => none) with
    | some (some u) => _
    | some none => _
    | none => True
  rw [e1]
  cases e3 with
  | dic => trivial
  | ins => trivial
  | @lst xs vs r =>
    have hq : SqL K H' a vs := .inl (.inl e2)
    dsimp only
    cases ej : xs[j]? with
    | none => exact ⟨vs, hq, r.at_none ej⟩
    | some u =>
      obtain ⟨v, ev, rv⟩ := r.get.1 u ej
      refine ⟨⟨vs, v, hq, ev⟩, fun x H'' ⟨eH, hx⟩ => ?_⟩
      subst eH
      have := hx vs hq
      rw [ev] at this
      cases this
      exact ⟨Ext.refl, R, rv⟩
theorem it_tup {K : PySem.W.Frag} {a : Addr} {xs : List U} {vs : List V} (hk : G.K = K) (ht : SqT G.K H a vs) (r : VRels G ι H xs vs) : ItRel G ι H (.vals xs) (Itt K a) := by
  subst hk
  intro ι' h' H' E R j
  have hq : SqT G.K H' a vs := SqT.extV E ht
  have r' := VRels.extV E r
  show match some xs[j]? with
    | some (some u) => _
    | some none => _
    | none => True
  cases ej : xs[j]? with
  | none => exact ⟨vs, hq, r'.at_none ej⟩
  | some u =>
    obtain ⟨v, ev, rv⟩ := r'.get.1 u ej
    refine ⟨⟨vs, v, hq, ev⟩, fun x H'' ⟨eH, hx⟩ => ?_⟩
    subst eH
    have := hx vs hq
    rw [ev] at this
    cases this
    exact ⟨Ext.refl, R, rv⟩
theorem it_frz {K : PySem.W.Frag} {a : Addr} {xs : List U} {vs : List V} (hk : G.K = K) (ht : SqF G.K H a vs) (r : VRels G ι H xs vs) : ItRel G ι H (.vals xs) (Itl K a) := by
  subst hk
  intro ι' h' H' E R j
  have hq : SqL G.K H' a vs := (SqF.extV E ht).l
  have r' := VRels.extV E r
  show match some xs[j]? with
    | some (some u) => _
    | some none => _
    | none => True
  cases ej : xs[j]? with
  | none => exact ⟨vs, hq, r'.at_none ej⟩
  | some u =>
    obtain ⟨v, ev, rv⟩ := r'.get.1 u ej
    refine ⟨⟨vs, v, hq, ev⟩, fun x H'' ⟨eH, hx⟩ => ?_⟩
    subst eH
    have := hx vs hq
    rw [ev] at this
    cases this
    exact ⟨Ext.refl, R, rv⟩
theorem it_enumF {K : PySem.W.Frag} {a : Addr} {xs : List U} {vs : List V} (hk : G.K = K) (ht : SqF G.K H a vs) (r : VRels G ι H xs vs) : ItRel G ι H (.valsE xs) (Ite K a) := by
  subst hk
  intro ι' h' H' E R j
  have hq : SqL G.K H' a vs := (SqF.extV E ht).l
  have r' := VRels.extV E r
  show match (match xs[j]? with | some u => some (some (U.tup [.int (j : Nat), u])) | none => some none) with
    | some (some u) => _
    | some none => _
    | none => True
  cases ej : xs[j]? with
  | none => exact ⟨vs, hq, r'.at_none ej⟩
  | some u =>
    obtain ⟨v, ev, rv⟩ := r'.get.1 u ej
    refine ⟨⟨vs, v, hq, ev⟩, fun x H'' ⟨T, y, ex, hT, eH, hx⟩ => ?_⟩
    subst eH ex
    have := hx vs hq
    rw [ev] at this
    cases this
    have E2 : Ext ι' H' ι' (upd H' T (.tup [.int (j : Nat), v])) := Ext.fresh hT
    exact ⟨E2, R.fresh hT, .tup (.inl (.inl upd_same)) (.cons (.int _) (.cons (rv.ext E2) .nil))⟩
theorem it_str {l : List Nat} (o : OkS l) : ItRel G ι H (.vals (l.map fun c => .str [c])) (Its (S l)) := by
  intro ι' h' H' E R j
  show match some (l.map fun c => U.str [c])[j]? with
    | some (some u) => _
    | some none => _
    | none => True
  rw [List.getElem?_map]
  cases ej : l[j]? with
  | none =>
    have := List.getElem?_eq_none_iff.mp ej
    show (S l).cps.size ≤ j
    simpa using this
  | some c =>
    have hj := (List.getElem?_eq_some_iff.mp ej).1
    refine ⟨by show j < (S l).cps.size; simpa using hj, fun x H'' ⟨eH, c', ec, ex⟩ => ?_⟩
    subst eH ex
    have e2 : (S l).cps[j]? = some c := by simpa using ej
    rw [e2] at ec
    cases ec
    exact ⟨Ext.refl, R, .str [c] fun d hd => by
      have : d = c := by simpa using hd
      rw [this]
      exact o c (List.mem_of_getElem? ej)⟩
def upTo (lo : Int) : Nat → List U
  | 0 => []
  | n + 1 => .int lo :: upTo (lo + 1) n
theorem upTo_get (n : Nat) : ∀ (lo : Int) (j : Nat), (upTo lo n)[j]? = if j < n then some (.int (lo + j)) else none := by
  induction n with
  | zero => intro lo j; simp [upTo]
  | succ n ih =>
    intro lo j
    cases j with
    | zero => simp [upTo]
    | succ j =>
      rw [upTo, List.getElem?_cons_succ, ih]
      by_cases hj : j < n
      · rw [if_pos hj, if_pos (by omega)]
        congr 2
        omega
      · rw [if_neg hj, if_neg (by omega)]
theorem it_rng {lo : Int} {n : Nat} : ItRel G ι H (.vals (upTo lo n)) (Itr lo n) := by
  intro ι' h' H' E R j
  show match some (upTo lo n)[j]? with
    | some (some u) => _
    | some none => _
    | none => True
  rw [upTo_get]
  by_cases hj : j < n
  · rw [if_pos hj]
    refine ⟨hj, fun x H'' ⟨eH, ex⟩ => ?_⟩
    subst eH ex
    exact ⟨Ext.refl, R, .int _⟩
  · rw [if_neg hj]
    show n ≤ j
    omega
theorem it_enum {K : PySem.W.Frag} {i : Nat} {a : Addr} (e : ι[i]? = some a) : ItRel G ι H (.liveE i) (Ite K a) := by
  intro ι' h' H' E R j
  obtain ⟨o, ho, e1, e2, e3⟩ := R.ob i a (E.pre _ _ e)
  show match (match h'.get i with | some (.lst xs) => (match xs[j]? with | some u => some (some (U.tup [.int (j : Nat), u])) | none => some none) | _ => none) with
    | some (some u) => _
    | some none => _
    | none => True
  rw [e1]
  cases e3 with
  | dic => trivial
  | ins => trivial
  | @lst xs vs r =>
    have hq : SqL K H' a vs := .inl (.inl e2)
    dsimp only
    cases ej : xs[j]? with
    | none => exact ⟨vs, hq, r.at_none ej⟩
    | some u =>
      obtain ⟨v, ev, rv⟩ := r.get.1 u ej
      refine ⟨⟨vs, v, hq, ev⟩, fun x H'' ⟨T, y, ex, hT, eH, hx⟩ => ?_⟩
      subst eH ex
      have := hx vs hq
      rw [ev] at this
      cases this
      have E2 : Ext ι' H' ι' (upd H' T (.tup [.int (j : Nat), v])) := Ext.fresh hT
      exact ⟨E2, R.fresh hT, .tup (.inl (.inl upd_same)) (.cons (.int _) (.cons (rv.ext E2) .nil))⟩
theorem it_zip {K : PySem.W.Frag} {i k : Nat} {a b : Addr} (e : ι[i]? = some a) (e' : ι[k]? = some b) : ItRel G ι H (.live2 i k) (Itz K a b) := by
  intro ι' h' H' E R j
  obtain ⟨o, ho, e1, e2, e3⟩ := R.ob i a (E.pre _ _ e)
  obtain ⟨o', ho', f1, f2, f3⟩ := R.ob k b (E.pre _ _ e')
  show match (match h'.get i, h'.get k with
    | some (.lst xs), some (.lst ys) => (match xs[j]?, ys[j]? with
      | some u, some w => some (some (U.tup [u, w]))
      | _, _ => some none)
    | _, _ => none) with
    | some (some u) => _
    | some none => _
    | none => True
  rw [e1, f1]
  cases e3 with
  | dic => cases f3 <;> trivial
  | ins => cases f3 <;> trivial
  | @lst xs vs r =>
    cases f3 with
    | dic => trivial
    | ins => trivial
    | @lst ys ws r' =>
      have hq : SqL K H' a vs := .inl (.inl e2)
      have hq' : SqL K H' b ws := .inl (.inl f2)
      dsimp only
      cases ej : xs[j]? with
      | none => exact ⟨vs, ws, hq, hq', .inl (r.at_none ej)⟩
      | some u =>
        cases ek : ys[j]? with
        | none => exact ⟨vs, ws, hq, hq', .inr (r'.at_none ek)⟩
        | some w =>
          obtain ⟨v, ev, rv⟩ := r.get.1 u ej
          obtain ⟨z, ez, rz⟩ := r'.get.1 w ek
          refine ⟨⟨vs, ws, v, z, hq, hq', ev, ez⟩, fun x H'' ⟨T, y, y2, ex, hT, eH, hx, hy⟩ => ?_⟩
          subst eH ex
          have q1 := hx vs hq
          rw [ev] at q1
          cases q1
          have q2 := hy ws hq'
          rw [ez] at q2
          cases q2
          have E2 : Ext ι' H' ι' (upd H' T (.tup [v, z])) := Ext.fresh hT
          exact ⟨E2, R.fresh hT, .tup (.inl (.inl upd_same)) (.cons (rv.ext E2) (.cons (rz.ext E2) .nil))⟩
end
/-! ### rules for sources -/
def mSeqI (m : EM) : IM := fun τ h => (m τ h).bind fun u h1 => match u with
  | .ref i => match h1.get i with
    | some (.lst _) => .ok (.live i) h1
    | _ => .no
  | .tup xs => .ok (.vals xs) h1
  | .frz xs => .ok (.vals xs) h1
  | .str l => .ok (.vals (l.map fun c => .str [c])) h1
  | _ => .no
def mRng1 (m : AM) : IM := fun τ h => (m τ h).bind fun us h1 => match us with
  | [.int j] => match Nat.blt j.natAbs 4611686018427387904 with
    | true => .ok (.vals (upTo 0 j.toNat)) h1
    | false => .no
  | _ => .no
def mRng2 (m : AM) : IM := fun τ h => (m τ h).bind fun us h1 => match us with
  | [.int i, .int j] => match Nat.blt i.natAbs 4611686018427387904 && Nat.blt j.natAbs 4611686018427387904 with
    | true => .ok (.vals (upTo i (j - i).toNat)) h1
    | false => .no
  | _ => .no
def mEnumI (m : AM) : IM := fun τ h => (m τ h).bind fun us h1 => match us with
  | [.ref i] => match h1.get i with
    | some (.lst _) => .ok (.liveE i) h1
    | _ => .no
  | [.frz xs] => .ok (.valsE xs) h1
  | _ => .no
def mZipI (m : AM) : IM := fun τ h => (m τ h).bind fun us h1 => match us with
  | [.ref i, .ref k] => match h1.get i, h1.get k with
    | some (.lst _), some (.lst _) => .ok (.live2 i k) h1
    | _, _ => .no
  | _ => .no
section
variable {X : Cx} {G : Wd} {W : L2.St → XK} {pos p tpos : Pos} {e e2 a b tg : Expr} {m : EM} {ms : AM} {elts : List Expr} {kk : Nat}
theorem i_seq (hk : G.K = X.K) (he : SE X G W e m) : SI X G W tg e (mSeqI m) := by
  refine ⟨fun pins s σ H Q I ⟨τ, ι, h, sr, R, q⟩ => ?_⟩
  unfold mSeqI at q
  cases em : m τ h with
  | no =>
    rw [em] at q
    exact q.elim
  | err x k =>
    rw [em] at q
    refine (pi_list he).run pins s σ H Q I ⟨τ, ι, h, sr, R, ?_⟩
    rw [em]
    exact q
  | ok u k =>
    rw [em] at q
    cases u with
    | ref i =>
      refine (pi_list he).run pins s σ H Q I ⟨τ, ι, h, sr, R, ?_⟩
      rw [em]
      intro ι1 H1 v E1 R1 r1
      cases r1 with
      | @ref _ a ea =>
        obtain ⟨o, ho, e1, e2, e3⟩ := R1.ob i a ea
        have q1 : Aft G (ItRel G) (W σ) ι H Q (match k.get i with
          | some (.lst _) => .ok (.live i) k
          | _ => .no) := q
        rw [e1] at q1
        cases e3 with
        | dic => exact q1.elim
        | ins => exact q1.elim
        | @lst xs vs r => exact ⟨a, rfl, ⟨vs, .inl (.inl e2)⟩, q1 ι1 H1 _ E1 R1 (it_live ea)⟩
    | frz xs =>
      refine (pi_list he).run pins s σ H Q I ⟨τ, ι, h, sr, R, ?_⟩
      rw [em]
      intro ι1 H1 v E1 R1 r1
      cases r1 with
      | @frz _ a vs ht rs => exact ⟨a, rfl, ⟨vs, by rw [← hk]; exact ht.l⟩, q ι1 H1 _ E1 R1 (it_frz hk ht rs)⟩
    | tup xs =>
      refine (pi_tup he).run pins s σ H Q I ⟨τ, ι, h, sr, R, ?_⟩
      rw [em]
      intro ι1 H1 v E1 R1 r1
      cases r1 with
      | @tup _ a vs ht rs => exact ⟨a, rfl, ⟨vs, by rw [← hk]; exact ht⟩, q ι1 H1 _ E1 R1 (it_tup hk ht rs)⟩
    | str l =>
      refine (pi_str he).run pins s σ H Q I ⟨τ, ι, h, sr, R, ?_⟩
      rw [em]
      intro ι1 H1 v E1 R1 r1
      cases r1 with
      | str _ o => exact ⟨S l, rfl, q ι1 H1 _ E1 R1 (it_str o)⟩
    | _ => exact q.elim
theorem small62 {j : Int} (h : Nat.blt j.natAbs 4611686018427387904 = true) : -(2 ^ 62) ≤ j ∧ j < 2 ^ 62 := by
  have : j.natAbs < 4611686018427387904 := Nat.le_of_ble_eq_true h
  omega
theorem i_range1 (hg : Gl X "range") (hm : X.mg "range" = none) (ha : SA X G W [a] ms) (hs : starEach [a] X.env = [(false, eval a X.env)] := by rfl) : SI X G W tg (.Call (.Name "range" p) [a] [] pos) (mRng1 ms) := by
  have P := pi_range1 (tg := tg) (p := p) (pos := pos) hg hm ha hs
  refine ⟨fun pins s σ H Q I ⟨τ, ι, h, sr, R, q⟩ => P.run pins s σ H Q I ⟨τ, ι, h, sr, R, q.bind fun ι1 H1 us h1 vs E1 R1 r1 q1 => ?_⟩⟩
  split at q1
  · rename_i j
    cases r1 with
    | cons r rr =>
      cases rr
      cases r
      cases c : Nat.blt j.natAbs 4611686018427387904 with
      | false =>
        rw [c] at q1
        exact q1.elim
      | true =>
        rw [c] at q1
        exact ⟨j, rfl, (small62 c).1, (small62 c).2, q1.now R1 it_rng⟩
  · exact q1.elim
theorem i_range2 (hg : Gl X "range") (hm : X.mg "range" = none) (ha : SA X G W [a, b] ms) (hs : starEach [a, b] X.env = [(false, eval a X.env), (false, eval b X.env)] := by rfl) (hs2 : starEach [b] X.env = [(false, eval b X.env)] := by rfl) :
    SI X G W tg (.Call (.Name "range" p) [a, b] [] pos) (mRng2 ms) := by
  have P := pi_range2 (tg := tg) (p := p) (pos := pos) hg hm ha hs hs2
  refine ⟨fun pins s σ H Q I ⟨τ, ι, h, sr, R, q⟩ => P.run pins s σ H Q I ⟨τ, ι, h, sr, R, q.bind fun ι1 H1 us h1 vs E1 R1 r1 q1 => ?_⟩⟩
  split at q1
  · rename_i i j
    cases r1 with
    | cons r rr =>
      cases rr with
      | cons r' rr =>
        cases rr
        cases r
        cases r'
        cases c : Nat.blt i.natAbs 4611686018427387904 && Nat.blt j.natAbs 4611686018427387904 with
        | false =>
          rw [c] at q1
          exact q1.elim
        | true =>
          rw [c] at q1
          obtain ⟨c1, c2⟩ := Bool.and_eq_true_iff.mp c
          exact ⟨i, j, rfl, ⟨(small62 c1).1, (small62 c1).2, (small62 c2).1, (small62 c2).2⟩, q1.now R1 it_rng⟩
  · exact q1.elim
theorem i_enum (hk : G.K = X.K) (hg : Gl X "enumerate") (hm : X.mg "enumerate" = none) (ha : SA X G W [e] ms) (hs : starEach [e] X.env = [(false, eval e X.env)] := by rfl) : SI X G W (.Tuple elts kk tpos) (.Call (.Name "enumerate" p) [e] [] pos) (mEnumI ms) := by
  have P := pi_enum (p := p) (pos := pos) (tpos := tpos) (elts := elts) (kk := kk) hg hm ha hs
  refine ⟨fun pins s σ H Q I ⟨τ, ι, h, sr, R, q⟩ => P.run pins s σ H Q I ⟨τ, ι, h, sr, R, q.bind fun ι1 H1 us h1 vs E1 R1 r1 q1 => ?_⟩⟩
  split at q1
  · rename_i i
    cases r1 with
    | cons r rr =>
      cases rr
      cases r with
      | @ref _ a ea =>
        obtain ⟨o, ho, e1, e2, e3⟩ := R1.ob i a ea
        rw [e1] at q1
        cases e3 with
        | dic => exact q1.elim
        | ins => exact q1.elim
        | @lst xs vs r => exact ⟨a, vs, rfl, .inl (.inl e2), q1.now R1 (it_enum ea)⟩
  · rename_i xs
    cases r1 with
    | cons r rr =>
      cases rr
      cases r with
      | @frz _ a vs ht rs => exact ⟨a, vs, rfl, by rw [← hk]; exact ht.l, q1.now R1 (it_enumF hk ht rs)⟩
  · exact q1.elim
theorem i_zip (hg : Gl X "zip") (hm : X.mg "zip" = none) (ha : SA X G W [e, e2] ms) (hs : starEach [e, e2] X.env = (false, eval e X.env) :: starEach [e2] X.env := by rfl) (hpl : (backTo pos (starEach [e2] X.env)).any (·.1) = false := by rfl) :
    SI X G W (.Tuple elts kk tpos) (.Call (.Name "zip" p) [e, e2] [] pos) (mZipI ms) := by
  have P := pi_zip (p := p) (tpos := tpos) (elts := elts) (kk := kk) hg hm ha hs hpl
  refine ⟨fun pins s σ H Q I ⟨τ, ι, h, sr, R, q⟩ => P.run pins s σ H Q I ⟨τ, ι, h, sr, R, q.bind fun ι1 H1 us h1 vs E1 R1 r1 q1 => ?_⟩⟩
  split at q1
  · rename_i i k
    cases r1 with
    | cons r rr =>
      cases rr with
      | cons r' rr =>
        cases rr
        cases r with
        | @ref _ a ea =>
          cases r' with
          | @ref _ b eb =>
            obtain ⟨o, ho, e1, e2, e3⟩ := R1.ob i a ea
            obtain ⟨o', ho', f1, f2, f3⟩ := R1.ob k b eb
            rw [e1, f1] at q1
            cases e3 with
            | dic => cases f3 <;> exact q1.elim
            | ins => cases f3 <;> exact q1.elim
            | @lst xs vs r =>
              cases f3 with
              | dic => exact q1.elim
              | ins => exact q1.elim
              | @lst ys ws r' => exact ⟨a, b, vs, ws, rfl, .inl (.inl e2), .inl (.inl f2), q1.now R1 (it_zip ea eb)⟩
  · exact q1.elim
end
/-! ### for -/
def mForI (it : MIt) (g : GM) (b : SM) : Nat → Nat → SM
  | 0, _ => fun _ _ => .no
  | f + 1, j => fun τ h => match it.at j h with
    | some (some u) => match g u τ h with
      | some (τ1, h1) => match b τ1 h1 with
        | .nx τ2 h2 => mForI it g b f (j + 1) τ2 h2
        | .ct τ2 h2 => mForI it g b f (j + 1) τ2 h2
        | .bk τ2 h2 => .nx τ2 h2
        | .rt u h2 => .rt u h2
        | .err x τ2 h2 => .err x τ2 h2
        | .no => .no
      | none => .no
    | some none => .nx τ h
    | none => .no
def mForE (m : IM) (g : GM) (b : SM) (f : Nat) : SM := fun τ h => (m τ h).st τ fun it h1 => mForI it g b f 0 τ h1
section
variable {X : Cx} {G : Wd} {W : L2.St → XK} {pos : Pos} {tg e : Expr} {body : List Stmt} {mi : IM} {g : GM} {b : SM}
theorem ss_forI (f : Nat) (hp : PassesOwn (model X.prog X.w) X.A X.env X.xe) (hc : X.calm = true) (hi : SI X G W tg e mi) (hg : SG X G tg g) (hb : SB X G W body b) (hs : ∀ x, foldedSetIterable e X.env x = pure x := by intro _; rfl) :
    SS X G W (.For tg e body [] pos) (mForE mi g b f) := (ps_for hp hc hi hg hb hs).imp fun D σ H ⟨τ, ι, h, sr, R, q⟩ => by
  refine ⟨τ, ι, h, sr, R, q.bind sr fun ι1 H1 it h1 J E1 R1 r1 q1 => ?_⟩
  refine ⟨fun j m σ H => ∃ τ ι h, SRel G ι H τ σ ∧ Rep G ι h H ∧ Ext ι1 H1 ι H ∧ AftS G W ι H D (mForI it g b m j τ h), ⟨f, τ, ι1, h1, sr.ext E1, R1, Ext.refl, q1⟩, fun j m σ H ⟨τ, ι, h, sr, R, E, q⟩ => ?_⟩
  cases m with
  | zero => exact q.elim
  | succ m =>
    unfold mForI at q
    have ir := r1 ι h H E.v R j
    cases ea : it.at j h with
    | none =>
      simp only [ea] at q
      exact q.elim
    | some o =>
      simp only [ea] at q ir
      cases o with
      | none => exact .inl ⟨ir, q.nx_now R sr⟩
      | some u =>
        obtain ⟨hgo, hy⟩ := ir
        refine .inr ⟨hgo, _, fun σ' H' w => ⟨m, Nat.lt_succ_self m, w⟩, fun x H' hyl => ?_⟩
        obtain ⟨E2, R2, rx⟩ := hy x H' hyl
        refine ⟨u, τ, ι, h, sr.ext E2, R2, rx, ?_⟩
        cases eg : g u τ h with
        | none =>
          simp only [eg] at q
          exact q.elim
        | some p =>
          simp only [eg] at q
          refine fun ι' H' σ' E3 R' s' => ⟨p.1, ι', p.2, s', R', turn_out (k := fun τ' h' => mForI it g b m (j + 1) τ' h') (fun ι'' H'' σ'' τ'' h'' E4 R'' s'' q'' => ⟨τ'', ι'', h'', s'', R'', ((E.trans E2).trans E3).trans E4, q''⟩) (AftS.ext (E2.trans E3) q)⟩
end
end Sm

set_option Elab.async false
set_option linter.all false
set_option maxRecDepth 100000
set_option maxHeartbeats 4000000
/-! Sim, part 10: list comprehensions, starred items. -/
namespace Sm
open PySem PySem.Spec PyProof.Rows L2

/-! ### a block's targets: a name, names -/
inductive Tgt where
  | one (i : Nat) | many (is : List Nat)
def setAll : List Nat → List U → Sl → Option Sl
  | [], [], τ => some τ
  | i :: is, u :: us, τ => setAll is us (τ.set i (some u))
  | _, _, _ => none
def Tgt.set (t : Tgt) (u : U) (τ : Sl) : Option Sl := match t with
  | .one i => some (τ.set i (some u))
  | .many is => match u with
    | .tup us => setAll is us τ
    | _ => none
def gNames : List Nat → TGs
  | [] => fun vs σ H Q => vs = [] ∧ Q σ H
  | i :: is => L2.gCons (gName i) (gNames is)
def Tgt.rd (K : PySem.W.Frag) : Tgt → TG
  | .one i => gName i
  | .many is => gTup K is.length (gNames is)
def Tgt.ix : Tgt → List Nat
  | .one i => [i]
  | .many is => is
def wipeU : List Nat → Sl → Sl
  | [], τ => τ
  | v :: vs, τ => wipeU vs (τ.set v none)
theorem wipe_get (vs : List Nat) : ∀ (σ : L2.St) (i : Nat), (wipe σ vs)[i]? = if i ∈ vs ∧ i < σ.length then some none else σ[i]? := by
  induction vs with
  | nil => intro σ i; simp [wipe]
  | cons v vs ih =>
    intro σ i
    unfold wipe
    by_cases e : v = i
    · subst e
      by_cases hl : v < σ.length
      · rw [List.getElem?_set_self (by rw [wipe_length]; exact hl), if_pos ⟨List.mem_cons_self, hl⟩]
      · rw [List.getElem?_eq_none (by rw [List.length_set, wipe_length]; omega), if_neg fun z => hl z.2, List.getElem?_eq_none (by omega)]
    · rw [List.getElem?_set_ne e, ih]
      by_cases h : i ∈ vs ∧ i < σ.length
      · rw [if_pos h, if_pos ⟨List.mem_cons_of_mem _ h.1, h.2⟩]
      · rw [if_neg h, if_neg fun z => h ⟨(List.mem_cons.mp z.1).resolve_left (fun q => e q.symm), z.2⟩]
theorem wipe_set_eq {vs : List Nat} {σ : L2.St} {i : Nat} {x : Option V} (h : i ∈ vs) : wipe (σ.set i x) vs = wipe σ vs := by
  apply List.ext_getElem?
  intro j
  rw [wipe_get, wipe_get, List.length_set]
  by_cases hj : j ∈ vs ∧ j < σ.length
  · rw [if_pos hj, if_pos hj]
  · rw [if_neg hj, if_neg hj]
    by_cases e : i = j
    · subst e
      have : ¬ i < σ.length := fun z => hj ⟨h, z⟩
      rw [List.getElem?_eq_none (by rw [List.length_set]; omega), List.getElem?_eq_none (by omega)]
    · rw [List.getElem?_set_ne e]
theorem wipe_wipe {vs : List Nat} {σ : L2.St} : wipe (wipe σ vs) vs = wipe σ vs := by
  apply List.ext_getElem?
  intro j
  rw [wipe_get, wipe_length]
  by_cases hj : j ∈ vs ∧ j < σ.length
  · rw [if_pos hj, wipe_get, if_pos hj]
  · rw [if_neg hj]
section
variable {G : Wd} {ι ι' : List Addr} {h h' : Hs} {H H' : Hp} {τ τ' : Sl} {σ : L2.St}
theorem SRel.wipe1 (s : SRel G ι H τ σ) (v : Nat) : SRel G ι H (τ.set v none) (σ.set v none) := ⟨by rw [List.length_set, List.length_set]; exact s.len, fun i u e => by
  by_cases hv : v = i
  · subst hv
    by_cases hl : v < τ.length
    · rw [List.getElem?_set_self hl] at e
      cases e
    · rw [List.getElem?_eq_none (by rw [List.length_set]; omega)] at e
      cases e
  · rw [List.getElem?_set_ne hv] at e
    rw [List.getElem?_set_ne hv]
    exact s.at_ i u e⟩
theorem wipe_comm (σ : L2.St) (v : Nat) : ∀ vs : List Nat, (wipe σ vs).set v none = wipe (σ.set v none) vs
  | [] => rfl
  | w :: vs => by
    unfold wipe
    rw [← wipe_comm σ v vs]
    by_cases e : v = w
    · subst e
      rfl
    · exact (List.set_comm _ _ (Ne.symm e))
theorem SRel.wipe : ∀ {vs : List Nat} {τ : Sl} {σ : L2.St}, SRel G ι H τ σ → SRel G ι H (wipeU vs τ) (L2.wipe σ vs)
  | [], _, _, s => s
  | v :: vs, τ, σ, s => by
    show SRel G ι H (wipeU vs (τ.set v none)) ((L2.wipe σ vs).set v none)
    rw [wipe_comm]
    exact SRel.wipe (s.wipe1 v)
theorem gNames_run {Q : L2.St → Hp → Prop} {vs0 : List Nat} : ∀ {is : List Nat} {us : List U} {xs : List V} {τ τ2 : Sl} {σ : L2.St}, (∀ i ∈ is, i ∈ vs0) → SRel G ι H τ σ → VRels G ι H us xs → setAll is us τ = some τ2 →
    (∀ σ2, SRel G ι H τ2 σ2 → L2.wipe σ2 vs0 = L2.wipe σ vs0 → Q σ2 H) → gNames is xs σ H Q
  | [], us, xs, τ, τ2, σ, _, s, r, e, k => by
    cases r with
    | nil =>
      cases e
      exact ⟨rfl, k σ s rfl⟩
    | cons => cases e
  | i :: is, us, xs, τ, τ2, σ, hv, s, r, e, k => by
    cases r with
    | nil => cases e
    | @cons u v us xs r1 r2 =>
      refine ⟨v, xs, rfl, ?_⟩
      refine gNames_run (fun j hj => hv j (List.mem_cons_of_mem _ hj)) (s.set i r1) r2 e fun σ2 s2 w2 => k σ2 s2 ?_
      rw [w2, wipe_set_eq (hv i List.mem_cons_self)]
theorem tgt_run {K : PySem.W.Frag} {t : Tgt} {Q : L2.St → Hp → Prop} {vs0 : List Nat} {u : U} {x : V} {τ τ2 : Sl} {σ : L2.St} (hk : G.K = K) (hv : ∀ i ∈ t.ix, i ∈ vs0) (s : SRel G ι H τ σ) (r : VRel G ι H u x) (e : t.set u τ = some τ2)
    (k : ∀ σ2, SRel G ι H τ2 σ2 → L2.wipe σ2 vs0 = L2.wipe σ vs0 → Q σ2 H) : t.rd K x σ H Q := by
  cases t with
  | one i =>
    cases e
    exact k _ (s.set i r) (wipe_set_eq (hv i (by simp [Tgt.ix])))
  | many is =>
    cases r with
    | @tup us a vs ht rs =>
      have e' : setAll is us τ = some τ2 := e
      have hl : ∀ {is : List Nat} {us : List U} {τ τ2 : Sl}, setAll is us τ = some τ2 → us.length = is.length := by
        intro is
        induction is with
        | nil =>
          intro us τ τ2 e
          cases us with
          | nil => rfl
          | cons => cases e
        | cons i is ih =>
          intro us τ τ2 e
          cases us with
          | nil => cases e
          | cons u us => exact congrArg Nat.succ (ih e)
      exact ⟨a, vs, rfl, by rw [← hk]; exact ht, by rw [← rs.length]; exact hl e', gNames_run hv s rs e' k⟩
    | _ => cases e
end
section
variable {X : Cx} {G : Wd} {pos : Pos} {e : Expr} {es : List Expr}
theorem tg_one {i : Nat} {x : Str} (hN : X.N.Nodup) (hi : X.N[i]? = some x) (hx : Loc X.env.scope x) (hf : X.fn x = true ∨ X.env.scope.names.lookup x = some .local := by first | exact .inl rfl | exact .inr rfl | assumption) : PG X (.Name x pos) (Tgt.rd X.K (.one i)) := pg_name hN hi hx hf
theorem tgs_nil : PGs X [] (gNames []) := pgs_nil.imp fun vs σ H Q h => h
theorem tgs_cons {i : Nat} {is : List Nat} {x : Str} (hN : X.N.Nodup) (hi : X.N[i]? = some x) (hx : Loc X.env.scope x) (h2 : PGs X es (gNames is)) (hf : X.fn x = true ∨ X.env.scope.names.lookup x = some .local := by first | exact .inl rfl | exact .inr rfl | assumption)
    (hs : (assignEach (.Name x pos :: es) X.env).map (·.2) = assign (.Name x pos) X.env :: (assignEach es X.env).map (·.2) := by rfl) : PGs X (.Name x pos :: es) (gNames (i :: is)) := pgs_cons (pg_name hN hi hx hf) h2 hs
theorem tg_many {k : Nat} {is : List Nat} (hc : X.calm = true) (h : PGs X es (gNames is)) (hn : (assignEach es X.env).length = is.length := by rfl) (hst : (assignEach es X.env).findIdx? (·.1) = none := by rfl) : PG X (.Tuple es k pos) (Tgt.rd X.K (.many is)) := pg_tup hc h hn hst
end
/-! ### [elt for tg in iter if ..] -/
abbrev W0 : L2.St → XK := fun _ _ _ _ => False
def mLcGo (it : MIt) (vs : List Nat) (g : Tgt) (t : TM) (e : EM) (τ : Sl) : Nat → Nat → Hs → R (List U)
  | 0, _ => fun _ => .no
  | f + 1, j => fun h => match it.at j h with
    | some (some u) => match g.set u (wipeU vs τ) with
      | some τ2 => match t τ2 h with
        | .ok true h3 => match e τ2 h3 with
          | .ok y h4 => match mLcGo it vs g t e τ f (j + 1) h4 with
            | .ok r h5 => .ok (y :: r) h5
            | _ => .no
          | _ => .no
        | .ok false h3 => mLcGo it vs g t e τ f (j + 1) h3
        | _ => .no
      | none => .no
    | some none => .ok [] h
    | none => .no
def mLc (mi : IM) (vs : List Nat) (g : Tgt) (t : TM) (e : EM) (f : Nat) : EM := fun τ h => (mi τ h).bind fun it h1 => match mLcGo it vs g t e τ f 0 h1 with
  | .ok xs h2 => match fits xs.length with
    | true => .ok (.ref h2.n) (h2.new (.lst xs))
    | false => .no
  | _ => .no
def mYes : TM := fun _ h => .ok true h
/-! ### a list that is not yet of the mirror -/
section
variable {G : Wd} {ι ι' ι1 : List Addr} {h h' : Hs} {H H' H1 : Hp}
/-- plain objects: no tuple, no frozen one, no table -/
def Pl (o : HO) : Prop := (∀ xs, o ≠ .tup xs) ∧ (∀ b u, o ≠ .frz b u) ∧ (∀ ps, o ≠ .tbl ps) ∧ ∀ φ, o ≠ .ext φ
theorem pl_lst {vs : List V} : Pl (.lst vs) := ⟨fun _ z => (nomatch z), fun _ _ z => (nomatch z), fun _ z => (nomatch z), fun _ z => (nomatch z)⟩
theorem pl_dK {vs : List (Key × V)} : Pl (.dK vs) := ⟨fun _ z => (nomatch z), fun _ _ z => (nomatch z), fun _ z => (nomatch z), fun _ z => (nomatch z)⟩
theorem ExtV.over {D : Addr} {o o' : HO} (hd : H D = some o) (p : Pl o) : ExtV ι H ι (upd H D o') where
  pre := fun _ _ e => e
  tp := fun a xs e => by rw [upd_ne fun z => p.1 xs (by rw [z, hd] at e; exact Option.some.inj e)]; exact e
  fz := fun a b u e => by rw [upd_ne fun z => p.2.1 b u (by rw [z, hd] at e; exact Option.some.inj e)]; exact e
theorem Ext.over {D : Addr} {o' : HO} (E : Ext ι1 H1 ι H) (hn : H1 D = none) : Ext ι1 H1 ι (upd H D o') := by
  have ne : ∀ {a o}, H1 a = some o → a ≠ D := fun {a o} e z => by
    rw [z, hn] at e
    cases e
  exact ⟨E.pre, fun a xs e => by rw [upd_ne (ne e)]; exact E.tp _ _ e, fun a b u e => by rw [upd_ne (ne e)]; exact E.fz _ _ _ e, E.nw, fun a o e h0 ht => by rw [upd_ne (ne e)]; exact E.kp _ _ e h0 ht⟩
theorem Rep.over (R : Rep G ι h H) {D : Addr} {o o' : HO} (hD : D ∉ ι) (hd : H D = some o) (p : Pl o) : Rep G ι h (upd H D o') := by
  refine ⟨R.wf, R.len, R.nd, fun i a e => ?_, fun q hq => ?_⟩
  · obtain ⟨ob, ho, e1, e2, r⟩ := R.ob i a e
    exact ⟨ob, ho, e1, by rw [upd_ne fun z => hD (by rw [← z]; exact List.mem_of_getElem? e)]; exact e2, r.extV (ExtV.over hd p)⟩
  · obtain ⟨ps, e1, e2, e3⟩ := R.tb q hq
    refine ⟨ps, by rw [upd_ne fun z => p.2.2.1 ps (by rw [z, hd] at e1; exact Option.some.inj e1)]; exact e1, e2, fun pos cv hc => ?_⟩
    obtain ⟨c, ec, e4⟩ := e3 pos cv hc
    exact ⟨c, ec, by rw [upd_ne fun z => p.2.2.2 _ (by rw [z, hd] at e4; exact Option.some.inj e4)]; exact e4⟩
theorem Rep.adopt (R : Rep G ι h H) {D : Addr} {o : O} {ho : HO} (hD : D ∉ ι) (hd : H D = some ho) (r : ORel G ι H D o ho) : Rep G (ι ++ [D]) (h.new o) H := by
  have E : ExtV ι H (ι ++ [D]) H := ⟨fun i a e => by
    rw [List.getElem?_append_left (List.getElem?_eq_some_iff.mp e).1]
    exact e, fun _ _ e => e, fun _ _ _ e => e⟩
  refine ⟨Hs.wf_new R.wf, by rw [List.length_append, R.len]; rfl, List.nodup_append.mpr ⟨R.nd, by simp, fun a ha b hb e => ?_⟩, fun i a e => ?_, R.tb⟩
  · have hb' : b = D := by simpa using hb
    subst e
    rw [hb'] at ha
    exact hD ha
  · by_cases hi : i < ι.length
    · rw [List.getElem?_append_left hi] at e
      obtain ⟨o', ho', e1, e2, r'⟩ := R.ob i a e
      exact ⟨o', ho', Hs.get_new_old R.wf e1, e2, r'.extV E⟩
    · have hi2 : i = ι.length := by
        have := (List.getElem?_eq_some_iff.mp e).1
        rw [List.length_append] at this
        simp at this
        omega
      subst hi2
      rw [List.getElem?_append_right (Nat.le_refl _), Nat.sub_self] at e
      have ea : D = a := by simpa using e
      subst ea
      exact ⟨o, ho, by rw [R.len]; exact Hs.get_new_same R.wf, hd, r.extV E⟩
theorem Ext.adopt {D : Addr} (E : Ext ι1 H1 ι H) (hn : H1 D = none) : Ext ι1 H1 (ι ++ [D]) H := ⟨fun i a e => by
    have e := E.pre i a e
    rw [List.getElem?_append_left (List.getElem?_eq_some_iff.mp e).1]
    exact e, E.tp, E.fz, fun a h1 h0 => by
    rcases List.mem_append.mp h1 with z | z
    · exact E.nw a z h0
    · have : a = D := by simpa using z
      rw [this]
      exact .inl hn, E.kp⟩
theorem Ext.notin {D : Addr} {o : HO} (E : Ext ι H ι' H') (hD : D ∉ ι) (hd : H D = some o) (p : Pl o) : D ∉ ι' := fun z => by
  rcases E.nw D z hD with e | ⟨ps, e⟩
  · rw [hd] at e
    cases e
  · rw [hd] at e
    exact p.2.2.1 ps (Option.some.inj e)
end
/-- what the rest of a block's loop promises, acc standing at D -/
def LcK (G : Wd) (D : Addr) (ι1 : List Addr) (H1 : Hp) (Q : Hp → Prop) (acc : List U) : R (List U) → Prop
  | .ok r h' => fits (acc ++ r).length = true ∧ ∀ ι' H' vs, Ext ι1 H1 ι' H' → Rep G ι' h' H' → D ∉ ι' → H' D = some (.lst vs) → VRels G ι' H' (acc ++ r) vs → Q H'
  | _ => False
section
variable {X : Cx} {G : Wd} {W : L2.St → XK} {pos : Pos} {tg iter elt : Expr} {ifs : List Expr} {scope : Scope} {own : List (Str × Nat)} {mi : IM} {g : Tgt} {t : TM} {e : EM}
theorem SRel.extV {ι ι' : List Addr} {H H' : Hp} {τ : Sl} {σ : L2.St} (E : ExtV ι H ι' H') (s : SRel G ι H τ σ) : SRel G ι' H' τ σ := ⟨s.len, fun i u e => by
  obtain ⟨v, e1, e2⟩ := s.at_ i u e
  exact ⟨v, e1, VRel.extV E e2⟩⟩
theorem lc_run {τ : Sl} {σ : L2.St} {J : It} {D : Addr} {ι1 ι0 : List Addr} {H1 H0 : Hp} {acc0 : List U} {xs0 : List V} {vs0 : List Nat} {it : MIt} {Q : Hp → Prop} (hk : G.K = X.K) (hv : ∀ i ∈ g.ix, i ∈ vs0) (hn : H1 D = none) (sr : SRel G ι0 H0 τ σ) (ir : ItRel G ι0 H0 it J) (f : Nat) {h1 : Hs} (R1 : Rep G ι0 h1 H0)
    (E1 : Ext ι1 H1 ι0 H0) (hD0 : D ∉ ι0) (hd0 : H0 D = some (.lst xs0)) (r0 : VRels G ι0 H0 acc0 xs0)
    (q : LcK G D ι1 H1 Q acc0 (mLcGo it vs0 g t e τ f 0 h1)) : ∃ Wi : Nat → Nat → Hp → Prop, (∃ m, Wi 0 m H0) ∧ ∀ i m H, Wi i m H →
      (J.stop i H ∧ Q H) ∨ (J.go i H ∧ ∃ Nx : Hp → Prop, (∀ H', Nx H' → ∃ m', m' < m ∧ Wi (i + 1) m' H') ∧ ∀ x H', J.yld i H x H' → g.rd X.K x (wipe σ vs0) H' fun σ2 H2 => wipe σ2 vs0 = wipe σ vs0 ∧ Sm.tB G W0 t σ2 H2 fun b H3 =>
        if b = true then tM G W0 e σ2 H3 fun y H4 => ∃ acc, H4 D = some (.lst acc) ∧ acc.length < sizeLine ∧ Nx (upd H4 D (.lst (acc ++ [y]))) else Nx H3) := by
  refine ⟨fun j m H => ∃ ι h acc vs, Rep G ι h H ∧ Ext ι1 H1 ι H ∧ ExtV ι0 H0 ι H ∧ D ∉ ι ∧ H D = some (.lst vs) ∧ VRels G ι H acc vs ∧ LcK G D ι1 H1 Q acc (mLcGo it vs0 g t e τ m j h),
    ⟨f, ι0, h1, acc0, xs0, R1, E1, ExtV.refl, hD0, hd0, r0, q⟩, fun j m H ⟨ι, h, acc, vs, R, E, EV, hD, hd, ra, q⟩ => ?_⟩
  cases m with
  | zero => exact q.elim
  | succ m =>
    unfold mLcGo at q
    have irj := ir ι h H EV R j
    cases ea : it.at j h with
    | none =>
      simp only [ea] at q
      exact q.elim
    | some o =>
      simp only [ea] at q irj
      cases o with
      | none => exact .inl ⟨irj, q.2 ι H vs E R hD hd (by rw [List.append_nil]; exact ra)⟩
      | some u =>
        obtain ⟨hgo, hy⟩ := irj
        refine .inr ⟨hgo, fun H' => ∃ ι h acc vs, Rep G ι h H' ∧ Ext ι1 H1 ι H' ∧ ExtV ι0 H0 ι H' ∧ D ∉ ι ∧ H' D = some (.lst vs) ∧ VRels G ι H' acc vs ∧ LcK G D ι1 H1 Q acc (mLcGo it vs0 g t e τ m (j + 1) h), fun H' w => ⟨m, Nat.lt_succ_self m, w⟩, fun x H' hyl => ?_⟩
        obtain ⟨E2, R2, rx⟩ := hy x H' hyl
        have hd2 : H' D = some (.lst vs) := E2.kp _ _ hd hD fun _ z => nomatch z
        have E02 := E.trans E2
        have V02 := EV.trans E2.v
        cases eg : g.set u (wipeU vs0 τ) with
        | none =>
          simp only [eg] at q
          exact q.elim
        | some τ2 =>
          simp only [eg] at q
          refine tgt_run hk hv ((sr.extV V02).wipe) rx eg fun σ2 s2 w2 => ⟨w2.trans wipe_wipe, ?_⟩
          refine ⟨τ2, ι, h, s2, R2, ?_⟩
          cases et : t τ2 h with
          | no =>
            simp only [et] at q
            exact q.elim
          | err x k =>
            simp only [et] at q
            exact q.elim
          | ok b h3 =>
            simp only [et] at q
            intro ι3 H3 b' E3 R3 eb
            cases eb
            have hd3 : H3 D = some (.lst vs) := E3.kp _ _ hd2 hD fun _ z => nomatch z
            have hD3 : D ∉ ι3 := E3.notin hD hd2 pl_lst
            cases b with
            | false =>
              rw [if_neg Bool.false_ne_true]
              exact ⟨ι3, h3, acc, vs, R3, E02.trans E3, V02.trans E3.v, hD3, hd3, (ra.ext E2).ext E3, q⟩
            | true =>
              rw [if_pos rfl]
              refine ⟨τ2, ι3, h3, s2.ext E3, R3, ?_⟩
              cases ee : e τ2 h3 with
              | no =>
                simp only [ee] at q
                exact q.elim
              | err x k =>
                simp only [ee] at q
                exact q.elim
              | ok y h4 =>
                simp only [ee] at q
                intro ι4 H4 z E4 R4 rz
                have hd4 : H4 D = some (.lst vs) := E4.kp _ _ hd3 hD3 fun _ z => nomatch z
                have hD4 : D ∉ ι4 := E4.notin hD3 hd3 pl_lst
                have ra4 : VRels G ι4 H4 acc vs := ((ra.ext E2).ext E3).ext E4
                have q5 : LcK G D ι1 H1 Q (acc ++ [y]) (mLcGo it vs0 g t e τ m (j + 1) h4) ∧ acc.length < sizeLine := by
                  cases er : mLcGo it vs0 g t e τ m (j + 1) h4 with
                  | no =>
                    simp only [er] at q
                    exact q.elim
                  | err x k =>
                    simp only [er] at q
                    exact q.elim
                  | ok r h5 =>
                    simp only [er] at q
                    have eq : acc ++ y :: r = (acc ++ [y]) ++ r := by simp
                    obtain ⟨q1, q2⟩ := q
                    rw [eq] at q1
                    refine ⟨⟨q1, fun ι' H' vs' a b c d r' => q2 ι' H' vs' a b c d (by rw [eq]; exact r')⟩, ?_⟩
                    have := fits_le q1
                    simp at this
                    omega
                refine ⟨vs, hd4, by rw [← ra4.length]; exact q5.2, ι4, h4, acc ++ [y], vs ++ [z], R4.over hD4 hd4 pl_lst, ((E02.trans E3).trans E4).over hn, ((V02.trans E3.v).trans E4.v).trans (ExtV.over hd4 pl_lst), hD4, upd_same, ?_, q5.1⟩
                exact VRels.extV (ExtV.over hd4 pl_lst) (ra4.append (.cons rz .nil))
theorem t_lc (f : Nat) (hk : G.K = X.K) (hv : ∀ i ∈ g.ix, i ∈ own.map (·.2)) {σ : L2.St} {H : Hp} {Q : VK} (q : tM G W (mLc mi (own.map (·.2)) g t e f) σ H Q) : tLc (tI G W mi) (g.rd X.K) (Sm.tB G W0 t) (tM G W0 e) (own.map (·.2)) σ H Q := by
  obtain ⟨τ, ι, h, sr, R, q⟩ := q
  refine ⟨τ, ι, h, sr, R, q.bind fun ι1 H1 it h1 J E1 R1 r1 q1 => fun D hn => ?_⟩
  cases er : mLcGo it (own.map (·.2)) g t e τ f 0 h1 with
  | no =>
    simp only [er] at q1
    exact q1.elim
  | err x k =>
    simp only [er] at q1
    exact q1.elim
  | ok xs h2 =>
    simp only [er] at q1
    cases hf : fits xs.length with
    | false =>
      simp only [hf] at q1
      exact q1.elim
    | true =>
      simp only [hf] at q1
      have EN : Ext ι1 H1 ι1 (upd H1 D (.lst [])) := Ext.fresh hn
      exact lc_run (Q := fun H' => Q (.ref D) H') hk hv hn ((sr.ext E1).ext EN) (fun ι' h' H' E R => r1 ι' h' H' (EN.v.trans E) R) f (R1.fresh hn) EN (fun z => (R1.ne z).2.2.2.2 hn) upd_same .nil (by
        rw [er]
        refine ⟨by simpa using hf, fun ι' H' vs E R' hD hd r => ?_⟩
        rw [List.nil_append] at r
        exact q1 (ι' ++ [D]) H' (.ref D) (E.adopt hn) (R'.adopt hD hd (.lst r)) (VRel.fresh_ref R'))
theorem s_lc (f : Nat) (hk : G.K = X.K) (hc : X.calm = true) (hN : X.N.Nodup) (hv : ∀ i ∈ g.ix, i ∈ own.map (·.2)) (hi : SI X G W tg iter mi) (ok : BlkOk X.N X.env.scope scope own)
    (hg : ∀ (s : Shared) (H : Hp) (C : Addr) (cl : List (Str × Addr)) (fp : List Addr), PG (X.blk s H scope (compEnvC scope cl C X.env) fp) tg (g.rd X.K)) (ht : ∀ (s : Shared) (H : Hp) (C : Addr) (cl : List (Str × Addr)) (fp : List Addr), PTs (X.blk s H scope (compEnvC scope cl C X.env) fp) ifs (Sm.tB G W0 t))
    (he : ∀ (s : Shared) (H : Hp) (C : Addr) (cl : List (Str × Addr)) (fp : List Addr), SE (X.blk s H scope (compEnvC scope cl C X.env) fp) G W0 elt e) (hs : ∀ x, foldedSetIterable iter X.env x = pure x := by intro _; rfl) :
    SE X G W (.ListComp elt [⟨tg, iter, ifs, 0⟩] scope pos) (mLc mi (own.map (·.2)) g t e f) := (pe_lc hc hN hi ok hg ht he hs).imp fun σ H Q q => t_lc f hk hv q
theorem ss_setLc (f : Nat) (i : Nat) {y : Str} {py spos : Pos} (hk : G.K = X.K) (hc : X.calm = true) (hN : X.N.Nodup) (hy : X.N[i]? = some y) (hyl : X.env.scope.names.lookup y = some .local) (hv : ∀ i ∈ g.ix, i ∈ own.map (·.2)) (hi : SI X G W tg iter mi) (ok : BlkOk X.N X.env.scope scope own)
    (hg : ∀ (s : Shared) (H : Hp) (C : Addr) (cl : List (Str × Addr)) (fp : List Addr), PG (X.blk s H scope (compEnvC scope cl C X.env) fp) tg (g.rd X.K)) (ht : ∀ (s : Shared) (H : Hp) (C : Addr) (cl : List (Str × Addr)) (fp : List Addr), PTs (X.blk s H scope (compEnvC scope cl C X.env) fp) ifs (Sm.tB G W0 t))
    (he : ∀ (s : Shared) (H : Hp) (C : Addr) (cl : List (Str × Addr)) (fp : List Addr), SE (X.blk s H scope (compEnvC scope cl C X.env) fp) G W0 elt e) (hs : ∀ x, foldedSetIterable iter X.env x = pure x := by intro _; rfl)
    (hsw : swapsWith (.ListComp elt [⟨tg, iter, ifs, 0⟩] scope pos) (some (.Name y py)) spos.line X.env = pure true := by rfl) :
    SS X G W (.Assign [.Name y py] (.ListComp elt [⟨tg, iter, ifs, 0⟩] scope pos) spos) (mAsg (mLc mi (own.map (·.2)) g t e f) (gN i)) :=
  (ps_setLc hc hN hy hyl hsw hi ok hg ht he hs).imp fun D σ H q => t_asg (fun σ H Q q => t_lc f hk hv q) (fun v σ H Q ⟨u, τ, ι, h, sr, R, r, q⟩ => q ι H _ Ext.refl R (sr.set i r)) q
theorem t_yes (X' : Cx) : PTs X' [] (Sm.tB G W0 mYes) := ⟨fun pins s σ H Q I ⟨τ, ι, h, sr, R, q⟩ => pts_nil.run pins s σ H Q I (q.now R rfl)⟩
theorem t_if1 {X' : Cx} {c : Expr} (h : ST X' G W0 c t) : PTs X' [c] (Sm.tB G W0 t) := pts_one h
/-! ### [elt for tg in iter if .. for tg1 in iter1 if ..] -/
def mLc2Go (it : MIt) (vs : List Nat) (g : Tgt) (t : TM) (mi1 : IM) (vs1 : List Nat) (g1 : Tgt) (t1 : TM) (e : EM) (τ : Sl) (fi : Nat) : Nat → Nat → Hs → R (List U)
  | 0, _ => fun _ => .no
  | f + 1, j => fun h => match it.at j h with
    | some (some u) => match g.set u (wipeU vs τ) with
      | some τ2 => match t τ2 h with
        | .ok true h3 => match mi1 τ2 h3 with
          | .ok it1 h4 => match mLcGo it1 vs1 g1 t1 e τ2 fi 0 h4 with
            | .ok r1 h5 => match mLc2Go it vs g t mi1 vs1 g1 t1 e τ fi f (j + 1) h5 with
              | .ok r h6 => .ok (r1 ++ r) h6
              | _ => .no
            | _ => .no
          | _ => .no
        | .ok false h3 => mLc2Go it vs g t mi1 vs1 g1 t1 e τ fi f (j + 1) h3
        | _ => .no
      | none => .no
    | some none => .ok [] h
    | none => .no
def mLc2 (mi : IM) (vs : List Nat) (g : Tgt) (t : TM) (mi1 : IM) (vs1 : List Nat) (g1 : Tgt) (t1 : TM) (e : EM) (f fi : Nat) : EM := fun τ h => (mi τ h).bind fun it h1 => match mLc2Go it vs g t mi1 vs1 g1 t1 e τ fi f 0 h1 with
  | .ok xs h2 => match fits xs.length with
    | true => .ok (.ref h2.n) (h2.new (.lst xs))
    | false => .no
  | _ => .no
variable {tg1 iter1 : Expr} {ifs1 : List Expr} {mi1 : IM} {g1 : Tgt} {t1 : TM} {vs1 : List Nat}
theorem t_lc2 (f fi : Nat) (hk : G.K = X.K) (hv : ∀ i ∈ g.ix, i ∈ own.map (·.2)) (hv1 : ∀ i ∈ g1.ix, i ∈ vs1) (hvo : ∀ i ∈ vs1, i ∈ own.map (·.2)) {σ : L2.St} {H : Hp} {Q : VK} (q : tM G W (mLc2 mi (own.map (·.2)) g t mi1 vs1 g1 t1 e f fi) σ H Q) : tLc2 (tI G W mi) (g.rd X.K) (Sm.tB G W0 t) (tI G W0 mi1) (g1.rd X.K) (Sm.tB G W0 t1) (tM G W0 e) (own.map (·.2)) vs1 σ H Q := by
  obtain ⟨τ, ι, h, sr, R, q⟩ := q
  refine ⟨τ, ι, h, sr, R, q.bind fun ι1 H1 it h1 J E1 R1 r1 q1 => fun D hn => ?_⟩
  have sr1 := sr.ext E1
  have K0 : LcK G D ι1 H1 (fun H' => Q (.ref D) H') [] (mLc2Go it (own.map (·.2)) g t mi1 vs1 g1 t1 e τ fi f 0 h1) := by
    cases er : mLc2Go it (own.map (·.2)) g t mi1 vs1 g1 t1 e τ fi f 0 h1 with
    | no =>
      simp only [er] at q1
      exact q1.elim
    | err x k =>
      simp only [er] at q1
      exact q1.elim
    | ok xs h2 =>
      simp only [er] at q1
      cases hf : fits xs.length with
      | false =>
        simp only [hf] at q1
        exact q1.elim
      | true =>
        simp only [hf] at q1
        refine ⟨by simpa using hf, fun ι' H' vs E R' hD hd r => ?_⟩
        rw [List.nil_append] at r
        exact q1 (ι' ++ [D]) H' (.ref D) (E.adopt hn) (R'.adopt hD hd (.lst r)) (VRel.fresh_ref R')
  refine ⟨fun j m H => ∃ ι h acc vs, Rep G ι h H ∧ Ext ι1 H1 ι H ∧ D ∉ ι ∧ H D = some (.lst vs) ∧ VRels G ι H acc vs ∧ LcK G D ι1 H1 (fun H' => Q (.ref D) H') acc (mLc2Go it (own.map (·.2)) g t mi1 vs1 g1 t1 e τ fi m j h),
    ⟨f, ι1, h1, [], [], R1.fresh hn, Ext.fresh hn, fun z => (R1.ne z).2.2.2.2 hn, upd_same, .nil, K0⟩, fun j m H ⟨ι, h, acc, vs, R, E, hD, hd, ra, q⟩ => ?_⟩
  cases m with
  | zero => exact q.elim
  | succ m =>
    unfold mLc2Go at q
    have irj := r1 ι h H E.v R j
    cases ea : it.at j h with
    | none =>
      simp only [ea] at q
      exact q.elim
    | some o =>
      simp only [ea] at q irj
      cases o with
      | none => exact .inl ⟨irj, q.2 ι H vs E R hD hd (by rw [List.append_nil]; exact ra)⟩
      | some u =>
        obtain ⟨hgo, hy⟩ := irj
        refine .inr ⟨hgo, fun H' => ∃ ι h acc vs, Rep G ι h H' ∧ Ext ι1 H1 ι H' ∧ D ∉ ι ∧ H' D = some (.lst vs) ∧ VRels G ι H' acc vs ∧ LcK G D ι1 H1 (fun H' => Q (.ref D) H') acc (mLc2Go it (own.map (·.2)) g t mi1 vs1 g1 t1 e τ fi m (j + 1) h), fun H' w => ⟨m, Nat.lt_succ_self m, w⟩, fun x H' hyl => ?_⟩
        obtain ⟨E2, R2, rx⟩ := hy x H' hyl
        have hd2 : H' D = some (.lst vs) := E2.kp _ _ hd hD fun _ z => nomatch z
        have E02 := E.trans E2
        cases eg : g.set u (wipeU (own.map (·.2)) τ) with
        | none =>
          simp only [eg] at q
          exact q.elim
        | some τ2 =>
          simp only [eg] at q
          refine tgt_run hk hv ((sr1.ext E02).wipe) rx eg fun σ2 s2 w2 => ⟨w2.trans wipe_wipe, ?_⟩
          refine ⟨τ2, ι, h, s2, R2, ?_⟩
          cases et : t τ2 h with
          | no =>
            simp only [et] at q
            exact q.elim
          | err x k =>
            simp only [et] at q
            exact q.elim
          | ok b h3 =>
            simp only [et] at q
            intro ι3 H3 b' E3 R3 eb
            cases eb
            have hd3 : H3 D = some (.lst vs) := E3.kp _ _ hd2 hD fun _ z => nomatch z
            have hD3 : D ∉ ι3 := E3.notin hD hd2 pl_lst
            cases b with
            | false =>
              rw [if_neg Bool.false_ne_true]
              exact ⟨ι3, h3, acc, vs, R3, E02.trans E3, hD3, hd3, (ra.ext E2).ext E3, q⟩
            | true =>
              rw [if_pos rfl]
              refine ⟨τ2, ι3, h3, s2.ext E3, R3, ?_⟩
              cases ei : mi1 τ2 h3 with
              | no =>
                simp only [ei] at q
                exact q.elim
              | err x k =>
                simp only [ei] at q
                exact q.elim
              | ok it1 h4 =>
                simp only [ei] at q
                intro ι4 H4 J1 E4 R4 ri
                have hd4 : H4 D = some (.lst vs) := E4.kp _ _ hd3 hD3 fun _ z => nomatch z
                have hD4 : D ∉ ι4 := E4.notin hD3 hd3 pl_lst
                have ra4 : VRels G ι4 H4 acc vs := ((ra.ext E2).ext E3).ext E4
                refine lc_run hk hv1 hn ((s2.ext E3).ext E4) ri fi R4 ((E02.trans E3).trans E4) hD4 hd4 ra4 ?_
                cases er : mLcGo it1 vs1 g1 t1 e τ2 fi 0 h4 with
                | no =>
                  simp only [er] at q
                  exact q.elim
                | err x k =>
                  simp only [er] at q
                  exact q.elim
                | ok r1 h5 =>
                  simp only [er] at q
                  cases es : mLc2Go it (own.map (·.2)) g t mi1 vs1 g1 t1 e τ fi m (j + 1) h5 with
                  | no =>
                    simp only [es] at q
                    exact q.elim
                  | err x k =>
                    simp only [es] at q
                    exact q.elim
                  | ok r h6 =>
                    simp only [es] at q
                    obtain ⟨q1, q2⟩ := q
                    rw [← List.append_assoc] at q1
                    refine ⟨?_, fun ι' H' vs' Ea Ra hDa hda ra' => ⟨ι', h5, acc ++ r1, vs', Ra, Ea, hDa, hda, ra', ?_⟩⟩
                    · have z := Nat.le_of_ble_eq_true q1
                      rw [List.length_append] at z
                      exact Nat.ble_eq_true_of_le (Nat.le_trans (Nat.le_add_right _ _) z)
                    · rw [es]
                      exact ⟨q1, fun ι'' H'' vs'' a b c d r' => q2 ι'' H'' vs'' a b c d (by rw [← List.append_assoc]; exact r')⟩
theorem s_lc2 (f fi : Nat) (hk : G.K = X.K) (hc : X.calm = true) (hN : X.N.Nodup) (hv : ∀ i ∈ g.ix, i ∈ own.map (·.2)) (hv1 : ∀ i ∈ g1.ix, i ∈ vs1) (hvo : ∀ i ∈ vs1, i ∈ own.map (·.2)) (hi : SI X G W tg iter mi) (ok : BlkOk X.N X.env.scope scope own)
    (hg : ∀ (s : Shared) (H : Hp) (C : Addr) (cl : List (Str × Addr)) (fp : List Addr), PG (X.blk s H scope (compEnvC scope cl C X.env) fp) tg (g.rd X.K)) (ht : ∀ (s : Shared) (H : Hp) (C : Addr) (cl : List (Str × Addr)) (fp : List Addr), PTs (X.blk s H scope (compEnvC scope cl C X.env) fp) ifs (Sm.tB G W0 t))
    (hi1 : ∀ (s : Shared) (H : Hp) (C : Addr) (cl : List (Str × Addr)) (fp : List Addr), SI (X.blk s H scope (compEnvC scope cl C X.env) fp) G W0 tg1 iter1 mi1)
    (hg1 : ∀ (s : Shared) (H : Hp) (C : Addr) (cl : List (Str × Addr)) (fp : List Addr), PG (X.blk s H scope (compEnvC scope cl C X.env) fp) tg1 (g1.rd X.K)) (ht1 : ∀ (s : Shared) (H : Hp) (C : Addr) (cl : List (Str × Addr)) (fp : List Addr), PTs (X.blk s H scope (compEnvC scope cl C X.env) fp) ifs1 (Sm.tB G W0 t1))
    (he : ∀ (s : Shared) (H : Hp) (C : Addr) (cl : List (Str × Addr)) (fp : List Addr), SE (X.blk s H scope (compEnvC scope cl C X.env) fp) G W0 elt e) (hs : ∀ x, foldedSetIterable iter X.env x = pure x := by intro _; rfl) (hs1 : ∀ env x, foldedSetIterable iter1 env x = pure x := by intro _ _; rfl) :
    SE X G W (.ListComp elt [⟨tg, iter, ifs, 0⟩, ⟨tg1, iter1, ifs1, 0⟩] scope pos) (mLc2 mi (own.map (·.2)) g t mi1 vs1 g1 t1 e f fi) := (pe_lc2 (vs1 := vs1) hc hN hi ok hvo hg ht hi1 hg1 ht1 he hs hs1).imp fun σ H Q q => t_lc2 f fi hk hv hv1 hvo q
theorem ss_setLc2 (f fi : Nat) (i : Nat) {y : Str} {py spos : Pos} (hy : X.N[i]? = some y) (hyl : X.env.scope.names.lookup y = some .local) (hk : G.K = X.K) (hc : X.calm = true) (hN : X.N.Nodup) (hv : ∀ i ∈ g.ix, i ∈ own.map (·.2)) (hv1 : ∀ i ∈ g1.ix, i ∈ vs1) (hvo : ∀ i ∈ vs1, i ∈ own.map (·.2)) (hi : SI X G W tg iter mi) (ok : BlkOk X.N X.env.scope scope own)
    (hg : ∀ (s : Shared) (H : Hp) (C : Addr) (cl : List (Str × Addr)) (fp : List Addr), PG (X.blk s H scope (compEnvC scope cl C X.env) fp) tg (g.rd X.K)) (ht : ∀ (s : Shared) (H : Hp) (C : Addr) (cl : List (Str × Addr)) (fp : List Addr), PTs (X.blk s H scope (compEnvC scope cl C X.env) fp) ifs (Sm.tB G W0 t))
    (hi1 : ∀ (s : Shared) (H : Hp) (C : Addr) (cl : List (Str × Addr)) (fp : List Addr), SI (X.blk s H scope (compEnvC scope cl C X.env) fp) G W0 tg1 iter1 mi1)
    (hg1 : ∀ (s : Shared) (H : Hp) (C : Addr) (cl : List (Str × Addr)) (fp : List Addr), PG (X.blk s H scope (compEnvC scope cl C X.env) fp) tg1 (g1.rd X.K)) (ht1 : ∀ (s : Shared) (H : Hp) (C : Addr) (cl : List (Str × Addr)) (fp : List Addr), PTs (X.blk s H scope (compEnvC scope cl C X.env) fp) ifs1 (Sm.tB G W0 t1))
    (he : ∀ (s : Shared) (H : Hp) (C : Addr) (cl : List (Str × Addr)) (fp : List Addr), SE (X.blk s H scope (compEnvC scope cl C X.env) fp) G W0 elt e) (hs : ∀ x, foldedSetIterable iter X.env x = pure x := by intro _; rfl) (hs1 : ∀ env x, foldedSetIterable iter1 env x = pure x := by intro _ _; rfl) 
    (hsw : swapsWith (.ListComp elt [⟨tg, iter, ifs, 0⟩, ⟨tg1, iter1, ifs1, 0⟩] scope pos) (some (.Name y py)) spos.line X.env = pure true := by rfl) :
    SS X G W (.Assign [.Name y py] (.ListComp elt [⟨tg, iter, ifs, 0⟩, ⟨tg1, iter1, ifs1, 0⟩] scope pos) spos) (mAsg (mLc2 mi (own.map (·.2)) g t mi1 vs1 g1 t1 e f fi) (gN i)) :=
  (ps_setLc2 (vs1 := vs1) hc hN hy hyl hsw hi ok hvo hg ht hi1 hg1 ht1 he hs hs1).imp fun D σ H q => t_asg (fun σ H Q q => t_lc2 f fi hk hv hv1 hvo q) (fun v σ H Q ⟨u, τ, ι, h, sr, R, r, q⟩ => q ι H _ Ext.refl R (sr.set i r)) q
/-! ### *e among items -/
def mStar (a : EM) (r : AM) : AM := fun τ h => (a τ h).bind fun x h1 => match x with
  | .tup ys => (r τ h1).bind fun xs h2 => .ok (ys ++ xs) h2
  | .ref i => match h1.get i with
    | some (.lst ys) => (r τ h1).bind fun xs h2 => .ok (ys ++ xs) h2
    | _ => .no
  | _ => .no
theorem a_star {a : Expr} {es : List Expr} {p : Pos} {m : EM} {ms : AM} (hk : G.K = X.K) (ha : SE X G W a m) (hr : SA X G W es ms) (hs : starEach (.Starred a p :: es) X.env = (true, eval a X.env) :: starEach es X.env := by rfl) : SA X G W (.Starred a p :: es) (mStar m ms) :=
  (StX.pa_star ha hr hs).imp fun σ H Q ⟨τ, ι, h, sr, R, q⟩ => ⟨τ, ι, h, sr, R, q.bind fun ι1 H1 u h1 v E1 R1 r1 q1 => by
    cases u with
    | tup ys =>
      cases r1 with
      | @tup _ a vs ht rs => exact ⟨a, vs, rfl, .inl (by rw [← hk]; exact ht), τ, ι1, h1, sr.ext E1, R1, q1.bind fun ι2 H2 us h2 ws E2 R2 r2 q2 => q2.now R2 ((rs.ext E2).append r2)⟩
    | ref i =>
      cases eo : h1.get i with
      | none =>
        simp only [eo] at q1
        exact q1.elim
      | some ob =>
        simp only [eo] at q1
        cases ob with
        | lst ys =>
          obtain ⟨a, ho, e1, e2, e3, e4⟩ := R1.at eo r1
          cases e4 with
          | @lst _ vs rs => exact ⟨a, vs, e1, .inr (.inl (.inl e3)), τ, ι1, h1, sr.ext E1, R1, q1.bind fun ι2 H2 us h2 ws E2 R2 r2 q2 => q2.now R2 ((rs.ext E2).append r2)⟩
        | _ => exact q1.elim
    | _ => exact q1.elim⟩
end
end Sm

set_option Elab.async false
set_option linter.all false
set_option maxRecDepth 100000
set_option maxHeartbeats 4000000
/-! Sim, part 11: subscripts, slices, dicts, attribute targets. -/
namespace Sm
open PySem PySem.Spec PyProof.Rows L2

/-! ### subscripts -/
def opIx (u w : U) (h : Hs) : Option (U × Hs) := match u, w with
  | .str l, .int i => match fits l.length with
    | true => match atI l i with
      | some c => some (.str [c], h)
      | none => none
    | false => none
  | .tup xs, .int i => match atI xs i with
    | some v => some (v, h)
    | none => none
  | .ref a, w => match h.get a with
    | some (.lst xs) => match w with
      | .int i => match atI xs i with
        | some v => some (v, h)
        | none => none
      | _ => none
    | _ => none
  | _, _ => none
/-! ### keys -/
def eqK : Ky → Ky → Bool
  | .inl i, .inl j => eqZ i j
  | .inr a, .inr b => eqN a b
  | _, _ => false
theorem eqK_eq (a b : Ky) : eqK a b = decide (kyK a = kyK b) := by
  cases a with
  | inl i =>
    cases b with
    | inl j =>
      show eqZ i j = _
      rw [eqZ_eq]
      by_cases h : i = j
      · rw [decide_eq_true h, decide_eq_true (by rw [h])]
      · rw [decide_eq_false h]
        exact (decide_eq_false fun z => h (Sum.inl.inj z)).symm
    | inr b => exact (decide_eq_false fun z => nomatch z).symm
  | inr a =>
    cases b with
    | inl j => exact (decide_eq_false fun z => nomatch z).symm
    | inr b =>
      show eqN a b = _
      rw [eqN_eq]
      by_cases h : S a = S b
      · rw [decide_eq_true h, decide_eq_true (by show (Sum.inr (S a) : Key) = Sum.inr (S b); rw [h])]
      · rw [decide_eq_false h]
        exact (decide_eq_false fun z => h (Sum.inr.inj z)).symm
def toKey : U → Option Ky
  | .int i => some (.inl i)
  | .str l => some (.inr l)
  | _ => none
theorem toKey_rel {G : Wd} {ι : List Addr} {H : Hp} {u : U} {x : V} {k : Ky} (r : VRel G ι H u x) (e : toKey u = some k) : x = kV (kyK k) ∧ OkK k := by
  cases r with
  | int i =>
    cases e
    exact ⟨rfl, trivial⟩
  | str l o =>
    cases e
    exact ⟨rfl, o⟩
  | _ => cases e
def getD : List (Ky × U) → Ky → Option U
  | [], _ => none
  | (k', u) :: r, k => match eqK k' k with
    | true => some u
    | false => getD r k
def anyD : List (Ky × U) → Ky → Bool
  | [], _ => false
  | (k', _) :: r, k => match eqK k' k with
    | true => true
    | false => anyD r k
def mapD : List (Ky × U) → Ky → U → List (Ky × U)
  | [], _, _ => []
  | (k', u) :: r, k, w => match eqK k' k with
    | true => (k', w) :: mapD r k w
    | false => (k', u) :: mapD r k w
def putD (kvs : List (Ky × U)) (k : Ky) (w : U) : List (Ky × U) := match anyD kvs k with
  | true => mapD kvs k w
  | false => kvs ++ [(k, w)]
section
variable {G : Wd} {ι : List Addr} {H : Hp}
theorem KRels.length : ∀ {us : List (Ky × U)} {vs : List (Key × V)}, KRels G ι H us vs → us.length = vs.length
  | _, _, .nil => rfl
  | _, _, .cons _ _ t => congrArg Nat.succ (KRels.length t)
theorem KRels.look {k : Ky} : ∀ {us : List (Ky × U)} {vs : List (Key × V)}, KRels G ι H us vs → (∀ u, getD us k = some u → ∃ v, valV vs (kyK k) = some v ∧ VRel G ι H u v) ∧ (getD us k = none → valV vs (kyK k) = none)
  | _, _, .nil => ⟨fun u e => (nomatch e), fun _ => rfl⟩
  | (k', u') :: us, (_, v') :: vs, .cons o r t => by
    obtain ⟨h1, h2⟩ := KRels.look (k := k) t
    have e := eqK_eq k' k
    unfold getD
    by_cases hk : kyK k' = kyK k
    · rw [decide_eq_true hk] at e
      rw [e]
      exact ⟨fun u z => by cases z; exact ⟨v', valV_pos hk, r⟩, fun z => nomatch z⟩
    · rw [decide_eq_false hk] at e
      rw [e]
      exact ⟨fun u z => by obtain ⟨v, e1, e2⟩ := h1 u z; exact ⟨v, by rw [valV_neg hk]; exact e1, e2⟩, fun z => by rw [valV_neg hk]; exact h2 z⟩
theorem KRels.any {k : Ky} : ∀ {us : List (Ky × U)} {vs : List (Key × V)}, KRels G ι H us vs → (vs.any fun kv => decide (kv.1 = kyK k)) = anyD us k
  | _, _, .nil => rfl
  | (k', u') :: us, (_, v') :: vs, .cons o r t => by
    show (decide (kyK k' = kyK k) || (vs.any fun kv => decide (kv.1 = kyK k))) = (match eqK k' k with
      | true => true
      | false => anyD us k)
    rw [KRels.any t, eqK_eq]
    generalize decide (kyK k' = kyK k) = b
    cases b <;> rfl
theorem KRels.map {k : Ky} {w : U} {y : V} (rw' : VRel G ι H w y) : ∀ {us : List (Ky × U)} {vs : List (Key × V)}, KRels G ι H us vs → KRels G ι H (mapD us k w) (vs.map fun kv => if kv.1 = kyK k then (kv.1, y) else kv)
  | _, _, .nil => .nil
  | (k', u') :: us, (_, v') :: vs, .cons o r t => by
    unfold mapD
    rw [eqK_eq, List.map_cons]
    by_cases hk : kyK k' = kyK k
    · rw [decide_eq_true hk, if_pos hk]
      exact .cons o rw' (KRels.map rw' t)
    · rw [decide_eq_false hk, if_neg hk]
      exact .cons o r (KRels.map rw' t)
theorem KRels.append {us ws : List (Ky × U)} {vs ys : List (Key × V)} (a : KRels G ι H us vs) (b : KRels G ι H ws ys) : KRels G ι H (us ++ ws) (vs ++ ys) := by
  induction a with
  | nil => exact b
  | cons o r _ ih => exact .cons o r ih
theorem KRels.put {k : Ky} {w : U} {y : V} {us : List (Ky × U)} {vs : List (Key × V)} (o : OkK k) (rw' : VRel G ι H w y) (t : KRels G ι H us vs) : KRels G ι H (putD us k w) (putK vs (kyK k) y) := by
  unfold putD putK
  rw [← t.any]
  cases h : vs.any fun kv => decide (kv.1 = kyK k) with
  | true =>
    rw [if_pos rfl]
    exact t.map rw'
  | false =>
    rw [if_neg Bool.false_ne_true]
    exact t.append (.cons o rw' .nil)
end
def opIxA (u w : U) (h : Hs) : Option (U × Hs) := match u with
  | .ref a => match h.get a with
    | some (.dic kvs) => match toKey w with
      | some k => match getD kvs k with
        | some v => some (v, h)
        | none => none
      | none => none
    | _ => opIx u w h
  | _ => opIx u w h
section
variable {X : Cx} {G : Wd} {W : L2.St → XK} {pos : Pos} {a b : Expr} {ma mb : EM}
theorem atI_rel {ι : List Addr} {H : Hp} {us : List U} {vs : List V} {i : Int} {u : U} (r : VRels G ι H us vs) (e : atI us i = some u) : ∃ v, atI vs i = some v ∧ VRel G ι H u v := by
  unfold atI at e ⊢
  rw [← r.length]
  cases ej : ixN us.length i with
  | none =>
    rw [ej] at e
    cases e
  | some j =>
    rw [ej] at e
    exact r.get.1 u e
theorem ix_dict (hu : X.A.units + 1 < cLine) : IxR X (fun x y H Q => ∃ a v, x = .ref a ∧ DGet H a y (some v) ∧ Q v H) := by
  intro value slice pins s σ H x y v u Q I rx ry h hs
  obtain ⟨a, z, rfl, g, q⟩ := h
  obtain rfl : v = Value.ref a := rx
  exact tail_any (dict_typeIs I g) PySem.F.slot_dict_getitem.lookup (d_getItem hu I g ry fun w' s3 I3 rw' => ⟨z, H, I3, rw', q⟩) hs
theorem s_ix (hk : G.K = X.K) (hu : X.A.units + 1 < cLine) (ha : SE X G W a ma) (hb : SE X G W b mb) (hs : PlainIx b := by intro _ _; rfl) : SE X G W (.Subscript a b pos) (mBin opIxA ma mb) :=
  (pe_ix (ix_seq.or (ix_dict hu)) ha hb hs).imp fun σ H Q q => t_bin (fun ι h H u w x y Q R r1 r2 q => by
    have seq : AftO G (VRel G) ι H Q (opIx u w h) → rIx X.K x y H Q := fun q => by
      unfold opIx at q
      cases u with
      | str l =>
        cases w with
        | int i =>
          cases r1 with
          | str _ o =>
            cases r2
            simp only at q
            cases hf : fits l.length with
            | false =>
              simp only [hf] at q
              exact q.elim
            | true =>
              simp only [hf] at q
              cases e : atI l i with
              | none =>
                simp only [e] at q
                exact q.elim
              | some c =>
                simp only [e] at q
                refine .inr (.inr ⟨_, i, c, rfl, rfl, by have := fits_le hf; simpa [Str.length] using this, by show atI ((S l).cps.toList) i = _; simpa using e, q.now R (.str [c] fun d hd => ?_)⟩)
                have : d = c := by simpa using hd
                rw [this]
                unfold atI at e
                cases ej : ixN l.length i with
                | none =>
                  rw [ej] at e
                  cases e
                | some j =>
                  rw [ej] at e
                  exact o c (List.mem_of_getElem? e)
        | _ => exact q.elim
      | tup xs =>
        cases w with
        | int i =>
          cases r1 with
          | tup ht s =>
            cases r2
            simp only at q
            cases e : atI xs i with
            | none =>
              simp only [e] at q
              exact q.elim
            | some v =>
              simp only [e] at q
              obtain ⟨z, e1, e2⟩ := atI_rel s e
              exact .inr (.inl ⟨_, _, i, z, rfl, rfl, by rw [← hk]; exact ht, e1, q.now R e2⟩)
        | _ => exact q.elim
      | ref j =>
        simp only at q
        cases eo : h.get j with
        | none =>
          simp only [eo] at q
          exact q.elim
        | some ob =>
          simp only [eo] at q
          cases ob with
          | lst xs =>
            cases w with
            | int i =>
              simp only at q
              cases e : atI xs i with
              | none =>
                simp only [e] at q
                exact q.elim
              | some v =>
                simp only [e] at q
                obtain ⟨a, ho, e1, e2, e3, e4⟩ := R.at eo r1
                cases e4 with
                | lst s =>
                  obtain ⟨z, f1, f2⟩ := atI_rel s e
                  cases r2
                  exact .inl ⟨a, _, i, z, e1, rfl, .inl (.inl e3), f1, q.now R f2⟩
            | _ => exact q.elim
          | _ => exact q.elim
      | _ => exact q.elim
    cases u with
    | ref j =>
      cases eo : h.get j with
      | none =>
        unfold opIxA at q
        simp only [eo] at q
        exact .inl (seq q)
      | some ob =>
        unfold opIxA at q
        simp only [eo] at q
        cases ob with
        | dic kvs =>
          simp only at q
          cases ek : toKey w with
          | none =>
            simp only [ek] at q
            exact q.elim
          | some k =>
            simp only [ek] at q
            cases eg : getD kvs k with
            | none =>
              simp only [eg] at q
              exact q.elim
            | some v =>
              simp only [eg] at q
              obtain ⟨a, ho, e1, e2, e3, e4⟩ := R.at eo r1
              cases e4 with
              | @dic _ ys s =>
                obtain ⟨z, f1, f2⟩ := (KRels.look (k := k) s).1 v eg
                obtain ⟨ey, _⟩ := toKey_rel r2 ek
                exact .inr ⟨a, z, e1, by rw [ey, ← f1]; exact DGet.k e3, q.now R f2⟩
        | lst xs => exact .inl (seq q)
        | ins c fs => exact .inl (seq q)
    | _ => exact .inl (seq q)) q
end
/-! ### in, of dicts too -/
def opInA (neg : Bool) (u w : U) (h : Hs) : Option (U × Hs) := match w with
  | .ref a => match h.get a with
    | some (.dic kvs) => match toKey u with
      | some k => some (.bl (neg != (getD kvs k).isSome), h)
      | none => none
    | _ => if neg then opNotIn u w h else opIn u w h
  | _ => if neg then opNotIn u w h else opIn u w h
section
variable {X : Cx} {G : Wd}
theorem op_din (hu : X.A.units + 1 < cLine) : OpR X (compareOp .In) (fun x y H Q => ∃ a o, y = .ref a ∧ DGet H a x o ∧ Q (.bl o.isSome) H) := by
  intro pins s σ H x y v u Q I rx ry h
  obtain ⟨a, o, rfl, g, q⟩ := h
  obtain rfl : u = Value.ref a := ry
  exact d_in hu I g rx fun s3 I3 => ⟨.bl o.isSome, H, I3, rfl, q⟩
theorem op_dnin (hu : X.A.units + 1 < cLine) : OpR X (compareOp .NotIn) (fun x y H Q => ∃ a o, y = .ref a ∧ DGet H a x o ∧ Q (.bl (!o.isSome)) H) := by
  intro pins s σ H x y v u Q I rx ry h
  obtain ⟨a, o, rfl, g, q⟩ := h
  obtain rfl : u = Value.ref a := ry
  exact d_notIn hu I g rx fun s3 I3 => ⟨.bl (!o.isSome), H, I3, rfl, q⟩
theorem dic_in {ι : List Addr} {h : Hs} {H : Hp} {u : U} {x y : V} {j : Nat} {kvs : List (Ky × U)} {k : Ky} (R : Rep G ι h H) (r1 : VRel G ι H u x) (r2 : VRel G ι H (.ref j) y) (eo : h.get j = some (.dic kvs)) (ek : toKey u = some k) :
    ∃ a o, y = .ref a ∧ DGet H a x o ∧ o.isSome = (getD kvs k).isSome := by
  obtain ⟨a, ho, e1, e2, e3, e4⟩ := R.at eo r2
  cases e4 with
  | @dic _ ys s =>
    obtain ⟨ey, _⟩ := toKey_rel r1 ek
    refine ⟨a, valV ys (kyK k), e1, by rw [ey]; exact DGet.k e3, ?_⟩
    obtain ⟨h1, h2⟩ := KRels.look (k := k) s
    cases eg : getD kvs k with
    | none =>
      rw [h2 eg]
      rfl
    | some v =>
      obtain ⟨z, f1, _⟩ := h1 v eg
      rw [f1] <;> rfl
theorem o_inA (hk : G.K = X.K) (hu : X.A.units + 1 < cLine) : OpS X G (compareOp .In) (opInA false) := by
  obtain ⟨r, hr, ho⟩ := o_in (X := X) (G := G) hk
  refine ⟨_, hr.or (op_din hu), fun ι h H u w x y Q R r1 r2 q => ?_⟩
  unfold opInA at q
  cases w with
  | ref j =>
    simp only at q
    cases eo : h.get j with
    | none =>
      simp only [eo] at q
      exact .inl (ho ι h H u _ x y Q R r1 r2 q)
    | some ob =>
      simp only [eo] at q
      cases ob with
      | dic kvs =>
        simp only at q
        cases ek : toKey u with
        | none =>
          simp only [ek] at q
          exact q.elim
        | some k =>
          simp only [ek] at q
          obtain ⟨a, o, e1, e2, e3⟩ := dic_in R r1 r2 eo ek
          refine .inr ⟨a, o, e1, e2, ?_⟩
          rw [e3]
          have z := q.now R (.bl _)
          simpa using z
      | lst xs => exact .inl (ho ι h H u _ x y Q R r1 r2 q)
      | ins c fs => exact .inl (ho ι h H u _ x y Q R r1 r2 q)
  | _ => exact .inl (ho ι h H u _ x y Q R r1 r2 q)
theorem o_notInA (hk : G.K = X.K) (hu : X.A.units + 1 < cLine) : OpS X G (compareOp .NotIn) (opInA true) := by
  obtain ⟨r, hr, ho⟩ := o_notIn (X := X) (G := G) hk
  refine ⟨_, hr.or (op_dnin hu), fun ι h H u w x y Q R r1 r2 q => ?_⟩
  unfold opInA at q
  cases w with
  | ref j =>
    simp only at q
    cases eo : h.get j with
    | none =>
      simp only [eo] at q
      exact .inl (ho ι h H u _ x y Q R r1 r2 q)
    | some ob =>
      simp only [eo] at q
      cases ob with
      | dic kvs =>
        simp only at q
        cases ek : toKey u with
        | none =>
          simp only [ek] at q
          exact q.elim
        | some k =>
          simp only [ek] at q
          obtain ⟨a, o, e1, e2, e3⟩ := dic_in R r1 r2 eo ek
          refine .inr ⟨a, o, e1, e2, ?_⟩
          rw [e3]
          have z := q.now R (.bl _)
          simpa using z
      | lst xs => exact .inl (ho ι h H u _ x y Q R r1 r2 q)
      | ins c fs => exact .inl (ho ι h H u _ x y Q R r1 r2 q)
  | _ => exact .inl (ho ι h H u _ x y Q R r1 r2 q)
end
end Sm

set_option Elab.async false
set_option linter.all false
set_option maxRecDepth 100000
set_option maxHeartbeats 4000000
/-! Sim, part 12: slices, dict displays, subscript and attribute targets, dicts of the module. -/
namespace Sm
open PySem PySem.Spec PyProof.Rows L2

/-! ### slices -/
def sIxU (n d : Nat) : Option Int → Nat := HT.sIx n d
def cut {α : Type} (xs : List α) (lo hi : Option Int) : List α := (xs.drop (HT.sIx xs.length 0 lo)).take (HT.sIx xs.length xs.length hi - HT.sIx xs.length 0 lo)
abbrev PM := Sl → Hs → R (Option Int)
def mNoP : PM := fun _ h => .ok none h
def mPart (m : EM) : PM := fun τ h => (m τ h).bind fun u h1 => match u with
  | .int i => .ok (some i) h1
  | _ => .no
def tP (G : Wd) (W : L2.St → XK) (m : PM) : TO := fun σ H Q => ∃ τ ι h, SRel G ι H τ σ ∧ Rep G ι h H ∧ Aft G EqR (W σ) ι H Q (m τ h)
def opSl (u : U) (lo hi : Option Int) (h : Hs) : Option (U × Hs) := match u with
  | .str l => match fits l.length with
    | true => some (.str (cut l lo hi), h)
    | false => none
  | .tup xs => some (.tup (cut xs lo hi), h)
  | .ref i => match h.get i with
    | some (.lst xs) => some (.ref h.n, h.new (.lst (cut xs lo hi)))
    | _ => none
  | _ => none
def mSlice (a : EM) (lo hi : PM) : EM := fun τ h => (a τ h).bind fun u h1 => (lo τ h1).bind fun l h2 => (hi τ h2).bind fun r h3 => .of (opSl u l r h3)
section
variable {X : Cx} {G : Wd} {W : L2.St → XK} {pos p2 : Pos} {e o i : Expr} {m mo mi : EM} {lo hi : Option Expr} {pl ph : PM}
theorem p_none : PO X none (tP G W mNoP) := ⟨fun pins s σ H Q I ⟨τ, ι, h, sr, R, q⟩ => po_none.run pins s σ H Q I (q.now R rfl)⟩
theorem p_some (he : SE X G W e m) : PO X (some e) (tP G W (mPart m)) := ⟨fun pins s σ H Q I ⟨τ, ι, h, sr, R, q⟩ => (po_some he).run pins s σ H Q I ⟨τ, ι, h, sr, R, q.bind fun ι1 H1 u h1 v E1 R1 r1 q1 => by
  cases u with
  | int i =>
    cases r1
    exact ⟨i, rfl, q1.now R1 rfl⟩
  | _ => exact q1.elim⟩⟩
theorem VRels.cut {ι : List Addr} {H : Hp} {us : List U} {vs : List V} {lo hi : Option Int} (r : VRels G ι H us vs) : VRels G ι H (Sm.cut us lo hi) (cutV vs lo hi) := by
  unfold Sm.cut cutV
  rw [← r.length]
  exact (VRels.split (VRels.split r).2).1
theorem cut_whole {α : Type} {xs : List α} {lo hi : Option Int} (h1 : HT.sIx xs.length 0 lo = 0) (h2 : HT.sIx xs.length xs.length hi = xs.length) : cut xs lo hi = xs := by
  unfold cut
  rw [h1, h2]
  simp
theorem s_slice (hk : G.K = X.K) (he : SE X G W e m) (hl : PO X lo (tP G W pl)) (hh : PO X hi (tP G W ph)) : SE X G W (.Subscript e (.Slice lo hi none p2) pos) (mSlice m pl ph) :=
  (pe_slice (sl_list.or (sl_str.or sl_tupA)) he hl hh).imp fun σ H Q ⟨τ, ι, h, sr, R, q⟩ => ⟨τ, ι, h, sr, R, q.bind fun ι1 H1 u h1 x E1 R1 r1 q1 =>
    ⟨τ, ι1, h1, sr.ext E1, R1, q1.bind fun ι2 H2 a h2 b E2 R2 e2 q2 => by
      cases e2
      exact ⟨τ, ι2, h2, (sr.ext E1).ext E2, R2, q2.bind fun ι3 H3 c h3 d E3 R3 e3 q3 => by
        cases e3
        have q3 := q3.of
        have rx := (r1.ext E2).ext E3
        unfold opSl at q3
        cases u with
        | str l =>
          simp only at q3
          cases hf : fits l.length with
          | false =>
            simp only [hf] at q3
            exact q3.elim
          | true =>
            simp only [hf] at q3
            cases rx with
            | str _ o =>
              refine .inr (.inl ⟨_, rfl, by have := fits_le hf; simpa [Str.length] using this, ?_⟩)
              have e : cutS (S l) a c = S (Sm.cut l a c) := by
                unfold cutS Sm.cut
                simp [Str.length]
              rw [e]
              exact q3.now R3 (.str _ fun k hk => o k (List.mem_of_mem_drop (List.mem_of_mem_take hk)))
        | tup xs =>
          cases rx with
          | @tup _ p vs ht s =>
            have q3 : AftO G (VRel G) ι3 H3 Q (some (.tup (Sm.cut xs a c), h3)) := q3
            refine .inr (.inr ⟨p, vs, rfl, by rw [← hk]; exact ht, fun ⟨z1, z2⟩ => ?_, fun _ t hn => ?_⟩)
            · rw [← s.length] at z1 z2
              rw [cut_whole z1 z2] at q3
              exact q3.now R3 (.tup ht s)
            · exact q3 _ _ _ (Ext.fresh hn) (R3.fresh hn) (.tup (.inl (.inl upd_same)) (VRels.ext (Ext.fresh hn) s.cut))
        | ref j =>
          simp only at q3
          cases eo : h3.get j with
          | none =>
            simp only [eo] at q3
            exact q3.elim
          | some ob =>
            simp only [eo] at q3
            cases ob with
            | lst xs =>
              obtain ⟨p, ho, e1, e2, e3, e4⟩ := R3.at eo rx
              cases e4 with
              | @lst _ vs s => exact .inl ⟨p, vs, e1, .inl (.inl e3), fun t hn => q3 _ _ _ (Ext.new hn) (R3.new hn (.lst s.cut)) (VRel.fresh_ref R3)⟩
            | _ => exact q3.elim
        | _ => exact q3.elim⟩⟩⟩
/-! ### subscripts as targets -/
def opPut (u w v : U) (h : Hs) : Option Hs := match u with
  | .ref a => match h.get a with
    | some (.lst xs) => match w with
      | .int i => match ixN xs.length i with
        | some j => some (h.put a (.lst (xs.set j v)))
        | none => none
      | _ => none
    | some (.dic kvs) => match toKey w with
      | some k => match fits (kvs.length + 1) with
        | true => some (h.put a (.dic (putD kvs k v)))
        | false => none
      | none => none
    | _ => none
  | _ => none
/-- what raises nothing: an expression as a value -/
def valM (m : EM) : Sl → Hs → Option (U × Hs) := fun τ h => match m τ h with
  | .ok u h1 => some (u, h1)
  | _ => none
def gSubU (mo mi : EM) : GM := fun u τ h => match mo τ h with
  | .ok a h1 => match mi τ h1 with
    | .ok w h2 => match opPut a w u h2 with
      | some h3 => some (τ, h3)
      | none => none
    | _ => none
  | _ => none
theorem PSet.or {t t' : TSet} (h : PSet X t) (h' : PSet X t') : PSet X (fun o i v H Q => t o i v H Q ∨ t' o i v H Q) := by
  intro pins s σ H o i v ov iv u Q I r1 r2 r3 q
  rcases q with q | q
  · exact h pins s σ H o i v ov iv u Q I r1 r2 r3 q
  · exact h' pins s σ H o i v ov iv u Q I r1 r2 r3 q
theorem VRels.set {ι : List Addr} {H : Hp} {u : U} {x : V} (rx : VRel G ι H u x) : ∀ {us : List U} {vs : List V} (j : Nat), VRels G ι H us vs → VRels G ι H (us.set j u) (vs.set j x)
  | _, _, _, .nil => .nil
  | _, _, 0, .cons _ t => .cons rx t
  | _, _, j + 1, .cons a t => .cons a (VRels.set rx j t)
theorem put_rel {ι : List Addr} {h h' : Hs} {H : Hp} {u w v : U} {x y z : V} {Q : Hp → Prop} (R : Rep G ι h H) (r1 : VRel G ι H u x) (r2 : VRel G ι H w y) (r3 : VRel G ι H v z) (e : opPut u w v h = some h')
    (k : ∀ H', Ext ι H ι H' → Rep G ι h' H' → Q H') : rSetL x y z H Q ∨ rSetD x y z H Q := by
  unfold opPut at e
  cases u with
  | ref i =>
    simp only at e
    cases eo : h.get i with
    | none =>
      simp only [eo] at e
      cases e
    | some ob =>
      simp only [eo] at e
      obtain ⟨a, ho, e1, e2, e3, e4⟩ := R.at eo r1
      cases ob with
      | lst xs =>
        cases w with
        | int j =>
          simp only at e
          cases ej : ixN xs.length j with
          | none =>
            simp only [ej] at e
            cases e
          | some n =>
            simp only [ej] at e
            cases e
            cases e4 with
            | @lst _ vs s =>
              cases r2
              exact .inl ⟨a, vs, j, n, e1, rfl, e3, by rw [← s.length]; exact ej, k _ (R.extPut e2) (R.put e2 (.lst (s.set r3 n)))⟩
        | _ => cases e
      | dic kvs =>
        simp only at e
        cases ek : toKey w with
        | none =>
          simp only [ek] at e
          cases e
        | some n =>
          simp only [ek] at e
          cases hf : fits (kvs.length + 1) with
          | false =>
            simp only [hf] at e
            cases e
          | true =>
            simp only [hf] at e
            cases e
            cases e4 with
            | @dic _ vs s =>
              obtain ⟨ey, ok⟩ := toKey_rel r2 ek
              have hl := fits_le hf
              exact .inr ⟨a, _, e1, by rw [ey]; exact DPut.k e3 (by rw [← s.length]; omega), k _ (R.extPut e2) (R.put e2 (.dic (s.put ok r3)))⟩
      | ins c fs => cases e
  | _ => cases e
theorem g_sub (hu : X.A.units + 1 < cLine) (ho : SE X G W0 o mo) (hi : SE X G W0 i mi)
    (ha : ∀ v, assign (.Subscript o i pos) X.env v = (do
      let ov ← holding [v] (eval o X.env)
      let iv ← holding [v, ov] (eval i X.env)
      standAt pos
      holding [v, ov, iv] (setItem ov iv v)
      release [v, ov, iv] []) := by intro _; rfl) : SG X G (.Subscript o i pos) (gSubU mo mi) := (pg_sub ho hi (PSet.or set_list (set_dict hu)) ha).imp fun v σ H Q ⟨u, τ, ι, h, sr, R, r, q⟩ => by
  unfold gSubU at q
  refine ⟨τ, ι, h, sr, R, ?_⟩
  cases em : mo τ h with
  | no =>
    simp only [em] at q
    exact q.elim
  | err x k =>
    simp only [em] at q
    exact q.elim
  | ok a h1 =>
    simp only [em] at q
    intro ι1 H1 x E1 R1 r1
    refine ⟨τ, ι1, h1, sr.ext E1, R1, ?_⟩
    cases en : mi τ h1 with
    | no =>
      simp only [en] at q
      exact q.elim
    | err x k =>
      simp only [en] at q
      exact q.elim
    | ok w h2 =>
      simp only [en] at q
      intro ι2 H2 y E2 R2 r2
      cases ep : opPut a w u h2 with
      | none =>
        simp only [ep] at q
        exact q.elim
      | some h3 =>
        simp only [ep] at q
        exact put_rel R2 (r1.ext E2) r2 ((r.ext E1).ext E2) ep fun H' E3 R3 => q ι2 H' σ ((E1.trans E2).trans E3) R3 (((sr.ext E1).ext E2).ext E3)
/-- attributes as targets -/
def gFldU (f : Nat) (cs : List Nat) (mo : EM) : GM := fun u τ h => match mo τ h with
  | .ok (.ref i) h1 => match putFld f cs h1 i u with
    | some h2 => some (τ, h2)
    | none => none
  | _ => none
def gFldV (K : PySem.W.Frag) (f : Str) (to : TE) : TG := fun v σ H Q => to σ H fun x H1 => ∃ a C dx fs, x = .ref a ∧ H1 a = some (.ins C dx fs) ∧ Cls K C ∧ NoAttr K C f ∧ fs.length < 1000 ∧ Q σ (upd H1 a (.ins C dx (putF f v fs)))
theorem pg_fld {f : Str} {to : TE} (ho : PE X o to) : PG X (.Attribute o f pos) (gFldV X.K f to) := by
  refine ⟨fun pins s σ H v u Q I r h => ?_⟩
  refine PySem.W.kas_attr (thn (ho.run pins s σ H _ I h) fun ov s2 ⟨x, H2, I2, rx, a, C, dx, fs, ex, ea, c, n, l, q2⟩ => ?_)
  subst ex
  obtain rfl : ov = Value.ref a := rx
  exact setattr_ok I2 ea c n l r fun s3 I3 => ⟨σ, _, I3, q2⟩
theorem g_fld (f : Nat) {fn : Str} {cs : List Nat} (hn : fn = G.nm f) (hk : G.K = X.K) (ha : NoA G f cs) (ho : SE X G W0 o mo) : SG X G (.Attribute o fn pos) (gFldU f cs mo) := by
  subst hn
  refine (pg_fld ho).imp fun v σ H Q ⟨u, τ, ι, h, sr, R, r, q⟩ => ?_
  unfold gFldU at q
  refine ⟨τ, ι, h, sr, R, ?_⟩
  cases em : mo τ h with
  | no =>
    simp only [em] at q
    exact q.elim
  | err x k =>
    simp only [em] at q
    exact q.elim
  | ok a h1 =>
    simp only [em] at q
    intro ι1 H1 x E1 R1 r1
    cases a with
    | ref i =>
      simp only at q
      cases ep : putFld f cs h1 i u with
      | none =>
        simp only [ep] at q
        exact q.elim
      | some h2 =>
        simp only [ep] at q
        obtain ⟨a, C, dx, vs, e1, e2, _, e3, e4, e5, e6, e7⟩ := put_fld ha R1 ep (r.ext E1) r1
        exact ⟨a, C, dx, vs, e1, e2, by rw [← hk]; exact e3, by rw [← hk]; exact e4, e5, q _ _ _ (E1.trans e6) e7 ((sr.ext E1).ext e6)⟩
    | _ => exact q.elim
end
/-! ### dict displays -/
abbrev DM := Sl → Hs → R (List (U × U))
def mPnil : DM := fun _ h => .ok [] h
def mPcons (k v : EM) (r : DM) : DM := fun τ h => (k τ h).bind fun x h1 => (v τ h1).bind fun y h2 => (r τ h2).bind fun ps h3 => .ok ((x, y) :: ps) h3
def keysOf : List (U × U) → Option (List (Ky × U))
  | [] => some []
  | (x, y) :: r => match toKey x, keysOf r with
    | some k, some l => some ((k, y) :: l)
    | _, _ => none
def putAll : List (Ky × U) → List (Ky × U) → List (Ky × U)
  | kvs, [] => kvs
  | kvs, (k, v) :: r => putAll (putD kvs k v) r
def mDisp (d : DM) : EM := fun τ h => (d τ h).bind fun ps h1 => match keysOf ps with
  | some l => match Nat.ble l.length 15 with
    | true => .ok (.ref h1.n) (h1.new (.dic (putAll [] l)))
    | false => .no
  | none => .no
inductive PRels (G : Wd) (ι : List Addr) (H : Hp) : List (U × U) → List (V × V) → Prop
  | nil : PRels G ι H [] []
  | cons {x y a b us vs} : VRel G ι H x a → VRel G ι H y b → PRels G ι H us vs → PRels G ι H ((x, y) :: us) ((a, b) :: vs)
section
variable {X : Cx} {G : Wd} {W : L2.St → XK} {pos : Pos}
/-- pairs and the trees that read them -/
def PairsS (G : Wd) (W : L2.St → XK) (trs : List (TE × TE)) (d : DM) : Prop := ∀ (σ : L2.St) (H : Hp) (Q : List (V × V) → Hp → Prop), (∃ τ ι h, SRel G ι H τ σ ∧ Rep G ι h H ∧ Aft G (PRels G) (W σ) ι H Q (d τ h)) → tPairs trs σ H Q
theorem PRels.ext {ι ι' : List Addr} {H H' : Hp} (E : Ext ι H ι' H') {us : List (U × U)} {vs : List (V × V)} (r : PRels G ι H us vs) : PRels G ι' H' us vs := by
  induction r with
  | nil => exact .nil
  | cons a b _ ih => exact .cons (a.ext E) (b.ext E) ih
structure SD (X : Cx) (G : Wd) (W : L2.St → XK) (pos : Pos) (keys : List (Option Expr)) (values : List Expr) (d : DM) : Prop where
  ex : ∃ trs, PPs X pos keys values trs ∧ PairsS G W trs d
theorem d_nil : SD X G W pos [] [] mPnil := ⟨[], pps_nil, fun σ H Q ⟨τ, ι, h, sr, R, q⟩ => q.now R .nil⟩
theorem d_cons {k v : Expr} {ks : List (Option Expr)} {vs : List Expr} {mk mv : EM} {d : DM} (hk : SE X G W k mk) (hv : SE X G W v mv) (hr : SD X G W pos ks vs d) : SD X G W pos (some k :: ks) (v :: vs) (mPcons mk mv d) := by
  obtain ⟨trs, p, hp⟩ := hr
  refine ⟨_, pps_cons hk hv p, fun σ H Q ⟨τ, ι, h, sr, R, q⟩ => ?_⟩
  refine ⟨τ, ι, h, sr, R, q.bind fun ι1 H1 u h1 x E1 R1 r1 q1 => ⟨τ, ι1, h1, sr.ext E1, R1, q1.bind fun ι2 H2 w h2 y E2 R2 r2 q2 => ?_⟩⟩
  exact hp σ H2 _ ⟨τ, ι2, h2, (sr.ext E1).ext E2, R2, q2.bind fun ι3 H3 ps h3 vs3 E3 R3 r3 q3 => q3.now R3 (.cons ((r1.ext E2).ext E3) (r2.ext E3) r3)⟩
theorem keysOf_rel {ι : List Addr} {H : Hp} : ∀ {ps : List (U × U)} {vs : List (V × V)} {l : List (Ky × U)}, PRels G ι H ps vs → keysOf ps = some l → ∃ kvs, KRels G ι H l kvs ∧ vs = kvs.map fun kv => (kV kv.1, kv.2)
  | _, _, l, .nil, e => by
    cases e
    exact ⟨[], .nil, rfl⟩
  | _, _, l, .cons (x := x) (y := y) (us := us) a b t, e => by
    unfold keysOf at e
    cases ex : toKey x with
    | none =>
      simp only [ex] at e
      cases e
    | some k =>
      cases er : keysOf us with
      | none =>
        simp only [ex, er] at e
        cases e
      | some l' =>
        simp only [ex, er] at e
        cases e
        obtain ⟨kvs, h1, h2⟩ := keysOf_rel t er
        obtain ⟨e1, o⟩ := toKey_rel a ex
        exact ⟨_, .cons o b h1, by rw [h2, e1]; rfl⟩
theorem putAll_rel {ι : List Addr} {H : Hp} : ∀ {l acc : List (Ky × U)} {kvs zs : List (Key × V)}, KRels G ι H acc zs → KRels G ι H l kvs → KRels G ι H (putAll acc l) (mergeK zs kvs)
  | _, _, _, _, a, .nil => a
  | _, acc, _, zs, a, .cons (k := k) (u := u) (v := v) (us := us) (vs := vs) o r t => by
    show KRels G ι H (putAll (putD acc k u) us) (mergeK (putK zs (kyK k) v) vs)
    exact putAll_rel (a.put o r) t
theorem s_disp {keys : List (Option Expr)} {values : List Expr} {d : DM} (h : SD X G W pos keys values d) (hall : keys.all (·.isSome) = true := by rfl) (hl : keys.length = values.length := by rfl) (h0 : keys ≠ [] := by intro z; cases z) (h15 : keys.length ≤ 15 := by decide) :
    SE X G W (.Dict keys values pos) (mDisp d) := by
  obtain ⟨trs, p, hp⟩ := h
  refine (pe_disp p hall hl h0 h15).imp fun σ H Q ⟨τ, ι, h, sr, R, q⟩ => fun D hn => ?_
  have EN : Ext ι H ι (upd H D (.dK [])) := Ext.fresh hn
  have hD : D ∉ ι := fun z => (R.ne z).2.2.2.2 hn
  refine hp σ _ _ ⟨τ, ι, h, sr.ext EN, R.fresh hn, ?_⟩
  unfold mDisp at q
  cases ed : d τ h with
  | no =>
    rw [ed] at q
    exact q.elim
  | err x k =>
    rw [ed] at q
    exact fun ι' H' cls dd E R' x => q ι' H' cls dd (EN.trans E) R' x
  | ok ps h1 =>
    rw [ed] at q
    intro ι1 H1 vs E1 R1 r1
    have q1 : Aft G (VRel G) (W σ) ι H Q (match keysOf ps with
      | some l => match Nat.ble l.length 15 with
        | true => .ok (.ref h1.n) (h1.new (.dic (putAll [] l)))
        | false => .no
      | none => .no) := q
    cases ek : keysOf ps with
    | none =>
      simp only [ek] at q1
      exact q1.elim
    | some l =>
      simp only [ek] at q1
      cases hb : Nat.ble l.length 15 with
      | false =>
        simp only [hb] at q1
        exact q1.elim
      | true =>
        simp only [hb] at q1
        obtain ⟨kvs, h2, h3⟩ := keysOf_rel r1 ek
        have hd1 : H1 D = some (.dK []) := E1.kp _ _ upd_same hD fun _ z => nomatch z
        have hD1 : D ∉ ι1 := E1.notin hD upd_same pl_dK
        refine ⟨hd1, kvs, h3, by rw [← h2.length]; exact Nat.le_of_ble_eq_true hb, ?_⟩
        have rel := putAll_rel (acc := []) (zs := []) .nil h2
        have EV := ExtV.over (ι := ι1) (o' := .dK (mergeK [] kvs)) hd1 pl_dK
        have R2 : Rep G ι1 h1 (upd H1 D (.dK (mergeK [] kvs))) := R1.over hD1 hd1 pl_dK
        exact q1 (ι1 ++ [D]) _ (.ref D) (((EN.trans E1).over hn).adopt hn) (R2.adopt hD1 upd_same (.dic (rel.extV EV))) (VRel.fresh_ref R2)
def mDict0 : EM := fun _ h => .ok (.ref h.n) (h.new (.dic []))
theorem s_dict0 : SE X G W (.Dict [] [] pos) mDict0 := pe_dnewK.imp fun σ H Q ⟨τ, ι, h, sr, R, q⟩ => fun p hp => q _ _ _ (Ext.new hp) (R.new hp (.dic .nil)) (VRel.fresh_ref R)
end
end Sm

set_option Elab.async false
set_option linter.all false
set_option maxRecDepth 100000
set_option maxHeartbeats 4000000
/-! Sim, part 13: sum(lists, []). -/
namespace Sm
open PySem PySem.Spec PyProof.Rows L2

theorem args_sum2 (a b : Value) : argsOk "sum" ⟨[a, b], []⟩ := by unfold argsOk; kernel_rfl
theorem sub_list_str : isSubtype (.type "list") (.type "str") = pure false := by rw [isSubtype_type]; kernel_rfl
theorem sub_list_bytes : isSubtype (.type "list") (.type "bytes") = pure false := by rw [isSubtype_type]; kernel_rfl
theorem sub_list_bytearray : isSubtype (.type "list") (.type "bytearray") = pure false := by rw [isSubtype_type]; kernel_rfl
section
variable {X : Cx} {pins : List (Addr × Obj)} {σ : L2.St} {A : Around} {R : Result → Shared → Prop} {I S a : Addr} {xs : List V} {yss : List (List V)}
theorem fpOk_up {H H' : Hp} {b : Addr} (f : FpOk X pins H b) (hn : H' b = none) : FpOk X pins H' b := ⟨hn, f.2⟩
theorem sum_go (hh : A.in1.handled = none) (hIS : I ≠ S) (hn : xs.length = yss.length) : ∀ (k i : Nat) (s : Shared) (H : Hp) (t : Addr) (acc : List V) (c : Nat), yss.length - i = k → i ≤ yss.length → Inv X pins σ H s → FpOk X pins H I → FpOk X pins H S → s.heap.IsListIter I a i → SqL X.K H a xs →
    s.heap.get? S = some { cls := .type "list", dict := none, data := .seq #[.ref t] c, slots := #[] } → H t = some (.lst acc) → (∀ (j : Nat) (ys : List V), yss[j]? = some ys → ∃ b : Addr, xs[j]? = some (V.ref b) ∧ H b = some (.lst ys)) → acc.length + (yss.drop i).flatten.length ≤ sizeLine →
    (∀ s' H' t', Inv X pins σ H' s' → (∀ b o, H b = some o → H' b = some o) → H' t' = some (.lst (acc ++ (yss.drop i).flatten)) → (k = 0 → t' = t ∧ H' = H) → (k ≠ 0 → H t' = none) → R (.ok (.ret (.ref t'))) s') →
    codeAny (model X.prog X.w) A (.builtin "sum.loop" ⟨[.ref I, .ref S, rawInt 2, rawInt 0], []⟩) R s := by
  intro k
  induction k with
  | zero =>
    intro i s H t acc c hk hi J fI fS hit ha hS ht hy hz hR
    have hin : i = yss.length := by omega
    obtain ⟨its, rv, pl, hzl⟩ := J.list ha
    refine codeAny_builtin F.entry_sum_loop ?_
    rw [Around.under_plainId F.plain_sum_loop _]
    show wpAny _ A.in1 (seqItems? (.ref S) >>= _) _ _ s
    refine wpAny_bind (wpAny_seqItems hS rfl ?_)
    show wpAny _ A.in1 (tryCatch (pyNext (.ref I)) _ >>= _) _ _ s
    obtain ⟨f0, f1, f2, f3, f4, f5⟩ := id fI
    refine wpAny_bind (wpAny_tryCatch (wpAny_pyNext_list_end hh hit pl.isList (by have := rv.length; simp; omega) fun h' eb => ?_))
    have J1 : Inv X pins σ H { s with heap := h' } := J.turned (t' := s.toks) (fun b o hb e => eb b o hb e) f0 f1 f3 f4 f5
    have hd : (yss.drop i).flatten = [] := by rw [hin, List.drop_length]; rfl
    exact wpAny_pure (hR _ H t J1 (fun _ _ e => e) (by rw [hd, List.append_nil]; exact ht) (fun _ => ⟨rfl, rfl⟩) fun z => absurd rfl z)
  | succ k ih =>
    intro i s H t acc c hk hi J fI fS hit ha hS ht hy hz hR
    have hlt : i < yss.length := by omega
    obtain ⟨b, hb1, hb2⟩ := hy i _ (List.getElem?_eq_getElem hlt)
    obtain ⟨its, rv, pl, hzl⟩ := J.list ha
    obtain ⟨u, hu, ru⟩ := rv.get hb1
    obtain rfl : u = Value.ref b := ru
    refine codeAny_builtin F.entry_sum_loop ?_
    rw [Around.under_plainId F.plain_sum_loop _]
    show wpAny _ A.in1 (seqItems? (.ref S) >>= _) _ _ s
    refine wpAny_bind (wpAny_seqItems hS rfl ?_)
    show wpAny _ A.in1 (tryCatch (pyNext (.ref I)) _ >>= _) _ _ s
    obtain ⟨f0, f1, f2, f3, f4, f5⟩ := id fI
    refine wpAny_bind (wpAny_tryCatch (wpAny_pyNext_list_item hit pl.isList (x := .ref b) (by simpa using hu) fun h' hit' sb => ?_))
    have J1 : Inv X pins σ H { s with heap := h' } := J.turned (t' := s.toks) (fun b o hb e => (sb.2 b hb).trans e) f0 f1 f3 f4 f5
    have hS1 : h'.get? S = some { cls := .type "list", dict := none, data := .seq #[.ref t] c, slots := #[] } := (sb.2 S (Ne.symm hIS)).trans hS
    obtain ⟨z1, i1, n1, r1, l1, e1⟩ := J1.lstM ht
    obtain ⟨z2, i2, n2, r2, l2, e2⟩ := J1.lstM hb2
    show wpAny _ A.in1 ((holding [Value.ref b] (binaryOp .Add (.ref t) (.ref b))).attempt >>= _) _ _ _
    have hlen : (yss.drop i).flatten = yss[i] ++ (yss.drop (i + 1)).flatten := by
      rw [List.drop_eq_getElem_cons hlt, List.flatten_cons]
    have hzz : acc.length + yss[i].length ≤ sizeLine := by
      rw [hlen, List.length_append] at hz
      omega
    refine wpAny_bind (wpAny_attempt (wpAny_holding (PySem.P.add_list e1 e2 ?_ (by rw [List.size_toArray, List.size_toArray]; omega))))
    have ea : i1.toArray ++ i2.toArray = (i1 ++ i2).toArray := by simp
    rw [ea]
    have hp : H h'.objs.size = none := J1.fresh
    have J2 : Inv X pins σ (upd H h'.objs.size (.lst (acc ++ yss[i]))) { s with heap := h'.push { cls := .type "list", data := .seq (i1 ++ i2).toArray } } := J1.lnew (t' := s.toks) (r1.append r2) (by rw [List.length_append]; exact hzz)
    show wpAny _ A.in1 (updateSeq S (fun _ => #[.ref h'.objs.size]) >>= _) _ _ _
    have hSp : S ≠ h'.objs.size := Nat.ne_of_lt (Heap.lt_size hS1)
    have hIp : I ≠ h'.objs.size := by
      obtain ⟨o, ho, _⟩ := hit'
      exact Nat.ne_of_lt (Heap.lt_size ho)
    have hS2 : (h'.push { cls := .type "list", data := .seq (i1 ++ i2).toArray }).get? S = some { cls := .type "list", dict := none, data := .seq #[.ref t] c, slots := #[] } := Heap.get?_push_of_some _ hS1
    refine wpAny_bind (wpAny_updateSeq hS2 rfl ?_)
    refine wpAny_bind (wpAny_letGo ?_)
    have hS3 := Heap.get?_update_self (Obj.mapSeq fun _ => #[Value.ref h'.objs.size]) hS2 rfl
    refine wpAny_bind (wpAny_updateSeq hS3 rfl (wpAny_pure ⟨plainId_quiet F.plain_sum_loop _, ?_⟩))
    have hS4 := Heap.get?_update_self (Obj.mapSeq fun _ => #[Value.ref h'.objs.size]) hS3 rfl
    obtain ⟨g0, g1, g2, g3, g4, g5⟩ := id fS
    have nS : upd H h'.objs.size (.lst (acc ++ yss[i])) S = none := by rw [upd_ne hSp]; exact g0
    have nI : upd H h'.objs.size (.lst (acc ++ yss[i])) I = none := by rw [upd_ne hIp]; exact f0
    have kup : ∀ (b' : Addr) (o : Obj), b' ≠ S → (h'.push { cls := .type "list", data := .seq (i1 ++ i2).toArray }).get? b' = some o → (((h'.push { cls := .type "list", data := .seq (i1 ++ i2).toArray }).update S (Obj.mapSeq fun _ => #[Value.ref h'.objs.size])).update S (Obj.mapSeq fun _ => #[Value.ref h'.objs.size])).get? b' = some o := fun b' o hb e =>
      (Heap.get?_update_other _ _ (Ne.symm hb)).trans ((Heap.get?_update_other _ _ (Ne.symm hb)).trans e)
    have J3 := J2.turned (t' := s.toks) kup nS g1 g3 g4 g5
    have mono : ∀ b' o, H b' = some o → upd H h'.objs.size (.lst (acc ++ yss[i])) b' = some o := fun b' o e => by rw [upd_ne (ne_of_none e hp)]; exact e
    have haS : SqL X.K (upd H h'.objs.size (.lst (acc ++ yss[i]))) a xs := by
      rcases ha with (q | ⟨o, q⟩) | q
      · exact .inl (.inl (mono _ _ q))
      · exact .inl (.inr ⟨o, mono _ _ q⟩)
      · exact .inr q
    refine ih (i + 1) _ _ h'.objs.size (acc ++ yss[i]) _ (by omega) hlt J3 (fpOk_up fI nI) (fpOk_up fS nS) (hit'.at fun o e => kup I o hIS (Heap.get?_push_of_some _ e)) haS hS4 upd_same (fun j ys e => ?_) ?_ fun s' H' t' J' m' e' z1 z2 => ?_
    · obtain ⟨b', q1, q2⟩ := hy j ys e
      exact ⟨b', q1, mono _ _ q2⟩
    · rw [hlen, List.length_append] at hz
      rw [List.length_append]
      omega
    · refine hR s' H' t' J' (fun b' o e => m' b' o (mono _ _ e)) (by rw [hlen, ← List.append_assoc]; exact e') (fun z => absurd z (Nat.succ_ne_zero k)) fun _ => ?_
      by_cases hk0 : k = 0
      · rw [(z1 hk0).1]
        exact hp
      · have q := z2 hk0
        by_cases e : t' = h'.objs.size
        · rw [e]
          exact hp
        · rw [upd_ne e] at q
          exact q
end
/-- sum(xs, z), lists -/
def rSumL (K : PySem.W.Frag) : List V → Hp → VK → Prop := fun vs H Q => ∃ (a z : Addr) (xs zs : List V) (yss : List (List V)), vs = [.ref a, .ref z] ∧ SqL K H a xs ∧ H z = some (.lst zs) ∧ xs.length = yss.length ∧ (∀ (j : Nat) (ys : List V), yss[j]? = some ys → ∃ b : Addr, xs[j]? = some (V.ref b) ∧ H b = some (.lst ys)) ∧
  zs.length + yss.flatten.length ≤ sizeLine ∧ (xs = [] → Q (.ref z) H) ∧ (xs ≠ [] → ∀ t H', (∀ b o, H b = some o → H' b = some o) → H t = none → H' t = some (.lst (zs ++ yss.flatten)) → Q (.ref t) H')
theorem cr_sumL {X : Cx} (hc : X.calm = true) : CallR X (.builtin "sum") (rSumL X.K) := by
  intro pins s σ H vs us Q J r h
  obtain ⟨a, z, xs, zs, yss, rfl, ha, hzz, hn, hy, hsz, q0, q1⟩ := h
  obtain ⟨u1, u2, rfl, r1, r2⟩ := vals2 r
  obtain rfl : u1 = Value.ref a := r1
  obtain rfl : u2 = Value.ref z := r2
  have hh : X.A.in1.handled = none := J.ok.hd hc
  obtain ⟨its, rv, pl, hzl⟩ := J.list ha
  obtain ⟨zz1, i1, n1, rz, l1, e1⟩ := J.lstM hzz
  refine call_function_tree F.kind_sum F.plain_sum F.entry_sum (args_sum2 _ _) ?_
  unfold Builtin.«sum»
  simp only [List.length_cons, List.length_nil]
  rw [if_neg (by decide)]
  refine wpAny_bind (wpAny_of_eq (show Builtin.Builtins.bindParams "sum" ["start"] 0 ⟨[.ref z], []⟩ = pure [some (.ref z)] from rfl) ?_)
  refine wpAny_bind (wpAny_pyIter_list pl.isList ?_)
  have J1 : Inv X pins σ H { s with heap := s.heap.push { cls := .type "list_iterator", data := .fields #[.ref a, .int 0 0] } } := J.kept (t' := s.toks) fun b o e => Heap.get?_push_of_some _ e
  have fI : FpOk X pins H s.heap.objs.size := J.fpOk (Nat.le_refl _) J.fresh
  have e2 : (s.heap.push { cls := .type "list_iterator", data := .fields #[.ref a, .int 0 0] }).get? z = some { cls := .type "list", data := .seq i1.toArray n1 } := Heap.get?_push_of_some _ e1
  refine wpAny_bind (wpAny_pure ?_)
  have ty : ∀ g d t os, (⟨s.heap.push { cls := .type "list_iterator", data := .fields #[.ref a, .int 0 0] }, g, d, t, os⟩ : Shared).TypeIs (.ref z) "list" := fun _ _ _ _ => ⟨_, e2, rfl⟩
  simp only [List.forIn_cons, List.forIn_nil]
  refine wpAny_bind (wpAny_bind (wpAny_bind (wpAny_isInstance (T := "list") (b := false) (ty _ _ _ _) sub_list_str ?_)))
  simp only [Bool.false_eq_true, if_false]
  refine wpAny_pure (wpAny_bind (wpAny_bind (wpAny_isInstance (T := "list") (b := false) (ty _ _ _ _) sub_list_bytes ?_)))
  simp only [Bool.false_eq_true, if_false]
  refine wpAny_pure (wpAny_bind (wpAny_bind (wpAny_isInstance (T := "list") (b := false) (ty _ _ _ _) sub_list_bytearray ?_)))
  simp only [Bool.false_eq_true, if_false]
  refine wpAny_pure (wpAny_pure ?_)
  refine wpAny_bind (wpAny_newObj_type ?_)
  have sz1 : (s.heap.push { cls := .type "list_iterator", data := .fields #[.ref a, .int 0 0] }).objs.size = s.heap.objs.size + 1 := Heap.size_push _ _
  have J2 : Inv X pins σ H { s with heap := (s.heap.push { cls := .type "list_iterator", data := .fields #[.ref a, .int 0 0] }).push { cls := .type "list", data := .seq #[.ref z] } } := J1.kept (t' := s.toks) fun b o e => Heap.get?_push_of_some _ e
  have fS : FpOk X pins H (s.heap.push { cls := .type "list_iterator", data := .fields #[.ref a, .int 0 0] }).objs.size := J1.fpOk (Nat.le_refl _) J1.fresh
  refine wpAny_pure ⟨plainId_quiet F.plain_sum_loop _, ?_⟩
  refine sum_go (A := X.A) hh (by rw [sz1]; exact Nat.ne_of_lt (Nat.lt_succ_self _)) hn yss.length 0 _ H z zs _ (by omega) (Nat.zero_le _) J2 fI fS ?_ ha (Heap.get?_push_size _ rfl) hzz hy (by simpa using hsz) fun s' H' t' J' m' e' z1 z2 => ?_
  · exact ⟨_, Heap.get?_push_of_some _ (Heap.get?_push_size _ rfl), rfl, rfl⟩
  · rw [List.drop_zero] at e'
    by_cases hx : xs = []
    · have : yss.length = 0 := by rw [← hn, hx] <;> rfl
      obtain ⟨a1, a2⟩ := z1 this
      subst a1 a2
      exact ⟨.ref t', H', J', rfl, q0 hx⟩
    · have : yss.length ≠ 0 := fun z => hx (List.length_eq_zero_iff.mp (hn.trans z))
      exact ⟨.ref t', H', J', rfl, q1 hx t' H' m' (z2 this) e'⟩
end Sm

set_option Elab.async false
set_option linter.all false
set_option maxRecDepth 100000
set_option maxHeartbeats 4000000
/-! Sim, part 14: built-in calls, methods of lists and texts, isinstance. -/
namespace Sm
open PySem PySem.Spec PyProof.Rows L2

/-! ### calls -/
def CalS (X : Cx) (G : Wd) (fv : Value) (f : List U → Hs → Option (U × Hs)) : Prop :=
  ∃ r, CallR X fv r ∧ ∀ ι h H us vs Q, Rep G ι h H → VRels G ι H us vs → AftO G (VRel G) ι H Q (f us h) → r vs H Q
def mCallB (f : List U → Hs → Option (U × Hs)) (a : AM) : EM := fun τ h => (a τ h).bind fun us h1 => .of (f us h1)
def MetS (X : Cx) (G : Wd) (id : String) (f : U → List U → Hs → Option (U × Hs)) : Prop :=
  ∃ r, MtR X id r ∧ ∀ ι h H u us x vs Q, Rep G ι h H → VRel G ι H u x → VRels G ι H us vs → AftO G (VRel G) ι H Q (f u us h) → r x vs H Q
/-- the receiver: a list, a text -/
def isLstU (u : U) (h : Hs) : Bool := match u with
  | .ref i => match h.get i with
    | some (.lst _) => true
    | _ => false
  | _ => false
def isStrU (u : U) (h : Hs) : Bool := match u with
  | .str _ => true
  | _ => false
def mMetB (ty : U → Hs → Bool) (f : U → List U → Hs → Option (U × Hs)) (o : EM) (a : AM) : EM := fun τ h => (o τ h).bind fun u h1 => match ty u h1 with
  | true => (a τ h1).bind fun us h2 => .of (f u us h2)
  | false => .no
def TyS (K : PySem.W.Frag) (G : Wd) (T : String) (ty : U → Hs → Bool) : Prop := ∀ ι h H u x, Rep G ι h H → VRel G ι H u x → ty u h = true → tyV K T x H
section
variable {X : Cx} {G : Wd} {W : L2.St → XK} {pos p apos : Pos} {e o : Expr} {es : List Expr} {mo : EM} {ms : AM} {x : Str} {f : List U → Hs → Option (U × Hs)} {g : U → List U → Hs → Option (U × Hs)} {id T : String} {name : Str}
theorem s_callB (hf : CalS X G (.builtin id) f) (hg : Gl X x) (hm : X.mg x = none) (hv : bootBuiltins x = some (.builtin id)) (ha : SA X G W (e :: es) ms) (hn : x ≠ "__name__" := by decide) (hdb : (x == ("__debug__" : Str)) = false := by decide)
    (he : starEach (e :: es) X.env = (false, eval e X.env) :: starEach es X.env := by rfl) (hpl : (backTo pos (starEach es X.env)).any (·.1) = false := by rfl) : SE X G W (.Call (.Name x p) (e :: es) [] pos) (mCallB f ms) := by
  obtain ⟨r, hr, hf⟩ := hf
  exact (pe_callB hr hg hm hv ha hn hdb he hpl).imp fun σ H Q ⟨τ, ι, h, sr, R, q⟩ => ⟨τ, ι, h, sr, R, q.bind fun ι1 H1 us h1 vs E1 R1 r1 q1 => hf ι1 h1 H1 us vs Q R1 r1 q1.of⟩
theorem s_callTy (hf : CalS X G (.type T) f) (hg : Gl X x) (hm : X.mg x = none) (hv : bootBuiltins x = some (.type T)) (ha : SA X G W (e :: es) ms) (hn : x ≠ "__name__" := by decide) (hdb : (x == ("__debug__" : Str)) = false := by decide)
    (he : starEach (e :: es) X.env = (false, eval e X.env) :: starEach es X.env := by rfl) (hpl : (backTo pos (starEach es X.env)).any (·.1) = false := by rfl) : SE X G W (.Call (.Name x p) (e :: es) [] pos) (mCallB f ms) := by
  obtain ⟨r, hr, hf⟩ := hf
  exact (pe_callTy hr hg hm hv ha hn hdb he hpl).imp fun σ H Q ⟨τ, ι, h, sr, R, q⟩ => ⟨τ, ι, h, sr, R, q.bind fun ι1 H1 us h1 vs E1 R1 r1 q1 => hf ι1 h1 H1 us vs Q R1 r1 q1.of⟩
theorem s_bm {ty : U → Hs → Bool} (hty : TyS X.K G T ty) (hf : MetS X G id g) (pa : PlainAttrs T) (slot : Slot T name id) (ht : typeOf (.builtin id) = pure (.type "method_descriptor")) (ho : SE X G W o mo) (ha : SA X G W (e :: es) ms)
    (hbase : attributeBase o name X.env (eval o X.env) = eval o X.env := by rfl)
    (hfew : ((backTo pos (starEach (e :: es) X.env)).all (fun x => !x.1) && (backToKw pos (keywordEach [] X.env)).all (fun x => x.1.isSome)
      && decide ((e :: es).length + ([] : List Keyword).length + (if ([] : List Keyword).isEmpty then 0 else 1) < 30)) = true := by rfl)
    (hline : (apos.endLine == pos.line) = true := by rfl) (hs : starEach (e :: es) X.env = (false, eval e X.env) :: starEach es X.env := by rfl) (hplain : (backTo pos (starEach es X.env)).any (·.1) = false := by rfl) :
    SE X G W (.Call (.Attribute o name apos) (e :: es) [] pos) (mMetB ty g mo ms) := by
  obtain ⟨r, hr, hf⟩ := hf
  refine (pe_bm pa slot ht hr ho ha hbase hfew hline hs hplain).imp fun σ H Q ⟨τ, ι, h, sr, R, q⟩ => ⟨τ, ι, h, sr, R, q.bind fun ι1 H1 u h1 v E1 R1 r1 q1 => ?_⟩
  cases ec : ty u h1 with
  | false =>
    simp only [ec] at q1
    exact q1.elim
  | true =>
    simp only [ec] at q1
    exact ⟨hty ι1 h1 H1 u v R1 r1 ec, τ, ι1, h1, sr.ext E1, R1, q1.bind fun ι2 H2 us h2 vs E2 R2 r2 q2 => hf ι2 h2 H2 u us v vs Q R2 (r1.ext E2) r2 q2.of⟩
theorem s_bm0 {ty : U → Hs → Bool} (hty : TyS X.K G T ty) (hf : MetS X G id g) (pa : PlainAttrs T) (slot : Slot T name id) (ht : typeOf (.builtin id) = pure (.type "method_descriptor")) (ho : SE X G W o mo)
    (hbase : attributeBase o name X.env (eval o X.env) = eval o X.env := by rfl) (hline : (apos.endLine == pos.line) = true := by rfl) : SE X G W (.Call (.Attribute o name apos) [] [] pos) (mMetB ty g mo mNil) := by
  obtain ⟨r, hr, hf⟩ := hf
  refine (pe_bm0 pa slot ht hr ho hbase hline).imp fun σ H Q ⟨τ, ι, h, sr, R, q⟩ => ⟨τ, ι, h, sr, R, q.bind fun ι1 H1 u h1 v E1 R1 r1 q1 => ?_⟩
  cases ec : ty u h1 with
  | false =>
    simp only [ec] at q1
    exact q1.elim
  | true =>
    simp only [ec] at q1
    have q2 : Aft G (VRel G) (W σ) ι1 H1 Q (.of (g u [] h1)) := q1
    exact ⟨hty ι1 h1 H1 u v R1 r1 ec, hf ι1 h1 H1 u [] v [] Q R1 r1 .nil q2.of⟩
theorem ty_lst : TyS X.K G "list" isLstU := fun ι h H u x R r e => by
  cases u with
  | ref i =>
    unfold isLstU at e
    cases eo : h.get i with
    | none =>
      simp only [eo] at e
      cases e
    | some ob =>
      simp only [eo] at e
      cases ob with
      | lst xs =>
        obtain ⟨a, ho, e1, e2, e3, e4⟩ := R.at eo r
        subst e1
        cases e4 with
        | lst s => exact .inl ⟨rfl, _, .inl (.inl e3)⟩
      | _ => cases e
  | _ => cases e
theorem ty_str : TyS X.K G "str" isStrU := fun ι h H u x R r e => by
  cases r with
  | str _ _ => rfl
  | _ => cases e
end
/-! ### which -/
def fLen : List U → Hs → Option (U × Hs) := fun us h => match us with
  | [.str l] => pick (fits l.length) (.int (l.length : Nat)) h
  | [.tup xs] => some (.int (xs.length : Nat), h)
  | [.ref i] => match h.get i with
    | some (.lst xs) => some (.int (xs.length : Nat), h)
    | _ => none
  | _ => none
def isDig (c : Nat) : Bool := Nat.ble 48 c && Nat.ble c 57
def allN (p : Nat → Bool) : List Nat → Bool
  | [] => true
  | c :: r => match p c with
    | true => allN p r
    | false => false
theorem allN_iff {p : Nat → Bool} : ∀ {l : List Nat}, allN p l = true ↔ ∀ c ∈ l, p c = true
  | [] => ⟨fun _ _ h => (nomatch h), fun _ => rfl⟩
  | c :: r => by
    unfold allN
    cases e : p c with
    | true =>
      show allN p r = true ↔ _
      rw [allN_iff (l := r)]
      exact ⟨fun h d hd => (List.mem_cons.mp hd).elim (fun z => by rw [z]; exact e) (h d), fun h d hd => h d (List.mem_cons_of_mem _ hd)⟩
    | false => exact ⟨fun h => (nomatch h), fun h => absurd (h c List.mem_cons_self) (by rw [e]; exact Bool.false_ne_true)⟩
/-- int(text): digits, perhaps behind a minus -/
def parse (l : List Nat) : Option Int := match Nat.ble l.length 640 with
  | true => match l with
    | [] => none
    | 45 :: r => match r with
      | [] => none
      | _ :: _ => match allN isDig r with
        | true => some (-((NumText.digitsVal r : Nat) : Int))
        | false => none
    | c :: r => match allN isDig (c :: r) with
      | true => some ((NumText.digitsVal (c :: r) : Nat) : Int)
      | false => none
  | false => none
def fInt : List U → Hs → Option (U × Hs) := fun us h => match us with
  | [.int i] => some (.int i, h)
  | [.str l] => match parse l with
    | some i => some (.int i, h)
    | none => none
  | _ => none
def strI : Int → List Nat
  | .ofNat n => TL.numL n
  | .negSucc n => 45 :: TL.numL (n + 1)
def fStr : List U → Hs → Option (U × Hs) := fun us h => match us with
  | [.int i] => pick (Nat.blt i.natAbs.log2 1920) (.str (strI i)) h
  | _ => none
def fAbs : List U → Hs → Option (U × Hs) := fun us h => match us with
  | [.int i] => some (.int (i.natAbs : Nat), h)
  | _ => none
def bools : List U → Option (List Bool)
  | [] => some []
  | .bl b :: r => match bools r with
    | some l => some (b :: l)
    | none => none
  | _ => none
def allB : List Bool → Bool
  | [] => true
  | b :: r => match b with
    | true => allB r
    | false => false
def fAll : List U → Hs → Option (U × Hs) := fun us h => match us with
  | [.ref i] => match h.get i with
    | some (.lst xs) => match bools xs with
      | some l => some (.bl (allB l), h)
      | none => none
    | _ => none
  | _ => none
def intsU : List U → Option (List Int)
  | [] => some []
  | .int i :: r => match intsU r with
    | some l => some (i :: l)
    | none => none
  | _ => none
def sumZ : List Int → Int
  | [] => 0
  | i :: r => i + sumZ r
def lists (h : Hs) : List U → Option (List (List U))
  | [] => some []
  | .ref i :: r => match h.get i with
    | some (.lst ys) => match lists h r with
      | some l => some (ys :: l)
      | none => none
    | _ => none
  | _ => none
def fSum : List U → Hs → Option (U × Hs) := fun us h => match us with
  | [.ref i] => match h.get i with
    | some (.lst xs) => match intsU xs with
      | some l => some (.int (sumZ l), h)
      | none => none
    | _ => none
  | [.ref i, .ref z] => match h.get i, h.get z with
    | some (.lst xs), some (.lst zs) => match lists h xs with
      | some yss => match fits (zs ++ yss.flatten).length with
        | true => match xs with
          | [] => some (.ref z, h)
          | _ :: _ => some (.ref h.n, h.new (.lst (zs ++ yss.flatten)))
        | false => none
      | none => none
    | _, _ => none
  | _ => none
def fTuple : List U → Hs → Option (U × Hs) := fun us h => match us with
  | [.ref i] => match h.get i with
    | some (.lst xs) => some (.tup xs, h)
    | _ => none
  | [.tup xs] => some (.tup xs, h)
  | _ => none
def keyU : Ky → U
  | .inl i => .int i
  | .inr l => .str l
def fList : List U → Hs → Option (U × Hs) := fun us h => match us with
  | [.ref i] => match h.get i with
    | some (.lst xs) => some (.ref h.n, h.new (.lst xs))
    | some (.dic kvs) => some (.ref h.n, h.new (.lst (kvs.map fun kv => keyU kv.1)))
    | _ => none
  | [.tup xs] => some (.ref h.n, h.new (.lst xs))
  | _ => none
def texts : List U → Option (List (List Nat))
  | [] => some []
  | .str l :: r => match texts r with
    | some ls => some (l :: ls)
    | none => none
  | _ => none
def insS (x : List Nat) : List (List Nat) → List (List Nat)
  | [] => [x]
  | y :: r => match ltCps y x with
    | true => y :: insS x r
    | false => x :: y :: r
def sortS : List (List Nat) → List (List Nat)
  | [] => []
  | x :: r => insS x (sortS r)
def fSorted : List U → Hs → Option (U × Hs) := fun us h => match us with
  | [.ref i] => match h.get i with
    | some (.lst xs) => match texts xs with
      | some ls => match Nat.blt ls.length 64 with
        | true => some (.ref h.n, h.new (.lst ((sortS ls).map U.str)))
        | false => none
      | none => none
    | _ => none
  | _ => none
section
variable {X : Cx} {G : Wd} {ι : List Addr} {H : Hp}
theorem bools_rel : ∀ {us : List U} {vs : List V} {l : List Bool}, VRels G ι H us vs → bools us = some l → vs = l.map V.bl
  | _, _, l, .nil, e => by
    cases e
    rfl
  | _, _, l, .cons (u := u) (us := us) r t, e => by
    cases u with
    | bl b =>
      unfold bools at e
      cases er : bools us with
      | none =>
        simp only [er] at e
        cases e
      | some l' =>
        simp only [er] at e
        cases e
        cases r
        rw [bools_rel t er] <;> rfl
    | _ => cases e
theorem ints_rel : ∀ {us : List U} {vs : List V} {l : List Int}, VRels G ι H us vs → intsU us = some l → vs = l.map V.int
  | _, _, l, .nil, e => by
    cases e
    rfl
  | _, _, l, .cons (u := u) (us := us) r t, e => by
    cases u with
    | int b =>
      unfold intsU at e
      cases er : intsU us with
      | none =>
        simp only [er] at e
        cases e
      | some l' =>
        simp only [er] at e
        cases e
        cases r
        rw [ints_rel t er] <;> rfl
    | _ => cases e
theorem texts_rel : ∀ {us : List U} {vs : List V} {l : List (List Nat)}, VRels G ι H us vs → texts us = some l → vs = (l.map S).map V.str ∧ ∀ x ∈ l, OkS x
  | _, _, l, .nil, e => by
    cases e
    exact ⟨rfl, fun _ h => (nomatch h)⟩
  | _, _, l, .cons (u := u) (us := us) r t, e => by
    cases u with
    | str b =>
      unfold texts at e
      cases er : texts us with
      | none =>
        simp only [er] at e
        cases e
      | some l' =>
        simp only [er] at e
        cases e
        cases r with
        | str _ o =>
          obtain ⟨h1, h2⟩ := texts_rel t er
          exact ⟨by rw [h1]; rfl, fun x hx => (List.mem_cons.mp hx).elim (fun z => by rw [z]; exact o) (h2 x)⟩
    | _ => cases e
theorem strs_rel : ∀ {l : List (List Nat)}, (∀ x ∈ l, OkS x) → VRels G ι H (l.map U.str) ((l.map S).map V.str)
  | [], _ => .nil
  | x :: l, h => .cons (.str x (h x List.mem_cons_self)) (strs_rel fun y hy => h y (List.mem_cons_of_mem _ hy))
theorem sumZ_eq : ∀ l : List Int, sumZ l = l.sum
  | [] => rfl
  | i :: r => by
    unfold sumZ
    rw [sumZ_eq r, List.sum_cons]
theorem allB_eq : ∀ l : List Bool, allB l = l.all id
  | [] => rfl
  | b :: r => by
    unfold allB
    rw [List.all_cons, ← allB_eq r]
    cases b <;> rfl
/-- the list at i -/
theorem lst_at {h : Hs} {H : Hp} {i : Nat} {xs : List U} {x : V} (R : Rep G ι h H) (e : h.get i = some (.lst xs)) (r : VRel G ι H (.ref i) x) : ∃ a vs, x = .ref a ∧ H a = some (.lst vs) ∧ VRels G ι H xs vs := by
  obtain ⟨a, ho, e1, e2, e3, e4⟩ := R.at e r
  cases e4 with
  | @lst _ vs s => exact ⟨a, vs, e1, e3, s⟩
theorem c_len (hk : G.K = X.K) : CalS X G (.builtin "len") fLen := ⟨_, call_len, fun ι h H us vs Q R r q => by
  unfold fLen at q
  split at q
  · rename_i l
    cases r with
    | cons a t =>
      cases t
      cases a with
      | str _ o =>
        obtain ⟨c, q⟩ := pick_aft q
        exact ⟨_, l.length, rfl, ⟨by have := fits_le c; simpa [Str.length] using this, by simp [Str.length]⟩, q.now R (.int _)⟩
  · rename_i xs
    cases r with
    | cons a t =>
      cases t
      cases a with
      | @tup _ p vs ht s => exact ⟨_, xs.length, rfl, .inr ⟨vs, by rw [← hk]; exact ht, s.length⟩, q.now R (.int _)⟩
  · rename_i i
    cases r with
    | cons a t =>
      cases t
      split at q
      · rename_i xs eo
        obtain ⟨p, vs, e1, e2, s⟩ := lst_at R eo a
        subst e1
        exact ⟨_, xs.length, rfl, .inl ⟨vs, .inl (.inl e2), s.length⟩, q.now R (.int _)⟩
      · exact q.elim
  · exact q.elim⟩
theorem isDig_iff {c : Nat} : isDig c = true ↔ 48 ≤ c ∧ c ≤ 57 := by
  unfold isDig
  rw [Bool.and_eq_true_iff]
  exact ⟨fun h => ⟨Nat.le_of_ble_eq_true h.1, Nat.le_of_ble_eq_true h.2⟩, fun h => ⟨Nat.ble_eq_true_of_le h.1, Nat.ble_eq_true_of_le h.2⟩⟩
theorem allDig {l : List Nat} (h : allN isDig l = true) : NumText.AllDigits l := fun c hc => isDig_iff.mp (allN_iff.mp h c hc)
theorem parse_ok {l : List Nat} {i : Int} (e : parse l = some i) : intText? (S l) = some i ∧ (S l).length ≤ 640 := by
  unfold parse at e
  cases hb : Nat.ble l.length 640 with
  | false =>
    simp only [hb] at e
    cases e
  | true =>
    simp only [hb] at e
    have hz := Nat.le_of_ble_eq_true hb
    have hl : (S l).length ≤ 640 := by simpa [Str.length] using hz
    refine ⟨?_, hl⟩
    split at e
    · cases e
    · rename_i r
      split at e
      · cases e
      · rename_i c r'
        split at e
        · rename_i hd
          cases e
          exact intText_neg (cs := c :: r') (by simp) (allDig hd) (by simp) (by omega)
        · cases e
    · rename_i c r hne
      split at e
      · rename_i hd
        cases e
        exact intText_digits (by simpa using allDig hd) (by simp) (by omega)
      · cases e
theorem c_int : CalS X G (.type "int") fInt := ⟨_, call_int1.or call_int_str, fun ι h H us vs Q R r q => by
  unfold fInt at q
  split at q
  · rename_i i
    cases r with
    | cons a t =>
      cases t
      cases a
      exact .inl (.inl ⟨i, rfl, q.now R (.int _)⟩)
  · rename_i l
    cases r with
    | cons a t =>
      cases t
      cases a with
      | str _ o =>
        split at q
        · rename_i i e
          obtain ⟨h1, h2⟩ := parse_ok e
          exact .inr ⟨_, i, rfl, h1, h2, q.now R (.int _)⟩
        · exact q.elim
  · exact q.elim⟩
theorem strI_ok (i : Int) : Str.ofString (toString i) = S (strI i) := by
  cases i with
  | ofNat n => exact SX.num_S n
  | negSucc n =>
    have e : toString (Int.negSucc n) = "-" ++ Nat.repr (n + 1) := rfl
    rw [e, Str.ofString_eq_toList]
    have e2 := SX.num_S (n + 1)
    rw [Str.ofString_eq_toList] at e2
    have e3 : ((toString (((n + 1 : Nat)) : Int)).toList.map Char.toNat) = TL.numL (n + 1) := by
      have := congrArg (fun z : Str => z.cps.toList) e2
      simpa using this
    have e4 : toString (((n + 1 : Nat)) : Int) = Nat.repr (n + 1) := rfl
    rw [e4] at e3
    rw [String.toList_append, List.map_append, e3]
    rfl
theorem strI_oks (i : Int) : OkS (strI i) := by
  have key : ∀ n, OkS (TL.numL n) := fun n c hc => by
    have := TL.numL_digits n c hc
    omega
  cases i with
  | ofNat n => exact key n
  | negSucc n =>
    intro c hc
    rcases List.mem_cons.mp hc with z | z
    · omega
    · exact key _ c z
theorem c_str : CalS X G (.type "str") fStr := ⟨_, call_str_int, fun ι h H us vs Q R r q => by
  unfold fStr at q
  split at q
  · rename_i i
    cases r with
    | cons a t =>
      cases t
      cases a
      obtain ⟨c, q⟩ := pick_aft q
      refine ⟨i, rfl, Nat.le_of_ble_eq_true c, ?_⟩
      have e : ((toString i : String) : Str) = S (strI i) := strI_ok i
      rw [e]
      exact q.now R (.str _ (strI_oks i))
  · exact q.elim⟩
theorem c_abs : CalS X G (.builtin "abs") fAbs := ⟨_, call_abs, fun ι h H us vs Q R r q => by
  unfold fAbs at q
  split at q
  · rename_i i
    cases r with
    | cons a t =>
      cases t
      cases a
      refine ⟨i, rfl, ?_⟩
      have e : (if i < 0 then -i else i) = ((i.natAbs : Nat) : Int) := by
        split <;> omega
      rw [e]
      exact q.now R (.int _)
  · exact q.elim⟩
theorem c_all (hc : X.calm = true) : CalS X G (.builtin "all") fAll := ⟨_, cr_all hc, fun ι h H us vs Q R r q => by
  unfold fAll at q
  split at q
  · rename_i i
    cases r with
    | cons a t =>
      cases t
      split at q
      · rename_i xs eo
        split at q
        · rename_i l eb
          obtain ⟨p, vs, e1, e2, s⟩ := lst_at R eo a
          subst e1
          refine ⟨p, l, rfl, .inl (.inl (by rw [← bools_rel s eb]; exact e2)), ?_⟩
          rw [← allB_eq]
          exact q.now R (.bl _)
        · exact q.elim
      · exact q.elim
  · exact q.elim⟩
theorem lists_rel {h : Hs} {H : Hp} (R : Rep G ι h H) : ∀ {us : List U} {vs : List V} {l : List (List U)}, VRels G ι H us vs → lists h us = some l → ∃ yss : List (List V), vs.length = yss.length ∧ (∀ (j : Nat) (ys : List V), yss[j]? = some ys → ∃ b : Addr, vs[j]? = some (V.ref b) ∧ H b = some (.lst ys)) ∧ VRels G ι H l.flatten yss.flatten
  | _, _, l, .nil, e => by
    cases e
    exact ⟨[], rfl, fun j ys h => by simp at h, .nil⟩
  | _, _, l, .cons (u := u) (us := us) r t, e => by
    cases u with
    | ref i =>
      unfold lists at e
      cases eo : h.get i with
      | none =>
        simp only [eo] at e
        cases e
      | some ob =>
        simp only [eo] at e
        cases ob with
        | lst ys =>
          simp only at e
          cases er : lists h us with
          | none =>
            simp only [er] at e
            cases e
          | some l' =>
            simp only [er] at e
            cases e
            obtain ⟨yss, h1, h2, h3⟩ := lists_rel R t er
            obtain ⟨p, vs, e1, e2, s⟩ := lst_at R eo r
            refine ⟨vs :: yss, by rw [List.length_cons, List.length_cons, h1], fun j zs hj => ?_, by rw [List.flatten_cons, List.flatten_cons]; exact s.append h3⟩
            cases j with
            | zero =>
              have : vs = zs := by simpa using hj
              subst this
              exact ⟨p, by rw [e1]; rfl, e2⟩
            | succ j => exact h2 j zs (by simpa using hj)
        | _ => cases e
    | _ => cases e
theorem c_sum (hc : X.calm = true) : CalS X G (.builtin "sum") fSum := ⟨_, (cr_sum hc).or (cr_sumL hc), fun ι h H us vs Q R r q => by
  unfold fSum at q
  split at q
  · rename_i i
    cases r with
    | cons a t =>
      cases t
      split at q
      · rename_i xs eo
        split at q
        · rename_i l eb
          obtain ⟨p, vs, e1, e2, s⟩ := lst_at R eo a
          subst e1
          refine .inl ⟨p, l, rfl, .inl (.inl (by rw [← ints_rel s eb]; exact e2)), ?_⟩
          rw [← sumZ_eq]
          exact q.now R (.int _)
        · exact q.elim
      · exact q.elim
  · rename_i i z
    cases r with
    | cons a t =>
      cases t with
      | cons b t =>
        cases t
        split at q
        · rename_i xs zs eo ez
          split at q
          · rename_i l el
            split at q
            · rename_i hf
              obtain ⟨p, vs, e1, e2, s⟩ := lst_at R eo a
              obtain ⟨pz, ws, f1, f2, sz⟩ := lst_at R ez b
              subst e1 f1
              obtain ⟨yss, h1, h2, h3⟩ := lists_rel R s el
              have hz := fits_le hf
              rw [List.length_append] at hz
              refine .inr ⟨p, pz, vs, ws, yss, rfl, .inl (.inl e2), f2, h1, h2, by rw [← sz.length, ← h3.length]; exact hz, fun e => ?_, fun ne t H' m' n' e' => ?_⟩
              · subst e
                cases s
                exact q.now R b
              · cases s with
                | nil => exact absurd rfl ne
                | cons s1 s2 =>
                  have E : Ext ι H ι H' := ⟨fun _ _ e => e, fun a xs e => m' _ _ e, fun a o u e => m' _ _ e, fun _ a b => absurd a b, fun a o e _ _ => m' _ _ e⟩
                  have R' : Rep G ι h H' := ⟨R.wf, R.len, R.nd, fun i a e => by
                    obtain ⟨o, ho, e1, e2, r⟩ := R.ob i a e
                    exact ⟨o, ho, e1, m' _ _ e2, r.ext E⟩, R.tb.ext m'⟩
                  have tn : t ∉ ι := fun z => (R.ne z).2.2.2.2 n'
                  exact q (ι ++ [t]) H' (.ref t) (E.adopt n') (R'.adopt tn e' (.lst ((sz.append h3).ext E))) (VRel.fresh_ref R)
            · exact q.elim
          · exact q.elim
        · exact q.elim
  · exact q.elim⟩
theorem c_tuple (hk : G.K = X.K) : CalS X G (.type "tuple") fTuple := ⟨_, call_tuple_of, fun ι h H us vs Q R r q => by
  unfold fTuple at q
  split at q
  · rename_i i
    cases r with
    | cons a t =>
      cases t
      split at q
      · rename_i xs eo
        obtain ⟨p, vs, e1, e2, s⟩ := lst_at R eo a
        subst e1
        exact ⟨p, vs, rfl, .inl ⟨.inl (.inl e2), fun l hl => q _ _ _ (Ext.fresh hl) (R.fresh hl) (.tup (.inl (.inl upd_same)) (s.ext (Ext.fresh hl)))⟩⟩
      · exact q.elim
  · rename_i xs
    cases r with
    | cons a t =>
      cases t
      cases a with
      | @tup _ p vs ht s => exact ⟨p, vs, rfl, .inr ⟨by rw [← hk]; exact ht, q.now R (.tup ht s)⟩⟩
  · exact q.elim⟩
theorem keys_rel : ∀ {kvs : List (Ky × U)} {vs : List (Key × V)}, KRels G ι H kvs vs → VRels G ι H (kvs.map fun kv => keyU kv.1) (vs.map fun kv => kV kv.1)
  | _, _, .nil => .nil
  | _, _, .cons (k := k) o r t => by
    refine .cons ?_ (keys_rel t)
    cases k with
    | inl i => exact .int i
    | inr l => exact .str l o
theorem c_list (hk : G.K = X.K) (hc : X.calm = true) : CalS X G (.type "list") fList := ⟨_, call_list_of.or (call_listD hc), fun ι h H us vs Q R r q => by
  unfold fList at q
  split at q
  · rename_i i
    cases r with
    | cons a t =>
      cases t
      split at q
      · rename_i xs eo
        obtain ⟨p, vs, e1, e2, s⟩ := lst_at R eo a
        subst e1
        exact .inl ⟨p, vs, rfl, .inl (.inl (.inl e2)), fun l hl => q _ _ _ (Ext.new hl) (R.new hl (.lst s)) (VRel.fresh_ref R)⟩
      · rename_i kvs eo
        obtain ⟨p, ho, e1, e2, e3, e4⟩ := R.at eo a
        subst e1
        cases e4 with
        | @dic _ vs s => exact .inr ⟨p, vs, rfl, .inl e3, fun l hl => q _ _ _ (Ext.new hl) (R.new hl (.lst (keys_rel s))) (VRel.fresh_ref R)⟩
      · exact q.elim
  · rename_i xs
    cases r with
    | cons a t =>
      cases t
      cases a with
      | @tup _ p vs ht s => exact .inl ⟨p, vs, rfl, .inr (by rw [← hk]; exact ht), fun l hl => q _ _ _ (Ext.new hl) (R.new hl (.lst s)) (VRel.fresh_ref R)⟩
  · exact q.elim⟩
/-! ### sorted texts -/
theorem ltC (a b : List Nat) : ltCps a b = decide (a < b) := ltCps_eq a b
theorem insS_perm (x : List Nat) : ∀ l, (insS x l).Perm (x :: l)
  | [] => .refl _
  | y :: r => by
    unfold insS
    cases ltCps y x with
    | true => exact ((insS_perm x r).cons y).trans (.swap x y r)
    | false => exact .refl _
theorem sortS_perm : ∀ l, (sortS l).Perm l
  | [] => .refl _
  | x :: r => (insS_perm x (sortS r)).trans ((sortS_perm r).cons x)
theorem insS_pw (x : List Nat) : ∀ l, l.Pairwise (fun a b => a ≤ b) → (insS x l).Pairwise (fun a b => a ≤ b)
  | [], _ => List.pairwise_singleton _ _
  | y :: r, h => by
    unfold insS
    obtain ⟨h1, h2⟩ := List.pairwise_cons.mp h
    cases e : ltCps y x with
    | true =>
      rw [ltC] at e
      have e := of_decide_eq_true e
      refine List.pairwise_cons.mpr ⟨fun z hz => ?_, insS_pw x r h2⟩
      rcases List.mem_cons.mp ((insS_perm x r).mem_iff.mp hz) with q | q
      · rw [q]
        exact List.le_of_lt e
      · exact h1 z q
    | false =>
      rw [ltC] at e
      have e := of_decide_eq_false e
      refine List.pairwise_cons.mpr ⟨fun z hz => ?_, h⟩
      have hxy : x ≤ y := List.not_lt.mp e
      rcases List.mem_cons.mp hz with q | q
      · rw [q]
        exact hxy
      · exact List.le_trans hxy (h1 z q)
theorem sortS_pw : ∀ l, (sortS l).Pairwise (fun a b => a ≤ b)
  | [] => .nil
  | x :: r => insS_pw x _ (sortS_pw r)
theorem rising_pw : ∀ (l : List Str) (p : Str), risingS p l = true → (p :: l).Pairwise (fun a b => a.cps.toList ≤ b.cps.toList)
  | [], p, _ => List.pairwise_singleton _ _
  | x :: r, p, h => by
    have h' : (!ltCps x.cps.toList p.cps.toList && risingS x r) = true := h
    obtain ⟨h1, h2⟩ := Bool.and_eq_true_iff.mp h'
    have ih := rising_pw r x h2
    have hpx : p.cps.toList ≤ x.cps.toList := by
      rw [ltC] at h1
      have h1 : decide (x.cps.toList < p.cps.toList) = false := by simpa using h1
      exact List.not_lt.mp (of_decide_eq_false h1)
    refine List.pairwise_cons.mpr ⟨fun z hz => ?_, ih⟩
    rcases List.mem_cons.mp hz with q | q
    · rw [q]
      exact hpx
    · exact List.le_trans hpx ((List.pairwise_cons.mp ih).1 z q)
theorem sorted_pw (l : List Str) (h : sortedS l = true) : l.Pairwise (fun a b => a.cps.toList ≤ b.cps.toList) := by
  cases l with
  | nil => exact .nil
  | cons x r => exact rising_pw r x h
theorem sorted_is {l : List (List Nat)} {ys : List Str} (hp : ys.Perm (l.map S)) (hs : sortedS ys = true) : ys = (sortS l).map S := by
  have e1 : (ys.map fun x => x.cps.toList).Perm l := by
    have := hp.map fun x : Str => x.cps.toList
    rw [List.map_map] at this
    have id_ : (l.map ((fun x : Str => x.cps.toList) ∘ S)) = l := by
      have : ((fun x : Str => x.cps.toList) ∘ S) = id := by
        funext x
        simp
      rw [this, List.map_id]
    rw [id_] at this
    exact this
  have e2 : (ys.map fun x => x.cps.toList) = sortS l := List.Perm.eq_of_pairwise (le := fun a b => a ≤ b) (fun a b _ _ h1 h2 => List.le_antisymm h1 h2) (List.pairwise_map.mpr (sorted_pw ys hs)) (sortS_pw l) (e1.trans (sortS_perm l).symm)
  rw [← e2, List.map_map]
  have : (S ∘ fun x : Str => x.cps.toList) = id := by
    funext x
    simp
  rw [this, List.map_id]
theorem c_sorted : CalS X G (.builtin "sorted") fSorted := ⟨_, cr_sortedS, fun ι h H us vs Q R r q => by
  unfold fSorted at q
  split at q
  · rename_i i
    cases r with
    | cons a t =>
      cases t
      split at q
      · rename_i xs eo
        split at q
        · rename_i ls el
          split at q
          · rename_i hb
            obtain ⟨p, vs, e1, e2, s⟩ := lst_at R eo a
            subst e1
            obtain ⟨t1, t2⟩ := texts_rel s el
            refine ⟨p, ls.map S, rfl, .inl (.inl (by rw [← t1]; exact e2)), by rw [List.length_map]; exact Nat.le_of_ble_eq_true hb, fun ys p2 hperm hsort hp => ?_⟩
            rw [sorted_is hperm hsort]
            exact q _ _ _ (Ext.new hp) (R.new hp (.lst (strs_rel fun x hx => t2 x ((sortS_perm ls).mem_iff.mp hx)))) (VRel.fresh_ref R)
          · exact q.elim
        · exact q.elim
      · exact q.elim
  · exact q.elim⟩
end
end Sm

set_option Elab.async false
set_option linter.all false
set_option maxRecDepth 100000
set_option maxHeartbeats 4000000
/-! Sim, part 15: methods of lists and texts, dicts of the module, isinstance. -/
namespace Sm
open PySem PySem.Spec PyProof.Rows L2

/-! ### methods of lists -/
def fAppend : U → List U → Hs → Option (U × Hs) := fun u us h => match u, us with
  | .ref i, [y] => match h.get i with
    | some (.lst xs) => match fits (xs.length + 1) with
      | true => some (.non, h.put i (.lst (xs ++ [y])))
      | false => none
    | _ => none
  | _, _ => none
def fPop0 : U → List U → Hs → Option (U × Hs) := fun u us h => match u, us with
  | .ref i, [] => match h.get i with
    | some (.lst xs) => match xs[xs.length - 1]? with
      | some y => some (y, h.put i (.lst xs.dropLast))
      | none => none
    | _ => none
  | _, _ => none
def fPopAt : U → List U → Hs → Option (U × Hs) := fun u us h => match u, us with
  | .ref i, [.int j] => match h.get i with
    | some (.lst xs) => match Nat.blt j.natAbs 9223372036854775808 with
      | true => match ixN xs.length j with
        | some k => match xs[k]? with
          | some y => some (y, h.put i (.lst (xs.eraseIdx k)))
          | none => none
        | none => none
      | false => none
    | _ => none
  | _, _ => none
def fExtend : U → List U → Hs → Option (U × Hs) := fun u us h => match u, us with
  | .ref i, [.ref j] => match h.get i, h.get j with
    | some (.lst xs), some (.lst ys) => match fits (xs.length + ys.length) with
      | true => some (.non, h.put i (.lst (xs ++ ys)))
      | false => none
    | _, _ => none
  | _, _ => none
section
variable {X : Cx} {G : Wd} {ι : List Addr} {H : Hp}
/-- the list at i, its address in the mirror's map -/
theorem lst_ad {h : Hs} {H : Hp} {i : Nat} {xs : List U} {x : V} (R : Rep G ι h H) (e : h.get i = some (.lst xs)) (r : VRel G ι H (.ref i) x) : ∃ a vs, x = .ref a ∧ ι[i]? = some a ∧ H a = some (.lst vs) ∧ VRels G ι H xs vs := by
  obtain ⟨a, ho, e1, e2, e3, e4⟩ := R.at e r
  cases e4 with
  | @lst _ vs s => exact ⟨a, vs, e1, e2, e3, s⟩
theorem m_append : MetS X G "list.append" fAppend := ⟨_, mt_append, fun ι h H u us x vs Q R r rs q => by
  unfold fAppend at q
  split at q
  · rename_i i y
    cases rs with
    | @cons _ v _ _ ry t =>
      cases t
      split at q
      · rename_i xs eo
        split at q
        · rename_i hf
          obtain ⟨a, vs, e1, e2, e3, s⟩ := lst_ad R eo r
          subst e1
          have hz := fits_le hf
          exact ⟨a, vs, v, rfl, rfl, e3, by rw [← s.length]; omega, q _ _ _ (R.extPut e2) (R.put e2 (.lst (s.append (.cons ry .nil)))) .non⟩
        · exact q.elim
      · exact q.elim
  · exact q.elim⟩
theorem VRels.dropLast : ∀ {us : List U} {vs : List V}, VRels G ι H us vs → VRels G ι H us.dropLast vs.dropLast
  | _, _, .nil => .nil
  | _, _, .cons a .nil => .nil
  | _, _, .cons a (.cons b t) => .cons a (VRels.dropLast (.cons b t))
theorem VRels.erase : ∀ {us : List U} {vs : List V} (k : Nat), VRels G ι H us vs → VRels G ι H (us.eraseIdx k) (vs.eraseIdx k)
  | _, _, _, .nil => .nil
  | _, _, 0, .cons _ t => t
  | _, _, k + 1, .cons a t => .cons a (VRels.erase k t)
theorem m_pop : MetS X G "list.pop" (fun u us h => match us with
    | [] => fPop0 u us h
    | _ => fPopAt u us h) := ⟨_, MtR.or mt_pop mt_popAt, fun ι h H u us x vs Q R r rs q => by
  cases rs with
  | nil =>
    have q : AftO G (VRel G) ι H Q (fPop0 u [] h) := q
    unfold fPop0 at q
    split at q
    · rename_i i
      split at q
      · rename_i xs eo
        split at q
        · rename_i y ey
          obtain ⟨a, vs, e1, e2, e3, s⟩ := lst_ad R eo r
          subst e1
          obtain ⟨z, f1, f2⟩ := s.get.1 y ey
          exact .inl ⟨a, vs, z, rfl, rfl, e3, by rw [← s.length]; exact f1, q _ _ _ (R.extPut e2) (R.put e2 (.lst s.dropLast)) (f2.ext (R.extPut e2))⟩
        · exact q.elim
      · exact q.elim
    · exact q.elim
  | @cons u1 v1 _ _ r1 t =>
    have q : AftO G (VRel G) ι H Q (fPopAt u (u1 :: _) h) := q
    unfold fPopAt at q
    split at q
    · rename_i i j hus _q
      cases hus
      cases t
      cases r1
      split at q
      · rename_i xs eo
        split at q
        · rename_i hb
          split at q
          · rename_i k ek
            split at q
            · rename_i y ey
              obtain ⟨a, vs, e1, e2, e3, s⟩ := lst_ad R eo r
              subst e1
              obtain ⟨z, f1, f2⟩ := s.get.1 y ey
              obtain ⟨g1, g2, g3, g4⟩ := ixN_seq ek
              have hj : j.natAbs < 9223372036854775808 := Nat.le_of_ble_eq_true hb
              exact .inr ⟨a, vs, j, k, z, rfl, rfl, e3, by omega, by omega, by rw [← s.length]; exact g1, f1, q _ _ _ (R.extPut e2) (R.put e2 (.lst (s.erase k))) (f2.ext (R.extPut e2))⟩
            · exact q.elim
          · exact q.elim
        · exact q.elim
      · exact q.elim
    · exact q.elim⟩
theorem m_extend : MetS X G "list.extend" fExtend := ⟨_, mt_extend, fun ι h H u us x vs Q R r rs q => by
  unfold fExtend at q
  split at q
  · rename_i i j
    cases rs with
    | cons r1 t =>
      cases t
      split at q
      · rename_i xs ys eo ej
        split at q
        · rename_i hf
          obtain ⟨a, vs, e1, e2, e3, s⟩ := lst_ad R eo r
          obtain ⟨b, ws, f1, f2, f3, s2⟩ := lst_ad R ej r1
          subst e1 f1
          have hz := fits_le hf
          exact ⟨a, b, vs, ws, rfl, rfl, e3, f3, by rw [← s.length, ← s2.length]; exact hz, q _ _ _ (R.extPut e2) (R.put e2 (.lst (s.append s2))) .non⟩
        · exact q.elim
      · exact q.elim
  · exact q.elim⟩
end
/-! ### methods of texts -/
def sumL : List (List Nat) → Nat
  | [] => 0
  | x :: r => x.length + sumL r
def fJoin : U → List U → Hs → Option (U × Hs) := fun u us h => match u, us with
  | .str a, [.ref i] => match h.get i with
    | some (.lst xs) => match texts xs with
      | some ls => match Nat.ble (sumL ls + ls.length * a.length) 16777216 with
        | true => some (.str (TL.joinL a ls), h)
        | false => none
      | none => none
    | _ => none
  | .str a, [.tup xs] => match texts xs with
    | some ls => match Nat.ble (sumL ls + ls.length * a.length) 16777216 with
      | true => some (.str (TL.joinL a ls), h)
      | false => none
    | none => none
  | _, _ => none
def fSplit : U → List U → Hs → Option (U × Hs) := fun u us h => match u, us with
  | .str a, [.str b] => match b with
    | [] => none
    | _ :: _ => match allN (fun c => Nat.blt c 256) b && fits (a.length + 2) with
      | true => some (.ref h.n, h.new (.lst ((TL.spl b 0 [] a).map U.str)))
      | false => none
  | _, _ => none
def fLower : U → List U → Hs → Option (U × Hs) := fun u us h => match u, us with
  | .str a, [] => match allN (fun c => Nat.blt c 128) a && Nat.ble a.length 5592405 with
    | true => some (.str (a.map PyProof.Rows.lo1), h)
    | false => none
  | _, _ => none
section
variable {X : Cx} {G : Wd} {ι : List Addr} {H : Hp}
theorem oks_nil : OkS [] := fun c h => absurd h List.not_mem_nil
theorem sumL_eq : ∀ ls : List (List Nat), sumL ls = ((ls.map S).map (·.length)).sum
  | [] => rfl
  | x :: r => by
    unfold sumL
    rw [sumL_eq r, List.map_cons, List.map_cons, List.sum_cons]
    simp [Str.length]
theorem joinL_oks {a : List Nat} (ha : OkS a) : ∀ {ls : List (List Nat)}, (∀ x ∈ ls, OkS x) → OkS (TL.joinL a ls)
  | [], _ => fun c h => absurd (show c ∈ ([] : List Nat) from h) List.not_mem_nil
  | [x], h => h x List.mem_cons_self
  | x :: y :: r, h => fun c hc => by
    have hc : c ∈ x ++ (a ++ TL.joinL a (y :: r)) := hc
    rcases List.mem_append.mp hc with z | z
    · exact h x List.mem_cons_self c z
    · rcases List.mem_append.mp z with z | z
      · exact ha c z
      · exact joinL_oks ha (ls := y :: r) (fun w hw => h w (List.mem_cons_of_mem _ hw)) c z
theorem spl_oks {b : List Nat} : ∀ {l : List Nat} {k : Nat} {acc : List Nat}, OkS acc → OkS l → ∀ x ∈ TL.spl b k acc l, OkS x
  | [], k, acc, ha, _, x, hx => by
    rw [TL.spl_nil] at hx
    have : x = acc := by simpa using hx
    rw [this]
    exact ha
  | c :: r, 0, acc, ha, hl, x, hx => by
    have hc := hl c List.mem_cons_self
    have hr : OkS r := fun d hd => hl d (List.mem_cons_of_mem _ hd)
    have hx : x ∈ (if TL.pre b (c :: r) = true then acc :: TL.spl b (b.length - 1) [] r else TL.spl b 0 (acc ++ [c]) r) := hx
    split at hx
    · rcases List.mem_cons.mp hx with z | z
      · rw [z]
        exact ha
      · exact spl_oks oks_nil hr x z
    · refine spl_oks (fun d hd => ?_) hr x hx
      rcases List.mem_append.mp hd with z | z
      · exact ha d z
      · have : d = c := by simpa using z
        rw [this]
        exact hc
  | c :: r, k + 1, acc, ha, hl, x, hx => spl_oks (l := r) (k := k) ha (fun d hd => hl d (List.mem_cons_of_mem _ hd)) x hx
theorem m_join (hk : G.K = X.K) : MetS X G "str.join" fJoin := ⟨_, mt_join, fun ι h H u us x vs Q R r rs q => by
  unfold fJoin at q
  split at q
  · rename_i a i
    cases r with
    | str _ oa =>
      cases rs with
      | cons r1 t =>
        cases t
        split at q
        · rename_i xs eo
          split at q
          · rename_i ls el
            split at q
            · rename_i hb
              obtain ⟨p, vs, e1, e2, s⟩ := lst_at R eo r1
              subst e1
              obtain ⟨t1, t2⟩ := texts_rel s el
              refine ⟨_, p, ls.map S, rfl, rfl, .inl (.inl (.inl (by rw [← t1]; exact e2))), ?_, ?_⟩
              · rw [← sumL_eq, List.length_map]
                have := Nat.le_of_ble_eq_true hb
                simpa [Str.length] using this
              · rw [SX.join_S]
                exact q.now R (.str _ (joinL_oks oa t2))
            · exact q.elim
          · exact q.elim
        · exact q.elim
  · rename_i a xs
    cases r with
    | str _ oa =>
      cases rs with
      | cons r1 t =>
        cases t
        split at q
        · rename_i ls el
          split at q
          · rename_i hb
            cases r1 with
            | @tup _ p vs ht s =>
              obtain ⟨t1, t2⟩ := texts_rel s el
              refine ⟨_, p, ls.map S, rfl, rfl, .inr (by rw [← t1, ← hk]; exact ht), ?_, ?_⟩
              · rw [← sumL_eq, List.length_map]
                have := Nat.le_of_ble_eq_true hb
                simpa [Str.length] using this
              · rw [SX.join_S]
                exact q.now R (.str _ (joinL_oks oa t2))
          · exact q.elim
        · exact q.elim
  · exact q.elim⟩
theorem m_split : MetS X G "str.split" fSplit := ⟨_, mt_split, fun ι h H u us x vs Q R r rs q => by
  unfold fSplit at q
  split at q
  · rename_i a b
    cases r with
    | str _ oa =>
      cases rs with
      | cons r1 t =>
        cases t
        cases r1 with
        | str _ ob =>
          split at q
          · exact q.elim
          · rename_i c b'
            split at q
            · rename_i hb
              obtain ⟨h1, h2⟩ := Bool.and_eq_true_iff.mp hb
              have hz := fits_le h2
              refine ⟨_, _, rfl, rfl, by simp [Str.length], by simpa [Str.length] using hz, fun p hp => ?_⟩
              have e : Txt.split (S a) (S (c :: b')) = (TL.spl (c :: b') 0 [] a).map S := SX.split_S (by simp) (by
                rw [List.all_eq_true]
                intro d hd
                exact decide_eq_true (Nat.le_of_ble_eq_true (allN_iff.mp h1 d hd)))
              rw [e]
              exact q _ _ _ (Ext.new hp) (R.new hp (.lst (strs_rel fun x hx => spl_oks oks_nil oa x hx))) (VRel.fresh_ref R)
            · exact q.elim
  · exact q.elim⟩
theorem lo1_ok {c : Nat} (h : c < 128) : PyProof.Rows.lo1 c < 1114112 := by
  unfold PyProof.Rows.lo1
  split <;> omega
theorem m_lower : MetS X G "str.lower" fLower := ⟨_, mt_lower, fun ι h H u us x vs Q R r rs q => by
  unfold fLower at q
  split at q
  · rename_i a
    cases r with
    | str _ oa =>
      cases rs
      split at q
      · rename_i hb
        obtain ⟨h1, h2⟩ := Bool.and_eq_true_iff.mp hb
        have hz := Nat.le_of_ble_eq_true h2
        have h3 : ∀ c ∈ a, c < 128 := fun c hc => Nat.le_of_ble_eq_true (allN_iff.mp h1 c hc)
        refine ⟨_, rfl, rfl, by simpa [Str.length] using hz, ?_⟩
        have e : Txt.lower (S a) = S (a.map PyProof.Rows.lo1) := SX.lower_S (by
          rw [List.all_eq_true]
          intro c hc
          exact decide_eq_true (h3 c hc))
        rw [e]
        exact q.now R (.str _ fun c hc => by
          obtain ⟨d, hd, ed⟩ := List.mem_map.mp hc
          rw [← ed]
          exact lo1_ok (h3 d hd))
      · exact q.elim
  · exact q.elim⟩
end
/-! ### a dict of the module: texts to ints -/
def lookM (l : List (List Nat × Int)) (z : List Nat) : Option Int := match l with
  | [] => none
  | (k, i) :: r => match eqN k z with
    | true => some i
    | false => lookM r z
structure MDct (K : PySem.W.Frag) (w : World) (d : Addr) (l : List (List Nat × Int)) : Prop where
  kd : ∃ es n, KDict K w d es n
  none : ∀ z, lookM l z = none → PySem.W.nsIn K d (S z) = some Option.none
  some : ∀ z i, lookM l z = some i → ∃ t, PySem.W.nsIn K d (S z) = Option.some (Option.some (.int i t))
theorem mdct_of {K : PySem.W.Frag} {w : World} {a : Addr} {l : List (List Nat × Int)} (h : He.dicW K a = some (He.keysIn w.params (l.map fun p => S p.1))) (hv : He.valsB K a (l.map fun p => (S p.1, .int p.2)) = true) : MDct K w a l := by
  refine ⟨He.dicW_ok h, fun z e => ?_, fun z i e => ?_⟩
  · unfold He.dicW at h
    split at h
    · rename_i c es n sl lk
      split at h
      · have h' : es.toList.map He.keyOf = He.keysIn w.params (l.map fun p => S p.1) := Option.some.inj h
        unfold PySem.W.nsIn
        rw [lk]
        have key : ∀ (es : List DictEntry) (l : List (List Nat × Int)), es.map He.keyOf = He.keysIn w.params (l.map fun p => S p.1) → lookM l z = none → es.find? (·.key.isStr (S z)) = none ∧ es.any (·.refKey) = false := by
          intro es
          induction es with
          | nil => intro l _ _; exact ⟨rfl, rfl⟩
          | cons en es ih =>
            intro l h1 h2
            cases l with
            | nil => simp [He.keysIn] at h1
            | cons p l =>
              unfold He.keysIn at h1
              rw [List.map_cons, List.map_cons, List.map_cons] at h1
              injection h1 with h3 h4
              obtain ⟨k, i⟩ := p
              unfold lookM at h2
              cases ek : eqN k z with
              | true =>
                rw [ek] at h2
                cases h2
              | false =>
                rw [ek] at h2
                obtain ⟨i1, i2⟩ := ih l h4 h2
                unfold He.keyOf at h3
                split at h3
                · rename_i x t ex
                  have hx : x = S k := by
                    have := Option.some.inj h3
                    exact congrArg Prod.fst this
                  have hne : ¬ S k = S z := fun q => by
                    rw [eqN_eq, decide_eq_true q] at ek
                    cases ek
                  refine ⟨?_, ?_⟩
                  · rw [List.find?_cons]
                    have : en.key.isStr (S z) = false := by
                      rw [ex, hx]
                      show (S k == S z) = false
                      exact beq_eq_false_iff_ne.mpr hne
                    rw [this]
                    exact i1
                  · rw [List.any_cons, i2]
                    have : en.refKey = false := by
                      unfold DictEntry.refKey
                      rw [ex]
                    rw [this]
                    rfl
                · cases h3
        obtain ⟨k1, k2⟩ := key es.toList l h' e
        dsimp only
        rw [k1, k2]
        rfl
      · cases h
    · cases h
  · have mem : ∀ (l : List (List Nat × Int)), lookM l z = some i → (z, i) ∈ l := by
      intro l
      induction l with
      | nil => intro e; cases e
      | cons p l ih =>
        intro e
        obtain ⟨k, j⟩ := p
        unfold lookM at e
        cases ek : eqN k z with
        | true =>
          rw [ek] at e
          cases e
          rw [eqN_iff.mp ek]
          exact List.mem_cons_self
        | false =>
          rw [ek] at e
          exact List.mem_cons_of_mem _ (ih e)
    obtain ⟨u, h1, h2⟩ := He.valsB_ok hv (q := (S z, .int i)) (List.mem_map.mpr ⟨(z, i), mem l e, rfl⟩)
    obtain ⟨t, rfl⟩ := h2
    exact ⟨t, h1⟩
section
variable {X : Cx} {G : Wd} {W : L2.St → XK} {pos p : Pos} {e : Expr} {m : EM} {x : Str} {d : Addr} {l : List (List Nat × Int)}
def mInK (l : List (List Nat × Int)) (neg : Bool) (a : EM) : EM := fun τ h => (a τ h).bind fun u h1 => match u with
  | .str z => .ok (.bl (neg != (lookM l z).isSome)) h1
  | _ => .no
def mIxK (l : List (List Nat × Int)) (a : EM) : EM := fun τ h => (a τ h).bind fun u h1 => match u with
  | .str z => match lookM l z with
    | some i => .ok (.int i) h1
    | none => .no
  | _ => .no
theorem s_inK (D : MDct X.K X.w d l) (he : SE X G W e m) (hg : Gl X x) (hm : X.mg x = some (.ref d)) (hdb : (x == ("__debug__" : Str)) = false := by decide) : SE X G W (.Compare e [.In] [.Name x p] pos) (mInK l false m) := by
  obtain ⟨es, n, kd⟩ := D.kd
  refine (pe_cmpR (op_in_kd kd) he (pe_glob hg hm (v := .ref d) rfl hdb) rfl).imp fun σ H Q ⟨τ, ι, h, sr, R, q⟩ => ⟨τ, ι, h, sr, R, q.bind fun ι1 H1 u h1 v E1 R1 r1 q1 => ?_⟩
  cases u with
  | str z =>
    cases r1 with
    | str _ o =>
      cases el : lookM l z with
      | none =>
        simp only [el] at q1
        exact ⟨_, none, rfl, rfl, D.none z el, q1.now R1 (.bl _)⟩
      | some i =>
        simp only [el] at q1
        obtain ⟨t, e⟩ := D.some z i el
        exact ⟨_, _, rfl, rfl, e, q1.now R1 (.bl _)⟩
  | _ => exact q1.elim
theorem s_ninK (D : MDct X.K X.w d l) (he : SE X G W e m) (hg : Gl X x) (hm : X.mg x = some (.ref d)) (hdb : (x == ("__debug__" : Str)) = false := by decide) : SE X G W (.Compare e [.NotIn] [.Name x p] pos) (mInK l true m) := by
  obtain ⟨es, n, kd⟩ := D.kd
  refine (pe_cmpR (op_notIn_kd kd) he (pe_glob hg hm (v := .ref d) rfl hdb) rfl).imp fun σ H Q ⟨τ, ι, h, sr, R, q⟩ => ⟨τ, ι, h, sr, R, q.bind fun ι1 H1 u h1 v E1 R1 r1 q1 => ?_⟩
  cases u with
  | str z =>
    cases r1 with
    | str _ o =>
      cases el : lookM l z with
      | none =>
        simp only [el] at q1
        exact ⟨_, none, rfl, rfl, D.none z el, q1.now R1 (.bl _)⟩
      | some i =>
        simp only [el] at q1
        obtain ⟨t, e⟩ := D.some z i el
        exact ⟨_, _, rfl, rfl, e, q1.now R1 (.bl _)⟩
  | _ => exact q1.elim
theorem s_ixK (D : MDct X.K X.w d l) (he : SE X G W e m) (hg : Gl X x) (hm : X.mg x = some (.ref d)) (hs : PlainIx e := by intro _ _; rfl) (hdb : (x == ("__debug__" : Str)) = false := by decide) : SE X G W (.Subscript (.Name x p) e pos) (mIxK l m) := by
  obtain ⟨es, n, kd⟩ := D.kd
  refine (pe_ix ix_kdict (pe_glob hg hm (v := .ref d) rfl hdb) he hs).imp fun σ H Q ⟨τ, ι, h, sr, R, q⟩ => ⟨τ, ι, h, sr, R, q.bind fun ι1 H1 u h1 v E1 R1 r1 q1 => ?_⟩
  cases u with
  | str z =>
    cases r1 with
    | str _ o =>
      cases el : lookM l z with
      | none =>
        simp only [el] at q1
        exact q1.elim
      | some i =>
        simp only [el] at q1
        obtain ⟨t, e⟩ := D.some z i el
        exact ⟨d, _, .int i, rfl, rfl, ⟨es, n, _, kd.at_, kd.lit, e, ⟨t, rfl⟩⟩, q1.now R1 (.int _)⟩
  | _ => exact q1.elim
end
/-! ### isinstance -/
inductive Cl where
  | int | bool | str | list | tuple | dict | own (d : Nat)
def Cl.ty : Cl → String
  | .int => "int"
  | .bool => "bool"
  | .str => "str"
  | .list => "list"
  | .tuple => "tuple"
  | .dict => "dict"
  | .own _ => "object"
/-- the kind of a value: of a built-in type, of a class of the text -/
inductive Kd where
  | non | bool | int | str | list | tuple | dict | own (c : Nat)
def Kd.ty : Kd → String
  | .non => "NoneType"
  | .bool => "bool"
  | .int => "int"
  | .str => "str"
  | .list => "list"
  | .tuple => "tuple"
  | .dict => "dict"
  | .own _ => "object"
def kdU (u : U) (h : Hs) : Option Kd := match u with
  | .non => some .non
  | .bl _ => some .bool
  | .int _ => some .int
  | .str _ => some .str
  | .tup _ => some .tuple
  | .ref i => match h.get i with
    | some (.lst _) => some .list
    | some (.dic _) => some .dict
    | some (.ins c _) => some (.own c)
    | none => none
  | _ => none
/-- sub: own classes by number -/
def isK (sub : Nat → Nat → Option Bool) (k : Kd) (c : Cl) : Option Bool := match k, c with
  | .own c, .own d => sub c d
  | .own _, _ => some false
  | _, .own _ => some false
  | .bool, .bool => some true
  | .bool, .int => some true
  | .int, .int => some true
  | .str, .str => some true
  | .list, .list => some true
  | .tuple, .tuple => some true
  | .dict, .dict => some true
  | _, _ => some false
def anyK (sub : Nat → Nat → Option Bool) (k : Kd) : List Cl → Option Bool
  | [] => some false
  | c :: r => match isK sub k c with
    | some true => some true
    | some false => anyK sub k r
    | none => none
structure IsiF (G : Wd) (cs ds : List Nat) (sub : Nat → Nat → Option Bool) : Prop where
  dom : ∀ c d b, sub c d = some b → c ∈ cs ∧ d ∈ ds
  ok : ∀ c d b, sub c d = some b → ∀ C D, G.gl c = some C → G.gl d = some D → PySem.W.kitOne G.K (.ref C) (.ref D) = some b
  ins : ∀ c ∈ cs, ∀ C, G.gl c = some C → PySem.W.findIn G.K (.ref C) "__class__" = some (some (.builtin "object.__class__")) ∧ PySem.W.mroIn G.K C (.type "object") = some true
  bi : ∀ c ∈ cs, ∀ C, G.gl c = some C → ∀ k : Cl, (∀ d, k ≠ .own d) → PySem.W.kitOne G.K (.ref C) (.type k.ty) = some false
  bo : ∀ d ∈ ds, ∀ D, G.gl d = some D → ∀ k : Kd, (∀ c, k ≠ .own c) → PySem.W.kitOne G.K (.type k.ty) (.ref D) = some false
  g1 : PySem.W.specialIn G.K (.builtin "object.__class__") "__get__" = some (some (.builtin "getset_descriptor.__get__"))
  g2 : PySem.W.takesIn G.K (.builtin "object.__class__") = some true
/-- isinstance(e, c), isinstance(e, (c, ..)): all classes known -/
def mIsi (cs : List Nat) (sub : Nat → Nat → Option Bool) (cl : List Cl) (a : EM) : EM := fun τ h => (a τ h).bind fun u h1 => match kdU u h1 with
  | some k => match (match k with
      | .own c => cs.any (Nat.beq c)
      | _ => true) with
    | true => match anyK sub k cl with
      | some b => .ok (.bl b) h1
      | none => .no
    | false => .no
  | none => .no
end Sm

set_option Elab.async false
set_option linter.all false
set_option maxRecDepth 100000
set_option maxHeartbeats 4000000
/-! Sim, part 16: isinstance. -/
namespace Sm
open PySem PySem.Spec PyProof.Rows L2

theorem kit_bi (K : PySem.W.Frag) (k : Kd) (c : Cl) (hk : ∀ x, k ≠ .own x) (hc : ∀ x, c ≠ .own x) : ∃ b, isK (fun _ _ => none) k c = some b ∧ PySem.W.kitOne K (.type k.ty) (.type c.ty) = some b := by
  cases k with
  | own x => exact absurd rfl (hk x)
  | _ =>
    cases c with
    | own y => exact absurd rfl (hc y)
    | _ => exact ⟨_, rfl, kit_ty (by decide +kernel)⟩
theorem isK_bi {sub : Nat → Nat → Option Bool} {k : Kd} {c : Cl} (hk : ∀ x, k ≠ .own x) (hc : ∀ x, c ≠ .own x) : isK sub k c = isK (fun _ _ => none) k c := by
  cases k with
  | own x => exact absurd rfl (hk x)
  | _ =>
    cases c with
    | own y => exact absurd rfl (hc y)
    | _ => rfl
/-- a class as an argument -/
structure SC (X : Cx) (G : Wd) (ds : List Nat) (e : Expr) (c : Cl) : Prop where
  ex : ∃ (cv : V) (u : Value), PE X e (tC cv) ∧ ClsV cv u ∧ (∀ d, c = .own d → d ∈ ds ∧ ∃ D, G.gl d = some D ∧ u = .ref D) ∧ ((∀ d, c ≠ .own d) → u = .type c.ty)
section
variable {X : Cx} {G : Wd} {W : L2.St → XK} {pos p : Pos} {e e2 : Expr} {m : EM} {x : Str} {cs ds : List Nat} {sub : Nat → Nat → Option Bool}
theorem c_own {d : Nat} {D : Addr} (hd : d ∈ ds) (hD : G.gl d = some D) (hg : Gl X x) (hm : X.mg x = some (.ref D)) (hdb : (x == ("__debug__" : Str)) = false := by decide) : SC X G ds (.Name x p) (.own d) :=
  ⟨.ref D, .ref D, pe_glob hg hm (v := .ref D) rfl hdb, .own D, fun d' e => by
    cases e
    exact ⟨hd, D, hD, rfl⟩, fun h => absurd rfl (h d)⟩
theorem c_bi (c : Cl) (hc : ∀ d, c ≠ .own d) (hg : Gl X x) (hm : X.mg x = none) (hv : bootBuiltins x = some (.type c.ty)) (hn : x ≠ "__name__" := by decide) (hdb : (x == ("__debug__" : Str)) = false := by decide) : SC X G ds (.Name x p) c :=
  ⟨.ty c.ty, .type c.ty, pe_bltn hg hm hv (v := .ty c.ty) rfl hn hdb, .ty _, fun d e => absurd e (hc d), fun _ => rfl⟩
theorem kd_rel (hk : G.K = X.K) (F : IsiF G cs ds sub) {ι : List Addr} {h : Hs} {H : Hp} {u : U} {v : V} {k : Kd} (R : Rep G ι h H) (r : VRel G ι H u v) (e : kdU u h = some k) (hc : ∀ c, k = .own c → c ∈ cs) :
    ∃ t, TyX X.K H v t ∧ (∀ c, k = .own c → ∃ C, G.gl c = some C ∧ t = .ref C) ∧ ((∀ c, k ≠ .own c) → t = .type k.ty) := by
  cases u with
  | non =>
    cases e
    cases r
    exact ⟨_, .base .non, fun c z => (nomatch z), fun _ => rfl⟩
  | bl b =>
    cases e
    cases r
    exact ⟨_, .base (.bl _), fun c z => (nomatch z), fun _ => rfl⟩
  | int i =>
    cases e
    cases r
    exact ⟨_, .base (.int _), fun c z => (nomatch z), fun _ => rfl⟩
  | str l =>
    cases e
    cases r
    exact ⟨_, .base (.str _), fun c z => (nomatch z), fun _ => rfl⟩
  | tup xs =>
    cases e
    cases r with
    | @tup _ a vs ht s =>
      refine ⟨.type "tuple", ?_, fun c z => (nomatch z), fun _ => rfl⟩
      rw [hk] at ht
      rcases ht with (q | ⟨o, q⟩) | ⟨o, its, n, q, q2, _⟩
      · exact .base (.tup q)
      · exact .fTuple q
      · exact .kTuple q q2
  | ref i =>
    unfold kdU at e
    cases eo : h.get i with
    | none =>
      simp only [eo] at e
      cases e
    | some ob =>
      simp only [eo] at e
      obtain ⟨a, ho, e1, e2, e3, e4⟩ := R.at eo r
      subst e1
      cases ob with
      | lst xs =>
        cases e
        cases e4 with
        | lst s => exact ⟨_, .base (.lst e3), fun c z => (nomatch z), fun _ => rfl⟩
      | dic xs =>
        cases e
        cases e4 with
        | dic s => exact ⟨_, .base (.dK e3), fun c z => (nomatch z), fun _ => rfl⟩
      | ins c fs =>
        cases e
        cases e4 with
        | @ins _ C dx _ vs g cl n s =>
          obtain ⟨f1, f2⟩ := F.ins c (hc c rfl) C g
          refine ⟨.ref C, .base (.ins e3 (by rw [← hk]; exact cl) (by rw [← hk]; exact f1) (by rw [← hk]; exact F.g1) (by rw [← hk]; exact F.g2) (by rw [← hk]; exact f2)), fun c' z => by
            cases z
            exact ⟨C, g, rfl⟩, fun z => absurd rfl (z c)⟩
  | _ => cases e
theorem is_rel (hk : G.K = X.K) (F : IsiF G cs ds sub) {k : Kd} {c : Cl} {t u : Value} {b : Bool} (hkc : ∀ x, k = .own x → x ∈ cs) (h1 : ∀ x, k = .own x → ∃ C, G.gl x = some C ∧ t = .ref C) (h2 : (∀ x, k ≠ .own x) → t = .type k.ty)
    (g1 : ∀ d, c = .own d → d ∈ ds ∧ ∃ D, G.gl d = some D ∧ u = .ref D) (g2 : (∀ d, c ≠ .own d) → u = .type c.ty) (e : isK sub k c = some b) : PySem.W.kitOne X.K t u = some b := by
  rw [← hk]
  by_cases hko : ∃ x, k = .own x
  · obtain ⟨x, rfl⟩ := hko
    obtain ⟨C, gC, rfl⟩ := h1 x rfl
    by_cases hco : ∃ d, c = .own d
    · obtain ⟨d, rfl⟩ := hco
      obtain ⟨hd, D, gD, rfl⟩ := g1 d rfl
      exact F.ok x d b e C D gC gD
    · have hn : ∀ d, c ≠ .own d := fun d z => hco ⟨d, z⟩
      rw [g2 hn]
      have eb : b = false := by
        cases c with
        | own d => exact absurd rfl (hn d)
        | _ => exact (Option.some.inj e).symm
      rw [eb]
      exact F.bi x (hkc x rfl) C gC c hn
  · have hn : ∀ x, k ≠ .own x := fun x z => hko ⟨x, z⟩
    rw [h2 hn]
    by_cases hco : ∃ d, c = .own d
    · obtain ⟨d, rfl⟩ := hco
      obtain ⟨hd, D, gD, rfl⟩ := g1 d rfl
      have eb : b = false := by
        cases k with
        | own x => exact absurd rfl (hn x)
        | _ => exact (Option.some.inj e).symm
      rw [eb]
      exact F.bo d hd D gD k hn
    · have hm : ∀ d, c ≠ .own d := fun d z => hco ⟨d, z⟩
      rw [g2 hm]
      rw [isK_bi hn hm] at e
      obtain ⟨b', z1, z2⟩ := kit_bi G.K k c hn hm
      rw [e] at z1
      cases z1
      exact z2
theorem isi_aft {Q : VK} {σ : L2.St} {ι : List Addr} {H : Hp} {u : U} {h : Hs} {cl : List Cl} (q : Aft G (VRel G) (W σ) ι H Q (match kdU u h with
  | some k => match (match k with
      | .own c => cs.any (Nat.beq c)
      | _ => true) with
    | true => match anyK sub k cl with
      | some b => .ok (.bl b) h
      | none => .no
    | false => .no
  | none => .no)) : ∃ k b, kdU u h = some k ∧ (∀ c, k = .own c → c ∈ cs) ∧ anyK sub k cl = some b ∧ Aft G (VRel G) (W σ) ι H Q (.ok (.bl b) h) := by
  cases ek : kdU u h with
  | none =>
    simp only [ek] at q
    exact q.elim
  | some k =>
    simp only [ek] at q
    cases ec : (match k with
      | .own c => cs.any (Nat.beq c)
      | _ => true) with
    | false =>
      simp only [ec] at q
      exact q.elim
    | true =>
      simp only [ec] at q
      cases ea : anyK sub k cl with
      | none =>
        simp only [ea] at q
        exact q.elim
      | some b =>
        simp only [ea] at q
        refine ⟨k, b, rfl, fun c z => ?_, ea, q⟩
        subst z
        obtain ⟨c', h1, h2⟩ := List.any_eq_true.mp ec
        rw [Nat.eq_of_beq_eq_true h2]
        exact h1
theorem s_isi1 {c : Cl} (hk : G.K = X.K) (F : IsiF G cs ds sub) (hg : Gl X "isinstance") (hm : X.mg "isinstance" = none) (he : SE X G W e m) (h2 : SC X G ds e2 c)
    (hs1 : starEach [e, e2] X.env = (false, eval e X.env) :: starEach [e2] X.env := by rfl) (hs2 : starEach [e2] X.env = (false, eval e2 X.env) :: starEach [] X.env := by rfl) (hpl : (backTo pos (starEach [e2] X.env)).any (·.1) = false := by rfl) :
    SE X G W (.Call (.Name "isinstance" p) [e, e2] [] pos) (mIsi cs sub [c] m) := by
  obtain ⟨cv, u0, hp, hcv, g1, g2⟩ := h2
  refine (pe_callB call_isi hg hm (by decide +kernel) (pa_cons he (pa_cons hp pa_nil hs2) hs1) (he := hs1) (hpl := hpl)).imp fun σ H Q ⟨τ, ι, h, sr, R, q⟩ => ⟨τ, ι, h, sr, R, q.bind fun ι1 H1 u h1 v E1 R1 r1 q1 => ?_⟩
  obtain ⟨k, b, ek, hc, ea, q2⟩ := isi_aft q1
  obtain ⟨t, ty, k1, k2⟩ := kd_rel hk F R1 r1 ek hc
  have ei : isK sub k c = some b := by
    unfold anyK at ea
    cases ei : isK sub k c with
    | none =>
      rw [ei] at ea
      cases ea
    | some b' =>
      rw [ei] at ea
      cases b' with
      | true => exact ea
      | false => exact ea
  exact ⟨v, cv, t, u0, b, rfl, hcv, ty, is_rel hk F hc k1 k2 g1 g2 ei, q2.now R1 (.bl _)⟩
theorem s_isi2 {e3 : Expr} {c d : Cl} {pt : Pos} {kt} (hk : G.K = X.K) (F : IsiF G cs ds sub) (hg : Gl X "isinstance") (hm : X.mg "isinstance" = none) (he : SE X G W e m) (h2 : SC X G ds e2 c) (h3 : SC X G ds e3 d)
    (hs1 : starEach [e, .Tuple [e2, e3] kt pt] X.env = (false, eval e X.env) :: starEach [.Tuple [e2, e3] kt pt] X.env := by rfl) (hs2 : starEach [.Tuple [e2, e3] kt pt] X.env = (false, eval (.Tuple [e2, e3] kt pt) X.env) :: starEach [] X.env := by rfl) (hpl : (backTo pos (starEach [.Tuple [e2, e3] kt pt] X.env)).any (·.1) = false := by rfl)
    (hs3 : starEach [e2, e3] X.env = (false, eval e2 X.env) :: starEach [e3] X.env := by rfl) (hs4 : starEach [e3] X.env = (false, eval e3 X.env) :: starEach [] X.env := by rfl) :
    SE X G W (.Call (.Name "isinstance" p) [e, .Tuple [e2, e3] kt pt] [] pos) (mIsi cs sub [c, d] m) := by
  obtain ⟨cv, u0, hp, hcv, g1, g2⟩ := h2
  obtain ⟨dv, w0, hp', hdv, f1, f2⟩ := h3
  refine (pe_callB call_isiT hg hm (by decide +kernel) (pa_cons he (pa_cons (pe_tup (pa_cons hp (pa_cons hp' pa_nil hs4) hs3)) pa_nil hs2) hs1) (he := hs1) (hpl := hpl)).imp fun σ H Q ⟨τ, ι, h, sr, R, q⟩ => ⟨τ, ι, h, sr, R, q.bind fun ι1 H1 u h1 v E1 R1 r1 q1 => ?_⟩
  obtain ⟨k, b, ek, hc, ea, q2⟩ := isi_aft q1
  refine ⟨by rw [sizeLine_eq]; simp, fun tp htp => ?_⟩
  have E2 : Ext ι1 H1 ι1 (upd H1 tp (.tup [cv, dv])) := Ext.fresh htp
  have R2 := R1.fresh (o := .tup [cv, dv]) htp
  obtain ⟨t, ty, k1, k2⟩ := kd_rel hk F R2 (r1.ext E2) ek hc
  refine ⟨v, tp, [cv, dv], t, [u0, w0], b, rfl, upd_same, .cons hcv (.cons hdv .nil), ty, ?_, q2 _ _ _ E2 R2 (.bl _)⟩
  unfold anyK at ea
  cases ei : isK sub k c with
  | none =>
    rw [ei] at ea
    cases ea
  | some b1 =>
    rw [ei] at ea
    refine kitAny_cons (is_rel hk F hc k1 k2 g1 g2 ei) (fun z => ?_) fun z => ?_
    · subst z
      dsimp only at ea
      unfold anyK at ea
      cases ej : isK sub k d with
      | none =>
        rw [ej] at ea
        cases ea
      | some b2 =>
        rw [ej] at ea
        refine kitAny_cons (is_rel hk F hc k1 k2 f1 f2 ej) (fun z => ?_) fun z => ?_
        · subst z
          exact ea
        · subst z
          exact (Option.some.inj ea).symm
    · subst z
      exact (Option.some.inj ea).symm
end
end Sm

set_option Elab.async false
set_option linter.all false
set_option maxRecDepth 100000
set_option maxHeartbeats 4000000
/-! Sim, part 17: an exception caught, kept by a name behind the try, asked. -/
namespace PySem.W
open PySem PySem.Spec PySem.Calls PyProof.Rows
section
variable {prog : Program} {w : World} {A : Around} {E : Value → Shared → Prop} {s : Shared} {K : Frag} {x D : Addr} {ox : Obj} {od : Option Obj}
theorem findObj_dataO {C : Addr} {name : Str} {a g : Value} (hc : (clsIn K C).isSome = true) (ha : findIn K (.ref C) name = some (some a)) (hg : specialIn K a "__get__" = some (some g)) (ht : takesIn K a = some true) : findObj K C od name = some (.bind g a) := by
  obtain ⟨cd, hc⟩ := Option.isSome_iff_exists.mp hc
  unfold findObj
  rw [hc, Option.bind_some, ha, Option.bind_some]
  simp [hg, ht]
theorem kin_classO {Q : Option Value → Shared → Prop} (hga : findIn K (.ref D) "__getattribute__" = some (some (.builtin "BaseException.__getattribute__"))) (hgt : findIn K (.ref D) "__getattr__" = some none) (hsub : subIn K (.ref D) (.type "BaseException") = some true)
    (hdct : hasDictIn K D = true) (ha : findIn K (.ref D) "__class__" = some (some (.builtin "object.__class__")))
    (hn : specialIn K (.builtin "object.__class__") "__get__" = some (some (.builtin "getset_descriptor.__get__"))) (htk : takesIn K (.builtin "object.__class__") = some true) (hm : mroIn K D (.type "object") = some true)
    (X : K.In s.heap) (I : InstAt s.heap x ox D od) (h : Q (some (.ref D)) { s with toks := s.toks + 1 }) : wpAny (model prog w) A (getAttr? (.ref x) "__class__") Q E s := by
  have hf : findObj K D od "__class__" = some (.bind (.builtin "getset_descriptor.__get__") (.builtin "object.__class__")) := findObj_dataO (by obtain ⟨cd, hc, _⟩ := any_some hdct; rw [hc]; rfl) ha hn htk
  obtain ⟨hp, g, d, t, os⟩ := s
  have L0 := I.type (M := model prog w)
  have L1 := looks_findIn (M := model prog w) X hga
  have L2 := looks_findIn (M := model prog w) X hgt
  have L3 := looks_find (M := model prog w) X I hf
  have sub : Looks (model prog w) hp (isInstance (.ref x) (.type "BaseException")) true := L0.andThen (looks_subIn X hsub)
  have hx0 : (false && onTheHeap (Value.builtin "BaseException.__getattribute__")) = false := rfl
  have hx2 : (Value.builtin "BaseException.__getattribute__" == Value.builtin "object.__getattribute__") = false := by decide +kernel
  have hx1 : (onTheHeap (Value.ref D) && Value.builtin "BaseException.__getattribute__" == Value.builtin "object.__getattribute__") = false := by rw [hx2]; rfl
  unfold getAttr? getAttrBy? getAttrBy
  refine wpAny_bind (wpAny_mkText (wpAny_bind (wpAny_attempt (wpAny_holding (wpAny_bind (L0.at (wpAny_bind (L1.at ?_))))))))
  show wpAny _ _ (if (onTheHeap (Value.ref D) && Value.builtin "BaseException.__getattribute__" == Value.builtin "object.__getattribute__") = true then _ else _) _ _ _
  rw [hx1, if_neg Bool.false_ne_true]
  unfold getAttrByItsOwn hookBefore
  refine wpAny_bind ?_
  rw [if_pos (show onTheHeap (Value.ref D) = true from rfl)]
  refine L2.at ?_
  refine wpAny_bind (wpAny_attempt (wpAny_holding ?_))
  unfold callGetattribute
  rw [hx0, if_neg Bool.false_ne_true]
  unfold boundAndCalled
  rw [PySem.F.excAttr_ValueError.ga.bind (.ref x)]
  refine wpAny_bind (wpAny_pure ?_)
  show wpAny _ _ (call (.builtin "BaseException.__getattribute__") [.ref x, .str "__class__" t]) _ _ _
  refine wpAny_call (codeAny_call_builtin PySem.F.excAttr_ValueError.ga.plain PySem.F.entry_bexc_ga ?_)
  refine @check_slot (model prog w) _ _ ⟨hp, g, d, t + 1, os⟩ "BaseException.__getattribute__" "BaseException" "__getattribute__" (.ref x) [.str "__class__" t] [] _ (by decide +kernel) (by decide +kernel) sub (PySem.F.args_bexc_ga (.ref x) (.str "__class__" t)) ?_
  unfold Builtin.«object.__getattribute__»
  refine wpAny_bind (wpAny_of_eq (a := ((Value.ref x : Value), [Value.str "__class__" t])) (by first | rfl | (simp only [slotArgs]; rfl)) ?_)
  refine wpAny_bind (wpAny_pure (wpAny_bind (L0.at (wpAny_bind (L3.at ?_)))))
  show wpAny _ _ (holding [Value.builtin "object.__class__"] (call (.builtin "getset_descriptor.__get__") [.builtin "object.__class__", .ref x, .ref D]) >>= ret) _ _ _
  refine wpAny_bind (wpAny_holding (wpAny_call (class_get (s := ⟨hp, g, d, t + 1, os⟩) (ox := ox) (od := od) X I hm ?_)))
  refine wpAny_pure ?_
  show wpAny _ _ (handedOut (.ref D)) _ _ _
  rw [handedOut_of (v := .ref D) rfl]
  first
    | exact wpAny_pure (wpAny_pure h)
    | exact wpAny_pure h
    | exact wpAny_pure (wpAny_bind (wpAny_pure (wpAny_pure h)))
theorem kitx_excO (hga : findIn K (.ref D) "__getattribute__" = some (some (.builtin "BaseException.__getattribute__"))) (hgt : findIn K (.ref D) "__getattr__" = some none) (hsub : subIn K (.ref D) (.type "BaseException") = some true) (hdct : hasDictIn K D = true) (ha : findIn K (.ref D) "__class__" = some (some (.builtin "object.__class__")))
    (hn : specialIn K (.builtin "object.__class__") "__get__" = some (some (.builtin "getset_descriptor.__get__"))) (htk : takesIn K (.builtin "object.__class__") = some true) (hm : mroIn K D (.type "object") = some true) :
    KitX K (.ref x) (.ref D) (fun h => ∃ od, InstAt h x ox D od) where
  ty := fun _ _ _ I => I.choose_spec.type
  it := fun _ _ X _ => by
    obtain ⟨cdD, hcD, _⟩ := any_some hdct
    unfold clsIn at hcD
    split at hcD
    · rename_i c' d' cd' sl' ho
      intro A' Q' E' s' k q
      unfold isType loadHead
      exact wpAny_bind (wpAny_loadPart (k _ _ (X _ _ ho)) (wpAny_pure q))
    · cases hcD
  ne := fun h tp dd its n sl X htp => by
    obtain ⟨cdD, hcD, _⟩ := any_some hdct
    refine Bool.eq_false_iff.mpr fun q => ?_
    have e : D = tp := Value.ref.inj (beq_iff_eq.mp q)
    subst e
    unfold clsIn at hcD
    split at hcD
    · rename_i c' d' cd' sl' ho
      have z := (X _ _ ho).symm.trans htp
      cases z
    · cases hcD
  ca := fun X I k => by
    obtain ⟨od, I⟩ := I
    exact kin_classO (od := od) hga hgt hsub hdct ha hn htk hm X I k
end
end PySem.W
namespace Sm
open PySem PySem.Spec PyProof.Rows L2
section
variable {Y : Cx} {a C D : Addr} {oe : Obj} {d : Option Addr} {cls : Value} {pos : Pos} {n : Str} {te : TE} {e : Expr}
/-- the caught one's dict, if it has one -/
theorem inst_exc {pins : List (Addr × Obj)} {σ : L2.St} {H : Hp} {s : Shared} (I : Inv Y pins σ H s) (hp : (a, oe) ∈ Y.pn) (hz : Zc (.ref D) d oe) (hf : ∃ vs, oe.data = .fields vs) (hd : d = none ∨ ∃ dd fs, d = some dd ∧ H dd = some (.xd fs)) : ∃ od, PySem.W.InstAt s.heap a oe D od := by
  obtain ⟨ha, _⟩ := I.pin (a, oe) (List.mem_append_left _ hp)
  obtain ⟨vs, hv⟩ := hf
  have hno : PySem.W.notCls oe = true := by
    unfold PySem.W.notCls
    rw [hv]
  rcases hd with rfl | ⟨dd, fs, rfl, ea⟩
  · refine ⟨none, ha, hz.1, hno, ?_⟩
    rw [hz.2]
    trivial
  · have hx : ObjOk Y.prog Y.w H s.heap dd (.xd fs) := I.hok dd _ ea
    obtain ⟨mA, hns, hr⟩ := hx
    obtain ⟨od, ho, hl⟩ := lookIn_ns hns
    exact ⟨some od, ha, hz.1, hno, by rw [hz.2]; exact ho⟩
/-- isinstance(e, c), e the kept exception -/
def rIsO (K : PySem.W.Frag) (D a : Addr) (d : Option Addr) : List V → Hp → VK → Prop := fun xs H Q => ∃ (c : V) (cv : Value) (b : Bool), xs = [.ref a, c] ∧ (∀ u, RelV c u → u = cv) ∧ PySem.W.kitOne K (.ref D) cv = some b ∧ (d = none ∨ ∃ dd fs, d = some dd ∧ H dd = some (.xd fs)) ∧ Q (.bl b) H
theorem call_isO (hp : (a, oe) ∈ Y.pn) (F : ExcC Y.K D) (hz : Zc (.ref D) d oe) (hf : ∃ vs, oe.data = .fields vs) : CallR Y (.builtin "isinstance") (rIsO Y.K D a d) := by
  intro pins s σ H xs us Q I r h
  obtain ⟨c, cv, b, rfl, hcv, e, hd, q⟩ := h
  cases r with
  | cons rx rr =>
    cases rr with
    | cons rt rr =>
      cases rr
      cases rx
      have ec := hcv _ rt
      subst ec
      exact PySem.W.kia_one (PySem.W.kitx_excO F.hg F.hk F.hs F.hd F.ha F.hn F.ht F.hm) I.kIn (inst_exc I hp hz hf hd) e (fun z => nomatch z) fun tk => ⟨.bl b, H, I.kept (t' := tk) fun _ _ z => z, rfl, q⟩
/-- .. its field -/
theorem pe_xfO (hp : (a, oe) ∈ Y.pn) (T : XfC Y.K C) (hno : PySem.W.findIn Y.K (.ref C) n = some none) (hz : Zc cls d oe) (hf : ∃ vs, oe.data = .fields vs) (he : PE Y e te) (hb : attributeBase e n Y.env (eval e Y.env) = eval e Y.env := by rfl) :
    PE Y (.Attribute e n pos) (tXf a cls d C n te) := by
  refine ⟨fun pins s σ H Q I h => ?_⟩
  refine attr_of hb (thn (he.run pins s σ H _ I h) fun u s1 hh => ?_)
  obtain ⟨x, H1, I1, rx, ex, ec, dd, fs, v, ed, ea, l, q⟩ := hh
  subst ex
  obtain rfl : u = Value.ref a := rx
  subst ec
  subst ed
  obtain ⟨ha, _⟩ := I1.pin (a, oe) (List.mem_append_left _ hp)
  obtain ⟨vs, hd⟩ := hf
  have hx : ObjOk Y.prog Y.w H1 s1.heap dd (.xd fs) := I1.hok dd _ ea
  obtain ⟨mA, hns, hr⟩ := hx
  obtain ⟨od, ho, hl⟩ := lookIn_ns hns
  obtain ⟨u, hu, ru⟩ := RelO.some_of (v := v) (o := mA n) (by rw [← l]; exact hr n)
  have J : PySem.W.InstAt s1.heap a oe C (some od) := ⟨ha, hz.1, by unfold PySem.W.notCls; rw [hd] <;> rfl, by rw [hz.2]; exact ho⟩
  exact HandSPX.exc_get I1.kIn J T.ga T.gg T.exC (PySem.W.findObj_own T.hdC hno rfl (by rw [hl, hu])) (handed_of ru) ⟨v, H1, I1.tok _, ru, q⟩
end
/-! ### try .. except x as n: y = n; what stands behind -/
def wKeep (K : PySem.W.Frag) (c : Value) (L i j : Nat) (tE : Addr → Value → Option Addr → TS) (D : Ends) : WX := fun cls d σ H =>
  PySem.W.exmOne K cls c = some true ∧ ∀ a, σ.length = L → H a = none → tE a cls d D ((((σ.set i (some (.ref a))).set j (some (.ref a))).set i none)) H
section
variable {X : Cx} {x n y : Str} {c : Value} {i j : Nat} {body rest : List Stmt} {np py pn' pa pos pos' : Pos} {tb : WX → TS} {t0 : TS} {tE : Addr → Value → Option Addr → TS}
theorem pss_keep (hs : X.stack = X.env :: X.outer) (hf : X.env.frame = some X.env.locals) (hN : X.N.Nodup) (hi : X.N[i]? = some n) (hln : X.env.kindOf n = some .local) (hj : X.N[j]? = some y) (hly : X.env.scope.names.lookup y = some .local) (hij : j ≠ i) (hil : i < X.N.length) (hc : Names X x c)
    (hb : ∀ (W : WX) (pn : List (Addr × Obj)) (xe : Value → Shared → Prop), Takes (X.tr pn xe) W → PassesOwn (model X.prog X.w) X.A X.env xe → PSs (X.tr pn xe) body (tb W))
    (h0 : PSs X rest t0)
    (hE : ∀ (a : Addr) (oe : Obj) (cls : Value) (d : Option Addr) (pn : List (Addr × Obj)), (a, oe) ∈ pn → Zc cls d oe → (∃ vs, oe.data = .fields vs) → PSs (X.tr pn X.xe) rest (tE a cls d))
    (hdn : (n == ("__debug__" : Str)) = false := by decide) (hdc : (n == ("__classdict__" : Str)) = false := by decide) :
    PSs X (.Try body [.ExceptHandler (some (.Name x np)) (some n) [.Assign [.Name y py] (.Name n pn') pa] pos'] [] [] pos :: rest) (fun D σ H => tb (wKeep X.K c X.N.length i j tE D) { D with nx := t0 D } σ H) := by
  refine ⟨fun pins s σ H D I h => ?_⟩
  have ok := I.ok
  have hfr : X.A.frames = some (X.env :: X.outer) := by rw [ok.frames, hs]
  have hloc : Loc X.env.scope n := .inl hln
  have fin0 : ∀ (f : Flow) (s1 : Shared), SP X pins { D with nx := t0 D } f s1 → (match f with
      | .next => wpAny (model X.prog X.w) X.A (execs rest X.env) (SP X pins D) X.xe s1
      | f => SP X pins D f s1) := fun f s1 q => by
    cases f with
    | next =>
      obtain ⟨σ', H', I', q⟩ := q
      exact h0.run pins s1 σ' H' D I' q
    | ret v => exact q
    | brk => exact q
    | cont => exact q
  refine wpAny_execs_cons (wpAny_Try_except ?_)
  refine wpAny_mono ((hb (wKeep X.K c X.N.length i j tE D) (X.pn ++ pins) (fun e s₁ => wpAny (model X.prog X.w) X.A (noteFrame e X.env) (fun _ s₂ => wpAny (model X.prog X.w) X.A (setFlight e none) (fun _ s₃ =>
    wpAny (model X.prog X.w) X.A (handleBy e X.env [.ExceptHandler (some (.Name x np)) (some n) [.Assign [.Name y py] (.Name n pn') pa] pos']) (fun f s' => match f with
      | .next => wpAny (model X.prog X.w) X.A (execs rest X.env) (SP X pins D) X.xe s'
      | f => SP X pins D f s') X.xe s₃) X.xe s₂) X.xe s₁) (fun u s' xx => ?_) PassesOwn.looking).run [] s σ H _ (I.toTry _) h) (fun f s1 hsp => ?_) (fun e s1 he => he)
  · -- the catch
    obtain ⟨a, B, sI, pins', σ', H', cls, d, rfl, J', nb, up, sky, na, os, ag, hb1, hyes⟩ := xx
    have J : Inv X pins σ' H' sI := J'.ofTry ok
    have sky' : Sky B (X.env :: X.outer) a (Zc cls d) X.env.locals s'.heap := by rw [← hs]; exact sky
    show wpAny (model X.prog X.w) X.A (noteFrame (.ref a) X.env) _ _ _
    refine Sky.land Zc.steady hfr hf sky' fun h3 fl3 up3 => ?_
    have J3 : Inv X pins σ' H' { s' with heap := h3 } := J.landed nb fl3.1 (up.trans up3) os ag
    obtain ⟨oe3, vs3, he3, hz3, hd3⟩ := fl3.there
    have notFr : ∀ {h : Heap} {o : Obj} {vs : Array Value}, h.FunFrames B (X.env :: X.outer) → h.get? a = some o → o.data = .fields vs → a ∉ frs (X.env :: X.outer) := fun {h o vs} ff e dd hm => by
      obtain ⟨_, o', e', hnf⟩ := ff.mem hm
      rw [e] at e'; cases e'
      exact hnf _ dd
    have nfr := notFr fl3.2.2.1 he3 hd3
    have nL : a ≠ X.env.locals := fun z => nfr (List.mem_filterMap.mpr ⟨X.env, List.mem_cons_self, by rw [hf, z]⟩)
    have nF : a ∉ X.fs := fun hm => by
      obtain ⟨e, he, q⟩ := List.mem_filterMap.mp hm
      exact nfr (List.mem_filterMap.mpr ⟨e, List.mem_cons_of_mem _ he, q⟩)
    have S3 := J3.suite he3 hd3 na nL nF
    refine wpAny_handleBy_cons (codeAny_handlers_test ?_) (by intro q; cases q)
    have LT : PySem.W.Looks (model X.prog X.w) h3 (typeOf (.ref a)) cls := fun A Q E s k q => wpAny_typeOf_ref (k _ _ he3) (by rw [hz3.1]; exact q)
    have LM := PySem.W.exm_one (M := model X.prog X.w) (J3.kIn) LT hb1
    have test : ∀ {Q : Value → Shared → Prop} {E : Value → Shared → Prop}, Q c { s' with heap := h3 } → wpAny (model X.prog X.w) (X.A.mark (some (.ref a))) (eval (.Name x np) X.env) Q E { s' with heap := h3 } := fun {Q E} q => by
      obtain ⟨hg, hdbg, hm | ⟨hm, hv, hnn⟩⟩ := hc
      · exact ld_glob (X := X.suite a ((a, oe3) :: (X.pn ++ pins))) S3 hg hm q hdbg
      · exact ld_blt (X := X.suite a ((a, oe3) :: (X.pn ++ pins))) S3 hg hm hv q hnn hdbg
    refine test (LM.here ?_)
    refine codeAny_handlers_suite_as ?_
    refine HandSPX.lands_againZ fl3 fun h4 fl4 up4 => ?_
    have J4 : Inv X pins σ' H' { s' with heap := h4 } := J.landed nb fl4.1 ((up.trans up3).trans up4) os ag
    obtain ⟨oe4, vs4, he4, hz4, hd4⟩ := fl4.there
    have S4 := J4.suite he4 hd4 na nL nF
    refine store_ok (X := X.suite a ((a, oe4) :: (X.pn ++ pins))) (v := .ref a) S4 hN hi hloc rfl (fun s5 S5 => ?_) (.inr hln)
    have hasg : PSs (X.suite a ((a, oe4) :: (X.pn ++ pins))) [.Assign [.Name y py] (.Name n pn') pa] _ := pss_one (ps_set (i := j) hN hj (.inl hly) (pe_var (i := i) hi (.inl hln) hdn hdc) (by rfl) (.inr hly))
    have hlen : i < σ'.length := by rw [J'.len]; exact hil
    refine wpAny_mono (hasg.run [] s5 _ H' { nx := fun σ6 H6 => σ6 = (σ'.set i (some (.ref a))).set j (some (.ref a)) ∧ H6 = H', rt := fun _ _ => False } S5 ⟨_, List.getElem?_set_self hlen, rfl, rfl⟩) (fun f s6 hsp => ?_) (fun _ _ z => False.elim z)
    cases f with
    | next =>
      obtain ⟨σ6, H6, S6, e6, eH6⟩ := hsp
      subst e6 eH6
      have S7 : Inv X ((a, oe4) :: pins) ((σ'.set i (some (.ref a))).set j (some (.ref a))) H6 s6 :=
        ⟨ok, S6.os, S6.bare, S6.base, S6.loc, S6.cell, S6.free, S6.freeC, fun p hp => S6.pin p (by
          rw [List.append_nil]
          rcases List.mem_append.mp hp with z | z
          · exact List.mem_cons_of_mem _ (List.mem_append_left _ z)
          · rcases List.mem_cons.mp z with z | z
            · rw [z]
              exact List.mem_cons_self
            · exact List.mem_cons_of_mem _ (List.mem_append_right _ z)), S6.hok, S6.len⟩
      refine gone_ok S7 hN hi hln fun s7 J7 => ?_
      have q := hyes a J'.len na
      refine wpAny_mono ((hE a oe4 cls d (X.pn ++ ((a, oe4) :: pins)) (List.mem_append_right _ List.mem_cons_self) hz4 ⟨_, hd4⟩).run [] s7 _ H6 D (J7.toTry X.xe) q) (fun f s8 h8 => ?_) fun _ _ z => z
      have un : ∀ {σ8 : L2.St} {H8 : Hp}, Inv (X.tr (X.pn ++ ((a, oe4) :: pins)) X.xe) [] σ8 H8 s8 → Inv X pins σ8 H8 s8 := fun {σ8 H8} K => ClX.unpin (K.ofTry ok)
      cases f with
      | next =>
        obtain ⟨σ8, H8, K8, q8⟩ := h8
        exact ⟨_, _, un K8, q8⟩
      | brk =>
        obtain ⟨σ8, H8, K8, q8⟩ := h8
        exact ⟨_, _, un K8, q8⟩
      | cont =>
        obtain ⟨σ8, H8, K8, q8⟩ := h8
        exact ⟨_, _, un K8, q8⟩
      | ret u =>
        obtain ⟨v8, σ8, H8, K8, r8, q8⟩ := h8
        exact ⟨_, _, _, un K8, r8, q8⟩
    | brk =>
      obtain ⟨_, _, _, z⟩ := hsp
      exact False.elim z
    | cont =>
      obtain ⟨_, _, _, z⟩ := hsp
      exact False.elim z
    | ret u =>
      obtain ⟨_, _, _, _, _, z⟩ := hsp
      exact False.elim z
  · cases f with
    | next =>
      obtain ⟨σ', H', J', q⟩ := hsp
      exact wpAny_execs_nil (fin0 .next _ ⟨σ', H', J'.ofTry ok, q⟩)
    | brk =>
      obtain ⟨σ', H', J', q⟩ := hsp
      exact ⟨σ', H', J'.ofTry ok, q⟩
    | cont =>
      obtain ⟨σ', H', J', q⟩ := hsp
      exact ⟨σ', H', J'.ofTry ok, q⟩
    | ret u =>
      obtain ⟨v, σ', H', J', r, q⟩ := hsp
      exact ⟨v, σ', H', J'.ofTry ok, r, q⟩
end
end Sm

set_option Elab.async false
set_option linter.all false
set_option maxRecDepth 100000
set_option maxHeartbeats 4000000
/-! Sim, part 18: _law_said(lambda: e). Printed by gen_said.py. -/
namespace Sm
open PySem PySem.Spec PyProof.Rows L2

/-- a class that _law_said may be asked of -/
structure Kn (K : PySem.W.Frag) (D : Addr) : Prop where
  exc : ExcC K D
  xf : XfC K D
  no : ∀ f ∈ (["what", "most", "line", "word", "name", "part"] : List Str), PySem.W.findIn K (.ref D) f = some none
/-- the classes' addresses in the order asked -/
structure SaidA where
  (se tm bt bc nn mf no : Addr)
/-- the names that it uses -/
structure SaidN (sg : Scope) (mg : Str → Option Value) (A : SaidA) : Prop where
  ask : sg.names.lookup ("ask" : Str) = some .local
  caught : sg.names.lookup ("caught" : Str) = some .local
  error : sg.names.lookup ("error" : Str) = some .local
  isg : sg.names.lookup ("isinstance" : Str) = some .globalImplicit
  seg : sg.names.lookup ("SheetError" : Str) = some .globalImplicit
  tmg : sg.names.lookup ("TooMany" : Str) = some .globalImplicit
  btg : sg.names.lookup ("BadText" : Str) = some .globalImplicit
  bcg : sg.names.lookup ("BadCommand" : Str) = some .globalImplicit
  nng : sg.names.lookup ("NoName" : Str) = some .globalImplicit
  mfg : sg.names.lookup ("Misfit" : Str) = some .globalImplicit
  nog : sg.names.lookup ("Nothing" : Str) = some .globalImplicit
  ism : mg ("isinstance" : Str) = none
  sem : mg ("SheetError" : Str) = some (.ref A.se)
  tmm : mg ("TooMany" : Str) = some (.ref A.tm)
  btm : mg ("BadText" : Str) = some (.ref A.bt)
  bcm : mg ("BadCommand" : Str) = some (.ref A.bc)
  nnm : mg ("NoName" : Str) = some (.ref A.nn)
  mfm : mg ("Misfit" : Str) = some (.ref A.mf)
  nom : mg ("Nothing" : Str) = some (.ref A.no)
abbrev Ns : List Str := ["ask", "caught", "error", "kinds"]
theorem pss_false {X : Cx} {sts : List Stmt} : PSs X sts (fun _ _ _ => False) := ⟨fun _ _ _ _ _ _ h => h.elim⟩
theorem pss_ex {X : Cx} {sts : List Stmt} {α : Type} {p : α → Prop} {t : α → TS} (h : ∀ a, p a → PSs X sts (t a)) : PSs X sts (fun D σ H => ∃ a, p a ∧ t a D σ H) := ⟨fun pins s σ H D I ⟨a, ha, q⟩ => (h a ha).run pins s σ H D I q⟩

section
variable {X : Cx} {sg : Scope} {A : SaidA} {p1 p2 p3 p4 p5 p6 p7 p8 p9 p10 p11 p12 p13 p14 p15 p16 p17 p18 p19 p20 p21 p22 p23 p24 p25 p26 p27 p28 p29 p30 p31 p32 p33 p34 p35 p36 p37 p38 p39 p40 p41 p42 p43 p44 p45 p46 p47 p48 p49 p50 p51 p52 p53 p54 p55 p56 p57 p58 p59 p60 p61 p62 p63 p64 p65 p66 p67 p68 p69 p70 p71 p72 p73 p74 p75 p76 p77 p78 p79 : Pos} {tail : List Stmt}
abbrev bodySaid (p1 p2 p3 p4 p5 p6 p7 p8 p9 p10 p11 p12 p13 p14 p15 p16 p17 p18 p19 p20 p21 p22 p23 p24 p25 p26 p27 p28 p29 p30 p31 p32 p33 p34 p35 p36 p37 p38 p39 p40 p41 p42 p43 p44 p45 p46 p47 p48 p49 p50 p51 p52 p53 p54 p55 p56 p57 p58 p59 p60 p61 p62 p63 p64 p65 p66 p67 p68 p69 p70 p71 p72 p73 p74 p75 p76 p77 p78 p79 : Pos) (tail : List Stmt) : List Stmt := [.Assign [(.Name "caught" p1)] (.Constant .none 0 p2) p3,
  .Try [.Expr (.Call (.Name "ask" p4) [] [] p5) p6] [.ExceptHandler (some (.Name "SheetError" p7)) (some "error") [.Assign [(.Name "caught" p8)] (.Name "error" p9) p10] p11] [] [] p12,
  .If (.Compare (.Name "caught" p13) [.Is] [.Constant .none 0 p14] p15) [.Return (some (.Constant .none 0 p16)) p17] [] p18,
  .If (.Call (.Name "isinstance" p24) [(.Name "caught" p25), (.Name "TooMany" p26)] [] p27) [.Return (some (.Tuple [(.Constant (.str "many") 0 p19), .Attribute (.Name "caught" p20) "what" p21, .Attribute (.Name "caught" p22) "most" p23] 0 p28)) p29] [] p30,
  .If (.Call (.Name "isinstance" p36) [(.Name "caught" p37), (.Name "BadText" p38)] [] p39) [.Return (some (.Tuple [(.Constant (.str "text") 0 p31), .Attribute (.Name "caught" p32) "line" p33, .Attribute (.Name "caught" p34) "word" p35] 0 p40)) p41] [] p42,
  .If (.Call (.Name "isinstance" p46) [(.Name "caught" p47), (.Name "BadCommand" p48)] [] p49) [.Return (some (.Tuple [(.Constant (.str "command") 0 p43), .Attribute (.Name "caught" p44) "word" p45] 0 p50)) p51] [] p52,
  .If (.Call (.Name "isinstance" p56) [(.Name "caught" p57), (.Name "NoName" p58)] [] p59) [.Return (some (.Tuple [(.Constant (.str "name") 0 p53), .Attribute (.Name "caught" p54) "name" p55] 0 p60)) p61] [] p62,
  .If (.Call (.Name "isinstance" p66) [(.Name "caught" p67), (.Name "Misfit" p68)] [] p69) [.Return (some (.Tuple [(.Constant (.str "misfit") 0 p63), .Attribute (.Name "caught" p64) "what" p65] 0 p70)) p71] [] p72,
  .If (.Call (.Name "isinstance" p73) [(.Name "caught" p74), (.Name "Nothing" p75)] [] p76) [.Return (some (.Constant (.str "nothing") 0 p77)) p78] [] p79] ++ tail

variable {Y : Cx} {a D C : Addr} {oe : Obj} {d : Option Addr} {cls : Value} {x : Str} {q1 q2 q3 q4 q5 q6 q7 q8 q9 : Pos} {yes : List Stmt} {ty : TS}
theorem pe_cau (hN : Y.N[1]? = some ("caught" : Str)) (hv : Y.env.scope.names.lookup ("caught" : Str) = some .local) : PE Y (.Name "caught" q1) (tVar 1) := pe_var (i := 1) hN (.inl hv) (by decide) (by decide)
theorem ask_one (hp : (a, oe) ∈ Y.pn) (kn : Kn Y.K D) (hz : Zc (.ref D) d oe) (hf : ∃ vs, oe.data = .fields vs) (hN : Y.N[1]? = some ("caught" : Str)) (hv : Y.env.scope.names.lookup ("caught" : Str) = some .local) (hi : Gl Y "isinstance") (hm : Y.mg "isinstance" = none) (hg : Gl Y x) (hc : Y.mg x = some (.ref C))
    (hy : PSs Y yes ty) (hdb : (x == ("__debug__" : Str)) = false := by decide) : PS Y (.If (.Call (.Name "isinstance" q1) [.Name "caught" q2, .Name x q3] [] q4) yes [] q5) (tIfS (L2.tB (tCB (rIsO Y.K D a d) (tCons (tVar 1) (tCons (tC (.ref C)) tNil)))) ty tNext) :=
  ps_if (pt_val (pe_callB (call_isO hp kn.exc hz hf) hi hm (by decide +kernel) (pa_cons (pe_cau hN hv) (pa_cons (pe_glob hg hc (v := .ref C) rfl hdb) pa_nil rfl) rfl) (he := rfl) (hpl := rfl))) hy pss_nil
theorem ask_sem {K : PySem.W.Frag} {DD : Ends} {σ : L2.St} {H : Hp} (b : Bool) (h1 : σ[1]? = some (some (V.ref a))) (hk : PySem.W.kitOne K (.ref D) (.ref C) = some b) (hd : d = none ∨ ∃ dd fs, d = some dd ∧ H dd = some (.xd fs)) (hy : b = true → ty DD σ H) (hn : b = false → DD.nx σ H) :
    tIfS (L2.tB (tCB (rIsO K D a d) (tCons (tVar 1) (tCons (tC (.ref C)) tNil)))) ty tNext DD σ H := by
  refine ⟨_, h1, .ref C, .ref C, b, rfl, fun u r => r, hk, hd, b, rfl, ?_⟩
  cases b with
  | true => exact hy rfl
  | false => exact hn rfl
theorem ret2 {f g : Str} {s : Str} (hp : (a, oe) ∈ Y.pn) (kn : Kn Y.K D) (hz : Zc (.ref D) d oe) (hf : ∃ vs, oe.data = .fields vs) (hN : Y.N[1]? = some ("caught" : Str)) (hv : Y.env.scope.names.lookup ("caught" : Str) = some .local) (h1 : PySem.W.findIn Y.K (.ref D) f = some none) (h2 : PySem.W.findIn Y.K (.ref D) g = some none) :
    PSs Y [.Return (some (.Tuple [.Constant (.str s) 0 q1, .Attribute (.Name "caught" q2) f q3, .Attribute (.Name "caught" q4) g q5] 0 q6)) q7] (tRet (tTup (tCons (tC (.str s)) (tCons (tXf a (.ref D) d D f (tVar 1)) (tCons (tXf a (.ref D) d D g (tVar 1)) tNil))))) :=
  pss_one (ps_ret (pe_tup (pa_cons pe_str (pa_cons (pe_xfO hp kn.xf h1 hz hf (pe_cau hN hv)) (pa_cons (pe_xfO hp kn.xf h2 hz hf (pe_cau hN hv)) pa_nil rfl) rfl) rfl)))
theorem ret1 {f : Str} {s : Str} (hp : (a, oe) ∈ Y.pn) (kn : Kn Y.K D) (hz : Zc (.ref D) d oe) (hf : ∃ vs, oe.data = .fields vs) (hN : Y.N[1]? = some ("caught" : Str)) (hv : Y.env.scope.names.lookup ("caught" : Str) = some .local) (h1 : PySem.W.findIn Y.K (.ref D) f = some none) :
    PSs Y [.Return (some (.Tuple [.Constant (.str s) 0 q1, .Attribute (.Name "caught" q2) f q3] 0 q6)) q7] (tRet (tTup (tCons (tC (.str s)) (tCons (tXf a (.ref D) d D f (tVar 1)) tNil)))) :=
  pss_one (ps_ret (pe_tup (pa_cons pe_str (pa_cons (pe_xfO hp kn.xf h1 hz hf (pe_cau hN hv)) pa_nil rfl) rfl)))

/-- x is None -/
def rNo : R2 := fun x y H Q => y = .non ∧ Q (.bl (decide (x = .non))) H
/-- one test after the other: the first that says yes answers -/
def tRows (K : PySem.W.Frag) (D a : Addr) (d : Option Addr) : List (Addr × TS) → TS → TS
  | [], t => t
  | p :: r, t => tSeq (tIfS (L2.tB (tCB (rIsO K D a d) (tCons (tVar 1) (tCons (tC (.ref p.1)) tNil)))) p.2 tNext) (tRows K D a d r t)
theorem rows_sem {K : PySem.W.Frag} {DD : Ends} {σ : L2.St} {H : Hp} {t : TS} (h1 : σ[1]? = some (some (V.ref a))) (hd : d = none ∨ ∃ dd fs, d = some dd ∧ H dd = some (.xd fs)) : ∀ (k : Nat) (rs : List (Addr × TS)), (∀ j p, j < k → rs[j]? = some p → PySem.W.kitOne K (.ref D) (.ref p.1) = some false) →
    ∀ p, rs[k]? = some p → PySem.W.kitOne K (.ref D) (.ref p.1) = some true → p.2 { DD with nx := fun _ _ => False } σ H → (∀ nx, p.2 { DD with nx := fun _ _ => False } σ H → p.2 { DD with nx := nx } σ H) → tRows K D a d rs t DD σ H
  | _, [], _, p, e, _, _, _ => nomatch e
  | 0, q :: rs, _, p, e, hk, hy, hm => by
    cases e
    exact ask_sem true h1 hk hd (fun _ => hm _ hy) fun z => nomatch z
  | k + 1, q :: rs, hf, p, e, hk, hy, hm => ask_sem false h1 (hf 0 q (Nat.succ_pos _) rfl) hd (fun z => nomatch z) fun _ => rows_sem h1 hd k rs (fun j p hj ej => hf (j + 1) p (Nat.succ_lt_succ hj) ej) p e hk hy hm
/-- the six answers -/
def sixR (A : SaidA) (D a : Addr) (d : Option Addr) : List (Addr × TS) := [(A.tm, tRet (tTup (tCons (tC (.str "many")) (tCons (tXf a (.ref D) d D "what" (tVar 1)) (tCons (tXf a (.ref D) d D "most" (tVar 1)) tNil))))), (A.bt, tRet (tTup (tCons (tC (.str "text")) (tCons (tXf a (.ref D) d D "line" (tVar 1)) (tCons (tXf a (.ref D) d D "word" (tVar 1)) tNil))))), (A.bc, tRet (tTup (tCons (tC (.str "command")) (tCons (tXf a (.ref D) d D "word" (tVar 1)) tNil)))), (A.nn, tRet (tTup (tCons (tC (.str "name")) (tCons (tXf a (.ref D) d D "name" (tVar 1)) tNil)))), (A.mf, tRet (tTup (tCons (tC (.str "misfit")) (tCons (tXf a (.ref D) d D "what" (tVar 1)) tNil)))), (A.no, tRet (tC (.str "nothing")))]
/-- the exception's branch behind the try -/
def tExc (K : PySem.W.Frag) (A : SaidA) (tt : Addr → Addr → Option Addr → TS) (D a : Addr) (d : Option Addr) : TS := tSeq (tIfS (tTest (tOp rNo (tVar 1) (tC .non))) (tRet (tC .non)) tNext) (tRows K D a d (sixR A D a d) (tt D a d))
def SaidOk (K : PySem.W.Frag) (A : SaidA) (tt : Addr → Addr → Option Addr → TS) (cls : Value) (d : Option Addr) (H : Hp) (Q : VK) : Prop := ∃ D, Kn K D ∧ cls = .ref D ∧ PySem.W.exmOne K (.ref D) (.ref A.se) = some true ∧
  ∀ (σ : L2.St) a, σ.length = 4 → H a = none → tExc K A tt D a d { nx := fun _ H' => Q .non H', rt := Q } (((σ.set 2 (some (.ref a))).set 1 (some (.ref a))).set 2 none) H
def TTs (K : PySem.W.Frag) (A : SaidA) (tt : Addr → Addr → Option Addr → TS) : (XK → Hp → VK → Prop) → Hp → VK → Prop := fun tl H Q => tl (fun cls d H' => SaidOk K A tt cls d H' Q) H (fun _ H' => Q .non H')
theorem said_gives {g : Addr} {cdg : Value} {q : Str} (SN : SaidN sg X.mg A) {tt : Addr → Addr → Option Addr → TS}
    (htail : ∀ (Y : Cx) (a : Addr) (oe : Obj) (D : Addr) (d : Option Addr), Y.K = X.K → Y.mg = X.mg → Y.N = Ns → Y.env.scope = sg → Y.calm = true → (a, oe) ∈ Y.pn → Kn Y.K D → Zc (.ref D) d oe → (∃ vs, oe.data = .fields vs) → PSs Y tail (tt D a d)) :
    LamX.GivesTo X Ns "_law_said" sg g cdg (bodySaid p1 p2 p3 p4 p5 p6 p7 p8 p9 p10 p11 p12 p13 p14 p15 p16 p17 p18 p19 p20 p21 p22 p23 p24 p25 p26 p27 p28 p29 p30 p31 p32 p33 p34 p35 p36 p37 p38 p39 p40 p41 p42 p43 p44 p45 p46 p47 p48 p49 p50 p51 p52 p53 p54 p55 p56 p57 p58 p59 p60 p61 p62 p63 p64 p65 p66 p67 p68 p69 p70 p71 p72 p73 p74 p75 p76 p77 p78 p79 tail) "ask" q (TTs X.K A tt) := by
  intro f c' s H Q tl act hc h
  have key : PSs (cxOf C8.CX0 X.prog X.w X.K X.mg X.base Ns "_law_said" sg g cdg X.A X.stack s H C8.E0).nox (bodySaid p1 p2 p3 p4 p5 p6 p7 p8 p9 p10 p11 p12 p13 p14 p15 p16 p17 p18 p19 p20 p21 p22 p23 p24 p25 p26 p27 p28 p29 p30 p31 p32 p33 p34 p35 p36 p37 p38 p39 p40 p41 p42 p43 p44 p45 p46 p47 p48 p49 p50 p51 p52 p53 p54 p55 p56 p57 p58 p59 p60 p61 p62 p63 p64 p65 p66 p67 p68 p69 p70 p71 p72 p73 p74 p75 p76 p77 p78 p79 tail) (tSeq (tAsg (tC .non) (gName 1)) (fun D σ H => (fun (W : WX) (D : Ends) (σ : L2.St) (H : Hp) => ∃ E : XK, (∀ cls d σ' H', E cls d H' → W cls d σ' H') ∧ σ[0]? = some (some (V.ref f)) ∧ H c' = some (LamX.CodeO c' q) ∧ tl E H (fun _ H' => D.nx σ H'))
      (wKeep X.K (.ref A.se) 4 2 1 (fun a cls d D σ H => ∃ DD, (Kn X.K DD ∧ cls = .ref DD) ∧ tExc X.K A tt DD a d D σ H) D) { D with nx := (fun D σ H => σ[1]? = some (some V.non) ∧ D.rt .non H) D } σ H)) :=
    pss_cons (ps_set (i := 1) (show Ns.Nodup by decide) rfl (.inl SN.caught) (pe_non (j := 0)) rfl (.inl rfl))
      (pss_keep (X := (cxOf C8.CX0 X.prog X.w X.K X.mg X.base Ns "_law_said" sg g cdg X.A X.stack s H C8.E0).nox) (i := 2) (j := 1) (c := .ref A.se) (tE := fun a cls d D σ H => ∃ DD, (Kn X.K DD ∧ cls = .ref DD) ∧ tExc X.K A tt DD a d D σ H)
        (tb := fun W D σ H => ∃ E : XK, (∀ cls d σ' H', E cls d H' → W cls d σ' H') ∧ σ[0]? = some (some (V.ref f)) ∧ H c' = some (LamX.CodeO c' q) ∧ tl E H (fun _ H' => D.nx σ H'))
        rfl rfl (show Ns.Nodup by decide) rfl SN.error rfl SN.caught (by decide) (show 2 < Ns.length by decide) ⟨SN.seg, by decide, .inl SN.sem⟩
        (fun W pn xe tk _ => pss_one ⟨fun pins s' σ H D I ⟨E, hW, h1, h2, h3⟩ => (ps_expr (act W pn xe E p4 p5 tk hW)).run pins s' σ H D I ⟨h1, h2, h3⟩⟩)
        ((pss_cons (ps_if (pt_cmpR op_isN (pe_cau rfl SN.caught) (pe_non (j := 0)) rfl) (pss_one (ps_ret (pe_non (j := 0)))) pss_nil) pss_false).imp fun D σ H ⟨h1, h2⟩ => ⟨_, h1, rfl, _, rfl, h2⟩)
        (fun a oe cls d pn hp hz hf => pss_ex fun DD ⟨kn, ec⟩ => by
          subst ec
          exact pss_cons (ps_if (pt_cmpR op_isN (pe_cau rfl SN.caught) (pe_non (j := 0)) rfl) (pss_one (ps_ret (pe_non (j := 0)))) pss_nil)
            (pss_cons (ask_one hp kn hz hf rfl SN.caught SN.isg SN.ism SN.tmg SN.tmm (ret2 hp kn hz hf rfl SN.caught (kn.no _ (by simp)) (kn.no _ (by simp))))
            (pss_cons (ask_one hp kn hz hf rfl SN.caught SN.isg SN.ism SN.btg SN.btm (ret2 hp kn hz hf rfl SN.caught (kn.no _ (by simp)) (kn.no _ (by simp))))
            (pss_cons (ask_one hp kn hz hf rfl SN.caught SN.isg SN.ism SN.bcg SN.bcm (ret1 hp kn hz hf rfl SN.caught (kn.no _ (by simp))))
            (pss_cons (ask_one hp kn hz hf rfl SN.caught SN.isg SN.ism SN.nng SN.nnm (ret1 hp kn hz hf rfl SN.caught (kn.no _ (by simp))))
            (pss_cons (ask_one hp kn hz hf rfl SN.caught SN.isg SN.ism SN.mfg SN.mfm (ret1 hp kn hz hf rfl SN.caught (kn.no _ (by simp))))
            (pss_cons (ask_one hp kn hz hf rfl SN.caught SN.isg SN.ism SN.nog SN.nom (pss_one (ps_ret pe_str)))
              (htail _ a oe DD d rfl rfl rfl rfl rfl hp kn hz hf)))))))))
  refine ⟨_, key, ?_⟩
  refine ⟨fun cls d H' => SaidOk X.K A tt cls d H' Q, fun cls d σ' H' ⟨D, kn, ec, ex, hh⟩ => ⟨by rw [ec]; exact ex, fun a hl ha => ⟨D, ⟨kn, ec⟩, hh σ' a hl ha⟩⟩, rfl, hc, ?_⟩
  have e : (fun (x : V) H' => (List.set (L2.start Ns [V.ref f]) 1 (some V.non))[1]? = some (some V.non) ∧ Q .non H') = (fun (_ : V) H' => Q .non H') := by
    funext x H'
    exact propext ⟨fun z => z.2, fun z => ⟨rfl, z⟩⟩
  have h' : tl (fun cls d H' => SaidOk X.K A tt cls d H' Q) H (fun _ H' => Q .non H') := h
  rw [← e] at h'
  exact h'
end
end Sm
set_option Elab.async false
set_option linter.all false
set_option maxRecDepth 100000
set_option maxHeartbeats 4000000
/-! Sim, part 19: the mirror of _law_said(lambda: e). -/
namespace Sm
open PySem PySem.Spec PyProof.Rows L2
def lks : List Nat → List (Nat × U) → Option (List U)
  | [], _ => some []
  | f :: r, fs => match lkF f fs with
    | some u => match lks r fs with
      | some us => some (u :: us)
      | none => none
    | none => none
def wk : Nat → List Nat
  | 0 => [109, 97, 110, 121]
  | 1 => [116, 101, 120, 116]
  | 2 => [99, 111, 109, 109, 97, 110, 100]
  | 3 => [110, 97, 109, 101]
  | _ => [109, 105, 115, 102, 105, 116]
/-- by a table: a class, its row, its fields -/
def saidBy (tb : Nat → Option (Nat × List Nat)) : Ex → Option U := fun e => match tb e.c with
  | some (k, fl) => match Nat.beq k 5 with
    | true => some (.str [110, 111, 116, 104, 105, 110, 103])
    | false => match lks fl e.fs with
      | some us => some (.tup (.str (wk k) :: us))
      | none => none
  | none => none
def mSaid (sf : Ex → Option U) (m : EM) : EM := fun τ h => match m τ h with
  | .ok _ h1 => .ok .non h1
  | .err e h1 => match sf e with
    | some u => .ok u h1
    | none => .no
  | .no => .no
def fnames : Nat → List Str
  | 0 => ["what", "most"]
  | 1 => ["line", "word"]
  | 2 => ["word"]
  | 3 => ["name"]
  | 4 => ["what"]
  | _ => []
def clAt (A : SaidA) : Nat → Addr
  | 0 => A.tm
  | 1 => A.bt
  | 2 => A.bc
  | 3 => A.nn
  | 4 => A.mf
  | _ => A.no
/-- the table tells right -/
structure SaidTb (K : PySem.W.Frag) (G : Wd) (A : SaidA) (tb : Nat → Option (Nat × List Nat)) : Prop where
  row : ∀ c k fl, tb c = some (k, fl) → k ≤ 5 ∧ fl.map G.nm = fnames k ∧ ∀ C, G.gl c = some C → Kn K C ∧ PySem.W.exmOne K (.ref C) (.ref A.se) = some true ∧
    (∀ (j : Nat), j < k → PySem.W.kitOne K (.ref C) (.ref (clAt A j)) = some false) ∧ PySem.W.kitOne K (.ref C) (.ref (clAt A k)) = some true
section
variable {G : Wd} {ι : List Addr} {h : Hs} {H H1 : Hp}
theorem Ext.lam (R : Rep G ι h H) (eN : LamX.ExtN H H1) : Ext ι H ι H1 where
  pre := fun _ _ e => e
  tp := fun a xs e => eN a _ e fun ps z => nomatch z
  fz := fun a b u e => eN a _ e fun ps z => nomatch z
  nw := fun _ a b => absurd a b
  kp := fun a o e _ ht => eN a o e ht
theorem Rep.lam (R : Rep G ι h H) (eN : LamX.ExtN H H1) (T1 : LamX.Tabs G.T H1) : Rep G ι h H1 where
  wf := R.wf
  len := R.len
  nd := R.nd
  ob := fun i a e => by
    obtain ⟨o, ho, e1, e2, r⟩ := R.ob i a e
    exact ⟨o, ho, e1, eN a _ e2 r.ntup.2.2.1, r.ext (Ext.lam R eN)⟩
  tb := T1
end
section
variable {X : Cx} {G : Wd} {W : L2.St → XK} {A : SaidA} {tb : Nat → Option (Nat × List Nat)}
theorem six_sem {K : PySem.W.Frag} {G : Wd} (ST : SaidTb K G A tb) {tt : Addr → Addr → Option Addr → TS} {ι : List Addr} {h1 : Hs} {H' : Hp} {e : Ex} {u : U} {cls : Value} {d : Option Addr} {Q : VK} (hs : saidBy tb e = some u) (R : Rep G ι h1 H') (er : ERel G ι H' e cls d)
    (q : ∀ ι' H2 b, Ext ι H' ι' H2 → Rep G ι' h1 H2 → VRel G ι' H2 u b → Q b H2) : SaidOk K A tt cls d H' Q := by
  obtain ⟨C, gC, ec⟩ := er.c
  unfold saidBy at hs
  cases et : tb e.c with
  | none =>
    rw [et] at hs
    cases hs
  | some kf =>
    obtain ⟨k, fl⟩ := kf
    rw [et] at hs
    dsimp only at hs
    obtain ⟨hk5, hfl, rw_⟩ := ST.row _ _ _ et
    obtain ⟨kn, xm, hf, ht⟩ := rw_ C gC
    refine ⟨C, kn, ec, xm, fun σ a hl ha => ?_⟩
    have s1 : (((σ.set 2 (some (V.ref a))).set 1 (some (V.ref a))).set 2 none)[1]? = some (some (V.ref a)) := by
      rw [List.getElem?_set_ne (by decide), List.getElem?_set_self (by simp [hl])]
    have hdd : d = none ∨ ∃ dd fs, d = some dd ∧ H' dd = some (.xd fs) := by
      by_cases z : e.fs = []
      · exact .inl (er.none z)
      · obtain ⟨dx, vs, e1, e2, _⟩ := er.some z
        exact .inr ⟨dx, vs, e1, e2⟩
    have flds : ∀ {f : Nat} {x : U}, lkF f e.fs = some x → ∃ dd vs v, d = some dd ∧ H' dd = some (.xd vs) ∧ vs.lookup (G.nm f) = some v ∧ VRel G ι H' x v := fun {f x} hx => by
      have z : e.fs ≠ [] := fun z => by
        rw [z] at hx
        cases hx
      obtain ⟨dx, vs, e1, e2, r⟩ := er.some z
      obtain ⟨⟨v, l, rv⟩, _⟩ := r.look hx
      exact ⟨dx, vs, v, e1, e2, l, rv⟩
    have two : ∀ {w : List Nat} {ws fn gn : Str} {f g : Nat} {x y : U}, ws = S w → OkS w → u = .tup [.str w, x, y] → G.nm f = fn → G.nm g = gn → lkF f e.fs = some x → lkF g e.fs = some y → ∀ (D : Ends) σ, D.rt = Q → σ[1]? = some (some (V.ref a)) →
        tRet (tTup (tCons (tC (.str ws)) (tCons (tXf a (.ref C) d C fn (tVar 1)) (tCons (tXf a (.ref C) d C gn (tVar 1)) tNil)))) D σ H' := fun {w ws fn gn f g x y} ew ow eu ef eg hx hy D σ hD h1 => by
      obtain ⟨dd, vs, v, e1, e2, l1, r1⟩ := flds hx
      obtain ⟨dd', vs', v', e1', e2', l1', r1'⟩ := flds hy
      subst ef eg
      refine ⟨_, h1, rfl, rfl, dd, vs, v, e1, e2, l1, _, h1, rfl, rfl, dd', vs', v', e1', e2', l1', by rw [sizeLine_eq]; simp, fun p hp => ?_⟩
      subst eu
      rw [hD]
      refine q ι _ _ (Ext.fresh hp) (R.fresh hp) (.tup (.inl (.inl upd_same)) (VRels.ext (Ext.fresh hp) ?_))
      subst ew
      exact .cons (.str w ow) (.cons r1 (.cons r1' .nil))
    have one : ∀ {w : List Nat} {ws fn : Str} {f : Nat} {x : U}, ws = S w → OkS w → u = .tup [.str w, x] → G.nm f = fn → lkF f e.fs = some x → ∀ (D : Ends) σ, D.rt = Q → σ[1]? = some (some (V.ref a)) →
        tRet (tTup (tCons (tC (.str ws)) (tCons (tXf a (.ref C) d C fn (tVar 1)) tNil))) D σ H' := fun {w ws fn f x} ew ow eu ef hx D σ hD h1 => by
      obtain ⟨dd, vs, v, e1, e2, l1, r1⟩ := flds hx
      subst ef
      refine ⟨_, h1, rfl, rfl, dd, vs, v, e1, e2, l1, by rw [sizeLine_eq]; simp, fun p hp => ?_⟩
      subst eu
      rw [hD]
      refine q ι _ _ (Ext.fresh hp) (R.fresh hp) (.tup (.inl (.inl upd_same)) (VRels.ext (Ext.fresh hp) ?_))
      subst ew
      exact .cons (.str w ow) (.cons r1 .nil)
    refine ⟨_, s1, rfl, _, rfl, ?_⟩
    have nd : ¬ (decide (V.ref a = V.non)) = true := by simp
    show if decide (V.ref a = V.non) = true then _ else _
    rw [if_neg nd]
    have shape : ∀ {k' : Nat} {ns : List Str}, k = k' → fnames k' = ns → Nat.beq k' 5 = false → (∃ us, lks fl e.fs = some us ∧ u = .tup (.str (wk k') :: us)) ∧ fl.map G.nm = ns := fun {k' ns} ek en eb => by
      subst ek en
      rw [eb] at hs
      refine ⟨?_, hfl⟩
      cases el : lks fl e.fs with
      | none =>
        rw [el] at hs
        cases hs
      | some us =>
        rw [el] at hs
        exact ⟨us, rfl, (Option.some.inj hs).symm⟩
    have sh2 : ∀ {k' : Nat} {n1 n2 : Str}, k = k' → fnames k' = [n1, n2] → Nat.beq k' 5 = false → ∃ f g x y, u = .tup [.str (wk k'), x, y] ∧ G.nm f = n1 ∧ G.nm g = n2 ∧ lkF f e.fs = some x ∧ lkF g e.fs = some y := fun {k' n1 n2} ek en eb => by
      obtain ⟨⟨us, e1, e2⟩, e3⟩ := shape ek en eb
      match fl, e3 with
      | [f, g], e3 =>
        simp only [List.map_cons, List.map_nil, List.cons.injEq, and_true] at e3
        unfold lks at e1
        cases l1 : lkF f e.fs with
        | none =>
          rw [l1] at e1
          cases e1
        | some x =>
          rw [l1] at e1
          dsimp only at e1
          unfold lks at e1
          cases l2 : lkF g e.fs with
          | none =>
            rw [l2] at e1
            cases e1
          | some y =>
            rw [l2] at e1
            cases e1
            exact ⟨f, g, x, y, e2, e3.1, e3.2, l1, l2⟩
    have sh1 : ∀ {k' : Nat} {n1 : Str}, k = k' → fnames k' = [n1] → Nat.beq k' 5 = false → ∃ f x, u = .tup [.str (wk k'), x] ∧ G.nm f = n1 ∧ lkF f e.fs = some x := fun {k' n1} ek en eb => by
      obtain ⟨⟨us, e1, e2⟩, e3⟩ := shape ek en eb
      match fl, e3 with
      | [f], e3 =>
        simp only [List.map_cons, List.map_nil, List.cons.injEq, and_true] at e3
        unfold lks at e1
        cases l1 : lkF f e.fs with
        | none =>
          rw [l1] at e1
          cases e1
        | some x =>
          rw [l1] at e1
          cases e1
          exact ⟨f, x, e2, e3, l1⟩
    have fin : ∀ (k' : Nat) (p : Addr × TS), k = k' → (sixR A C a d)[k']? = some p → p.1 = clAt A k' → (∀ (D : Ends) σ, D.rt = Q → σ[1]? = some (some (V.ref a)) → p.2 D σ H') →
        tRows K C a d (sixR A C a d) (tt C a d) { nx := fun _ H' => Q .non H', rt := Q } (((σ.set 2 (some (.ref a))).set 1 (some (.ref a))).set 2 none) H' := fun k' p ek ep ec' hp => by
      subst ek
      refine rows_sem s1 hdd k _ (fun j p' hj ej => ?_) p ep (by rw [ec']; exact ht) (hp _ _ rfl s1) fun nx _ => hp _ _ rfl s1
      have z := hf j hj
      have hj6 : j < 6 := by omega
      have e' : p'.1 = clAt A j := by
        match j, hj6, ej with
        | 0, _, ej => cases ej; rfl
        | 1, _, ej => cases ej; rfl
        | 2, _, ej => cases ej; rfl
        | 3, _, ej => cases ej; rfl
        | 4, _, ej => cases ej; rfl
        | 5, _, ej => cases ej; rfl
      rw [e']
      exact z
    have okw : ∀ k', k' < 5 → OkS (wk k') := fun k' hk c hc => by
      match k', hk with
      | 0, _ => simp [wk] at hc; omega
      | 1, _ => simp [wk] at hc; omega
      | 2, _ => simp [wk] at hc; omega
      | 3, _ => simp [wk] at hc; omega
      | 4, _ => simp [wk] at hc; omega
    have six : k = 0 ∨ k = 1 ∨ k = 2 ∨ k = 3 ∨ k = 4 ∨ k = 5 := by omega
    rcases six with hkk | hkk | hkk | hkk | hkk | hkk
    · obtain ⟨f, g, x, y, eu, ef, eg, hx, hy⟩ := sh2 hkk rfl rfl
      exact fin 0 _ hkk rfl rfl fun D σ hD h1 => two (w := wk 0) rfl (okw 0 (by decide)) eu ef eg hx hy D σ hD h1
    · obtain ⟨f, g, x, y, eu, ef, eg, hx, hy⟩ := sh2 hkk rfl rfl
      exact fin 1 _ hkk rfl rfl fun D σ hD h1 => two (w := wk 1) rfl (okw 1 (by decide)) eu ef eg hx hy D σ hD h1
    · obtain ⟨f, x, eu, ef, hx⟩ := sh1 hkk rfl rfl
      exact fin 2 _ hkk rfl rfl fun D σ hD h1 => one (w := wk 2) rfl (okw 2 (by decide)) eu ef hx D σ hD h1
    · obtain ⟨f, x, eu, ef, hx⟩ := sh1 hkk rfl rfl
      exact fin 3 _ hkk rfl rfl fun D σ hD h1 => one (w := wk 3) rfl (okw 3 (by decide)) eu ef hx D σ hD h1
    · obtain ⟨f, x, eu, ef, hx⟩ := sh1 hkk rfl rfl
      exact fin 4 _ hkk rfl rfl fun D σ hD h1 => one (w := wk 4) rfl (okw 4 (by decide)) eu ef hx D σ hD h1
    · refine fin 5 _ hkk rfl rfl fun D σ hD h1 => ?_
      subst hkk
      cases hs
      show D.rt _ _
      rw [hD]
      refine q ι _ _ Ext.refl R ?_
      refine .str [110, 111, 116, 104, 105, 110, 103] fun c hc => ?_
      simp at hc
      omega
theorem s_said {m : EM} {g c P : Addr} {k : Nat} {pg params : Arguments} {sg lscope : Scope} {fdg : FuncData} {lbody : Expr} {tail : List Stmt} {p1 p2 p3 p4 p5 p6 p7 p8 p9 p10 p11 p12 p13 p14 p15 p16 p17 p18 p19 p20 p21 p22 p23 p24 p25 p26 p27 p28 p29 p30 p31 p32 p33 p34 p35 p36 p37 p38 p39 p40 p41 p42 p43 p44 p45 p46 p47 p48 p49 p50 p51 p52 p53 p54 p55 p56 p57 p58 p59 p60 p61 p62 p63 p64 p65 p66 p67 p68 p69 p70 p71 p72 p73 p74 p75 p76 p77 p78 p79 p lpos pos : Pos}
    (FG : FunD X.K "_law_said" "_law_said" pg (bodySaid p1 p2 p3 p4 p5 p6 p7 p8 p9 p10 p11 p12 p13 p14 p15 p16 p17 p18 p19 p20 p21 p22 p23 p24 p25 p26 p27 p28 p29 p30 p31 p32 p33 p34 p35 p36 p37 p38 p39 p40 p41 p42 p43 p44 p45 p46 p47 p48 p49 p50 p51 p52 p53 p54 p55 p56 p57 p58 p59 p60 p61 p62 p63 p64 p65 p66 p67 p68 p69 p70 p71 p72 p73 p74 p75 p76 p77 p78 p79 tail) sg [] [] g fdg) (bG : Binds X.K fdg ["ask"] []) (Sg : FnScope Ns ["ask"] sg) (SN : SaidN sg X.mg A) (ST : SaidTb X.K G A tb) (hg : Gl X "_law_said") (hm : X.mg "_law_said" = some (.ref g))
    (TB : LamX.TabB X.base X.mg c P) (hcode : X.env.code = .ref c) (hmT : (P, X.env.qual ++ "<lambda>") ∈ G.T) (hu : ∀ p ∈ G.T, p.1 = P → p.2 = X.env.qual ++ "<lambda>") (hr : Room (k + 2) X.A) (L : LamX.LamS X.env.scope lscope) (hdef : defaultsOf params X.env = ([], []))
    (hbind : ∀ (q : Str) (cl : List (Str × Addr)) (pm cv ctv : Value), bindArgs (PySem.W.kla_fn "<lambda>" q params lbody lscope cl pm cv ctv) ⟨[], []⟩ = pure [])
    (hbody : ∀ (A : Around) (outer : List Env) (s : Shared) (H : Hp) (E : XK) (f c' : Addr), Room k (A.deeper (LamX.lamEnv X lscope s.heap.objs.size f c')) → SE (LamX.lamCx X A outer s H E lscope f c') G (fun _ => E) lbody m) :
    SE X G W (.Call (.Name "_law_said" p) [.Lambda params lbody lscope lpos] [] pos) (mSaid (saidBy tb) m) := by
  have kp := FG.kp
  obtain ⟨oc, od, dV, kV, doc, pm, an, cdv, ct, osl, efd, lk, hcd, _, _⟩ := FG.ex
  subst efd
  refine (LamX.pe_lamcall (T := G.T) (TT := TTs X.K A fun _ _ _ _ _ _ => False) (t := fun E => tM G (fun _ => E) m) hg hm kp lk hcd bG Sg rfl (.inl SN.ask) (said_gives SN fun Y a oe D d _ _ _ _ _ _ _ _ _ => pss_false) TB hcode hmT hu hr L hdef hbind hbody).imp fun σ H Q ⟨τ, ι, h, sr, R, q⟩ => ⟨R.tb, fun H1 eN T1 => ?_⟩
  have E1 := Ext.lam R eN
  refine ⟨τ, ι, h, sr.ext E1, R.lam eN T1, ?_⟩
  unfold mSaid at q
  cases em : m τ h with
  | no =>
    rw [em] at q
    exact q
  | ok u h1 =>
    rw [em] at q
    exact fun ι' H' b E' R' _ => q ι' H' .non (E1.trans E') R' .non
  | err e h1 =>
    rw [em] at q
    dsimp only at q
    cases es : saidBy tb e with
    | none =>
      rw [es] at q
      exact q.elim
    | some u =>
      rw [es] at q
      exact fun ι' H' cls d E' R' er => six_sem ST es R' er fun ι2 H2 b E2 R2 rb => q ι2 H2 b ((E1.trans E').trans E2) R2 rb
end
end Sm

set_option Elab.async false
set_option linter.all false
set_option maxRecDepth 100000
set_option maxHeartbeats 4000000
/-! Sim, part 20: what the printed walks need. -/
namespace Sm
open PySem PySem.Spec PyProof.Rows L2
open PySem.W (ksEnv ksFn)
/-! ### -e -/
def mNeg (a : EM) : EM := fun τ h => (a τ h).bind fun u h1 => match u with
  | .int i => .ok (.int (-i)) h1
  | _ => .no
section
variable {X : Cx} {G : Wd} {W : L2.St → XK} {pos : Pos} {e : Expr} {m : EM}
theorem s_neg (he : SE X G W e m) : SE X G W (.UnaryOp .USub e pos) (mNeg m) := (pe_un un_neg he).imp fun σ H Q ⟨τ, ι, h, sr, R, q⟩ => ⟨τ, ι, h, sr, R, q.bind fun ι1 H1 u h1 v E1 R1 r1 q1 => by
  cases u with
  | int i =>
    cases r1
    exact ⟨i, rfl, q1 ι1 H1 _ Ext.refl R1 (.int _)⟩
  | _ => exact q1.elim⟩
end
/-! ### names of fields -/
def nmOf (l : List Str) (i : Nat) : Str := match l[i]? with
  | some x => x
  | none => ⟨(List.replicate (i + 1000) 0).toArray⟩
theorem nm_inj {l : List Str} (h : l.Nodup) (h2 : ∀ x ∈ l, x.cps.size < 1000) (f g : Nat) (e : nmOf l f = nmOf l g) : f = g := by
  unfold nmOf at e
  have big : ∀ {i : Nat} {x : Str}, x ∈ l → x = ⟨(List.replicate (i + 1000) 0).toArray⟩ → False := fun {i x} hx ex => by
    have z := h2 x hx
    rw [ex] at z
    simp at z
    omega
  cases ef : l[f]? with
  | none =>
    cases eg : l[g]? with
    | none =>
      rw [ef, eg] at e
      have z := congrArg (fun s : Str => s.cps.size) e
      simp at z
      exact z
    | some y =>
      rw [ef, eg] at e
      exact (big (List.mem_of_getElem? eg) e.symm).elim
  | some x =>
    cases eg : l[g]? with
    | none =>
      rw [ef, eg] at e
      exact (big (List.mem_of_getElem? ef) e).elim
    | some y =>
      rw [ef, eg] at e
      obtain ⟨hf, e1⟩ := List.getElem?_eq_some_iff.mp ef
      obtain ⟨hg, e2⟩ := List.getElem?_eq_some_iff.mp eg
      have e' : x = y := e
      have ne : ∀ {i j : Nat} (hi : i < l.length) (hj : j < l.length), i < j → l[i] ≠ l[j] := fun {i j} hi hj hij => List.pairwise_iff_getElem.mp h i j hi hj hij
      rcases Nat.lt_trichotomy f g with z | z | z
      · exact absurd (e1.trans (e'.trans e2.symm)) (ne hf hg z)
      · exact z
      · exact absurd (e2.trans (e'.symm.trans e1.symm)) (ne hg hf z)
/-! ### defs -/
section
variable {P : Program} {w : World} {K : PySem.W.Frag} {mg : Str → Option Value} {base : Heap} {G : Wd} {x qual : Str} {params : Arguments} {body : List Stmt} {scope : Scope} {f : Addr} {fd : FuncData} {N ps : List Str}
/-- a def whose code object is known -/
theorem fn_defC {k : Nat} {b : SM} {c : Addr} (F : FunD K x qual params body scope [] [] f fd) (hc : fd.code = .ref c) (S : FnScope N ps scope)
    (hb : ∀ (A : Around) (outer : List Env) (s : Shared) (H : Hp) (E : XK), Room k (A.deeper (envOfC qual scope s.heap.objs.size f (.ref c))) → SB (cxOf (L2.CX P w) P w K mg base N qual scope f (.ref c) A outer s H E) G (fun _ => E) body b) :
    FnOk P w K mg base (L2.CX P w) (k + 1) f fd ps (spM G (runF ps.length N.length b)) := by
  obtain ⟨oc, od, dV, kV, doc, pm, an, cdv, ct, osl, rfl, lk, hcd, _, _⟩ := F.ex
  obtain rfl : cdv = .ref c := hc
  have key : ∀ {us : List U} {h : Hs} {E : XK} {ι : List Addr} {H : Hp} {Q : VK}, Aft G (VRel G) E ι H Q (runF ps.length N.length b us h) → us.length = ps.length ∧
      AftS G (fun _ => E) ι H { nx := fun _ H' => Q .non H', rt := Q } (b (us.map some ++ List.replicate (N.length - ps.length) none) h) := fun {us h E ι H Q} q => run_key q
  refine fn_of lk hcd S (fun vs H Q E ⟨us, ι, h, r, R, q⟩ => by rw [← r.length]; exact (key q).1) fun A outer s H vs Q E hr ⟨us, ι, h, r, R, q⟩ => ⟨_, hb A outer s H E hr, ?_⟩
  obtain ⟨hl, q1⟩ := key q
  exact ⟨_, ι, h, VRels.start r hl, R, q1⟩
/-- no promise -/
def noF : FM := fun _ _ => .no
theorem fn_no {k : Nat} {dvs : List V} {kws : List (Str × V)} (F : FunD K x qual params body scope dvs kws f fd) (b : Binds K fd ps []) : Fn P w K mg base G k f noF :=
  ⟨⟨fd, ps, ⟨fun vs H Q E ⟨_, _, _, _, _, q⟩ => q.elim, fun A outer s H args us vs Q E _ _ _ _ ⟨_, _, _, _, _, q⟩ => q.elim⟩, b⟩, F.kp⟩
theorem fnS_no {k : Nat} : FnS P w K mg base G k f noF := fun A outer s H us vs Q E _ _ _ ⟨_, _, _, _, _, q⟩ => q.elim
theorem Fn.up {j k : Nat} {m : FM} (F : Fn P w K mg base G j f m) (h : j ≤ k) : Fn P w K mg base G k f m := by
  obtain ⟨⟨fd, ps, F, b⟩, kp⟩ := F
  exact ⟨⟨fd, ps, F.mono h, b⟩, kp⟩
end
theorem units1 {k : Nat} {A : Around} (r : Room k A) : A.units + 1 < cLine := by have := r.units; omega
theorem okS_by {l : List Nat} (h : l.all (fun c => Nat.blt c 1114112) = true) : OkS l := fun c hc => by
  have z := List.all_eq_true.mp h c hc
  exact Nat.blt_eq.mp z
section
variable {X : Cx} {G : Wd} {W : L2.St → XK} {pos p : Pos} {e : Expr} {m : EM} {x : Str} {d : Addr} {l : List (List Nat × Int)}
theorem t_inK (D : MDct X.K X.w d l) (he : SE X G W e m) (hg : Gl X x) (hm : X.mg x = some (.ref d)) (hdb : (x == ("__debug__" : Str)) = false := by decide) : ST X G W (.Compare e [.In] [.Name x p] pos) (mT (mInK l false m)) := by
  obtain ⟨es, n, kd⟩ := D.kd
  refine (pt_cmpR (op_in_kd kd) he (pe_glob hg hm (v := .ref d) rfl hdb) rfl).imp fun σ H Q q => t_test (fun σ H Q ⟨τ, ι, h, sr, R, q⟩ => ⟨τ, ι, h, sr, R, q.bind fun ι1 H1 u h1 v E1 R1 r1 q1 => ?_⟩) q
  cases u with
  | str z =>
    cases r1 with
    | str _ o =>
      cases el : lookM l z with
      | none =>
        simp only [el] at q1
        exact ⟨_, none, rfl, rfl, D.none z el, q1.now R1 (.bl _)⟩
      | some i =>
        simp only [el] at q1
        obtain ⟨t, e⟩ := D.some z i el
        exact ⟨_, _, rfl, rfl, e, q1.now R1 (.bl _)⟩
  | _ => exact q1.elim
theorem t_ninK (D : MDct X.K X.w d l) (he : SE X G W e m) (hg : Gl X x) (hm : X.mg x = some (.ref d)) (hdb : (x == ("__debug__" : Str)) = false := by decide) : ST X G W (.Compare e [.NotIn] [.Name x p] pos) (mT (mInK l true m)) := by
  obtain ⟨es, n, kd⟩ := D.kd
  refine (pt_cmpR (op_notIn_kd kd) he (pe_glob hg hm (v := .ref d) rfl hdb) rfl).imp fun σ H Q q => t_test (fun σ H Q ⟨τ, ι, h, sr, R, q⟩ => ⟨τ, ι, h, sr, R, q.bind fun ι1 H1 u h1 v E1 R1 r1 q1 => ?_⟩) q
  cases u with
  | str z =>
    cases r1 with
    | str _ o =>
      cases el : lookM l z with
      | none =>
        simp only [el] at q1
        exact ⟨_, none, rfl, rfl, D.none z el, q1.now R1 (.bl _)⟩
      | some i =>
        simp only [el] at q1
        obtain ⟨t, e⟩ := D.some z i el
        exact ⟨_, _, rfl, rfl, e, q1.now R1 (.bl _)⟩
  | _ => exact q1.elim
end
/-- s.pop(), s.pop(i) -/
def fPop : U → List U → Hs → Option (U × Hs) := fun u us h => match us with
  | [] => fPop0 u us h
  | _ => fPopAt u us h
theorem m_popF {X : Cx} {G : Wd} : MetS X G "list.pop" fPop := m_pop
theorem noA_nil {G : Wd} (f : Nat) : NoA G f [] := fun c hc => nomatch hc
theorem noA_cons {G : Wd} {f c : Nat} {cs : List Nat} {C : Addr} (e : G.gl c = some C) (h : NoAttr G.K C (G.nm f)) (r : NoA G f cs) : NoA G f (c :: cs) := fun d hd D gD => by
  rcases List.mem_cons.mp hd with z | z
  · subst z
    rw [e] at gD
    cases gD
    exact h
  · exact r d z D gD
theorem le (n : Nat) : 3 * n + 3 ≤ 3 * n + 5 := by omega
theorem le0 (n : Nat) : 3 * n + 3 ≤ 3 * n + 3 := by omega
theorem le5 (n : Nat) : 3 * n + 3 + 2 ≤ 3 * n + 5 := by omega
theorem lm (n : Nat) : 3 * n + 3 + 1 ≤ 3 * n + 5 := by omega
theorem lr (n : Nat) : 3 * n + 3 + 1 ≤ 3 * n + 5 := by omega
/-- a class's method -/
def clsMeth (s : Stmt) (j : Nat) : Stmt := match s with
  | .ClassDef _ _ _ b _ _ _ _ _ _ _ => b.getD j (.Pass ⟨0, 0, 0, 0⟩)
  | _ => .Pass ⟨0, 0, 0, 0⟩
theorem hcs_cons {G : Wd} {K : PySem.W.Frag} {D C0 g : Addr} {m : Str} {c : Nat} {cs : List Nat} (e : G.gl c = some C0) (h : SupM K C0 D m g) (r : ∀ c ∈ cs, ∀ C, G.gl c = some C → SupM K C D m g) : ∀ c' ∈ c :: cs, ∀ C, G.gl c' = some C → SupM K C D m g := fun d hd C gC => by
  rcases List.mem_cons.mp hd with z | z
  · subst z
    rw [e] at gC
    cases gC
    exact h
  · exact r d z C gC
theorem fnS_starNo {P : Program} {w : World} {K : PySem.W.Frag} {mg : Str → Option Value} {base : Heap} {G : Wd} {f : Addr} {k j : Nat} : FnS P w K mg base G k f (starF j noF) := fun A outer s H us vs Q E _ _ _ ⟨us', ι, h, _, _, q⟩ => by
  unfold starF at q
  split at q <;> exact q.elim
theorem fn_no' {P : Program} {w : World} {K : PySem.W.Frag} {mg : Str → Option Value} {base : Heap} {G : Wd} {f : Addr} {k : Nat} {fd : FuncData} {ps : List Str} (b : Binds K fd ps []) (kp : PySem.W.keepIn K (.ref f) = true) : Fn P w K mg base G k f noF :=
  ⟨⟨fd, ps, ⟨fun vs H Q E ⟨_, _, _, _, _, q⟩ => q.elim, fun A outer s H args us vs Q E _ _ _ _ ⟨_, _, _, _, _, q⟩ => q.elim⟩, b⟩, kp⟩
end Sm

set_option Elab.async false
set_option linter.all false
set_option maxRecDepth 100000
set_option maxHeartbeats 4000000
/-! Sim, part 21: the head's facts: a Hook that tells the defs with the closure __class__ too; Bools and what they tell. -/
namespace Sm
open PySem PySem.Spec PyProof.Rows L2
open PySem.W (ksEnv ksFn)
/-! ### the Hook -/
abbrev FnC : Type := Option (Str × Str × Arguments × FuncBody × Scope × Addr × List Str × Addr)
def fnC (K : PySem.W.Frag) (p : Str × Option Str) : FnC := match K.lookup (He.fAd K p) with
  | some ⟨_, _, .func fd, _⟩ => some (fd.name, fd.qualname, fd.params, fd.body, fd.scope, fd.globals, fd.closure.map (·.1), fd.builtins)
  | _ => none
/-- a method with super() in it -/
structure SupDf where
  at_ : Str × Option Str
  name : Str
  qual : Str
  params : Arguments
  body : List Stmt
  scope : Scope
  cls : Str
def SupDf.val (d : SupDf) : FnC := some (d.name, d.qual, d.params, .stmts d.body, d.scope, mainGlobals, ["__class__"], builtinsNs)
/-- its code, its cell -/
def SupDf.ok (file : Str) (K : PySem.W.Frag) (d : SupDf) : Bool := PySem.W.keepIn K (.ref (He.fAd K d.at_)) && (PySem.W.clsIn K (He.ga K d.cls)).isSome && (match K.lookup (He.fAd K d.at_) with
  | some ⟨_, _, .func fd, _⟩ => PySem.W.codeIn K fd.code d.qual && (match fd.defaults with | .none => true | _ => false) && (match fd.code with
      | .ref c => (match K.lookup c with
        | some ⟨_, _, .fields vs, _⟩ => (match (vs[2]? : Option Value) with
          | some (.str fl _) => (file == fl)
          | _ => false)
        | _ => false)
      | _ => false) && (match fd.closure with
      | [p] => (match K.lookup p.2 with
        | some ⟨_, _, .cell (some (.ref D)), _⟩ => decide (D = He.ga K d.cls)
        | _ => false)
      | _ => false)
  | _ => false)
theorem sup_of {P : Program} {K : PySem.W.Frag} {mg : Str → Option Value} {d : SupDf} {N ps : List Str} (e : fnC K d.at_ = d.val) (c : d.ok (P.main.file : Str) K = true) (sc : SupScope N ps d.scope) (hp : ∃ ar, (d.params.posonlyargs ++ d.params.args).head? = some ar ∧ ps[0]? = some ar.arg)
    (top : (P.main.scope.names.lookup ("super" : Str)).isSome = false) (ms : mg ("super" : Str) = none) (st : PySem.W.nsIn K cStatics "thirdparty.any" = some none) :
    ∃ (cda cc : Addr) (fd : FuncData), SupF P K mg d.name d.qual d.params d.body d.scope N ps (He.fAd K d.at_) cda cc (He.ga K d.cls) fd ∧ fd.defaults = .none ∧ PySem.W.keepIn K (.ref (He.fAd K d.at_)) = true := by
  unfold SupDf.ok at c
  unfold fnC at e
  obtain ⟨c1, c2⟩ := Bool.and_eq_true_iff.mp c
  obtain ⟨kp, hcl⟩ := Bool.and_eq_true_iff.mp c1
  cases q : K.lookup (He.fAd K d.at_) with
  | none =>
    rw [q] at c2
    cases c2
  | some o =>
    obtain ⟨oc, od, dt, osl⟩ := o
    rw [q] at c2 e
    cases dt with
    | func fd =>
      obtain ⟨n1, n2, n3, n4, n5, n6, n7, n8, n9, n10, n11, n12, n13, n14, n15⟩ := fd
      have e2 : (some (n1, n2, n3, n4, n5, n6, n7.map (·.1), n15) : FnC) = (some (d.name, d.qual, d.params, .stmts d.body, d.scope, mainGlobals, ["__class__"], builtinsNs) : FnC) := e
      simp only [Option.some.injEq, Prod.mk.injEq] at e2
      obtain ⟨h1, h2, h3, h4, h5, h6, h7, h8⟩ := e2
      subst h1 h2 h3 h4 h5 h6 h8
      dsimp only at c2
      obtain ⟨c3, k4⟩ := Bool.and_eq_true_iff.mp c2
      obtain ⟨c4, k3⟩ := Bool.and_eq_true_iff.mp c3
      obtain ⟨k1, k2⟩ := Bool.and_eq_true_iff.mp c4
      obtain rfl : n8 = .none := by
        revert k2
        cases n8 <;> first | (intro; rfl) | (intro z; cases z)
      match n7, h7, k4 with
      | [(y, cc)], h7, k4 =>
        have hy : y = "__class__" := by simpa using h7
        subst hy
        dsimp only at k4
        cases qc : K.lookup cc with
        | none =>
          rw [qc] at k4
          cases k4
        | some oc2 =>
          obtain ⟨cl, cld, cdt, csl⟩ := oc2
          rw [qc] at k4
          cases cdt with
          | cell v =>
            cases v with
            | none => cases k4
            | some v =>
              cases v with
              | ref D =>
                have hD : D = He.ga K d.cls := of_decide_eq_true k4
                subst hD
                obtain ⟨cda, rfl⟩ := He.codeIn_ref k1
                dsimp only at k3
                cases qd : K.lookup cda with
                | none =>
                  rw [qd] at k3
                  cases k3
                | some o3 =>
                  obtain ⟨c3l, c3d, dt3, sl3⟩ := o3
                  rw [qd] at k3
                  cases dt3 with
                  | fields vs =>
                    dsimp only at k3
                    cases qf : vs[2]? with
                    | none =>
                      rw [qf] at k3
                      cases k3
                    | some fv =>
                      rw [qf] at k3
                      cases fv with
                      | str fl tf =>
                        exact ⟨cda, cc, _, ⟨⟨.none, n9, n10, n11, n14, oc, n12, od, osl, rfl, q⟩, k1, sc, hp, ⟨c3l, c3d, sl3, vs, fl, tf, qd, qf, k3⟩, ⟨cl, cld, csl, qc⟩, hcl, top, ms, st⟩, rfl, kp⟩
                      | _ => cases k3
                  | _ => cases k3
              | _ => cases k4
          | _ => cases k4
    | _ => cases c2
/-! ### Bools, what they tell -/
section
variable {K : PySem.W.Frag} {C D g : Addr} {m : Str}
def supMB (K : PySem.W.Frag) (C D : Addr) (m : Str) (g : Addr) : Bool := decide (PySem.W.mroIn K C (.ref D) = some true) && (He.eqO (PySem.W.ks_superIn K C D m) (some (some (.ref g))) && (decide (PySem.W.typeIn K (.ref g) = some (.type "function")) && PySem.W.fnIn K g))
theorem supMB_ok (h : supMB K C D m g = true) : SupM K C D m g := by
  obtain ⟨h1, h⟩ := Bool.and_eq_true_iff.mp h
  obtain ⟨h2, h⟩ := Bool.and_eq_true_iff.mp h
  obtain ⟨h3, h4⟩ := Bool.and_eq_true_iff.mp h
  exact ⟨of_decide_eq_true h1, He.eqO_ok h2, of_decide_eq_true h3, h4⟩
def supXB (K : PySem.W.Frag) (C D : Addr) : Bool := decide (PySem.W.mroIn K C (.ref D) = some true) && (He.eqO (PySem.W.ks_superIn K C D "__init__") (some (some (.builtin "ValueError.__init__"))) && decide (PySem.W.subIn K (.ref C) (.type "ValueError") = some true))
theorem supXB_ok (h : supXB K C D = true) : SupX K C D := by
  obtain ⟨h1, h⟩ := Bool.and_eq_true_iff.mp h
  obtain ⟨h2, h3⟩ := Bool.and_eq_true_iff.mp h
  exact ⟨of_decide_eq_true h1, He.eqO_ok h2, of_decide_eq_true h3⟩
def noneB (K : PySem.W.Frag) (C : Addr) (fs : List Str) : Bool := fs.all fun f => He.eqO (PySem.W.findIn K (.ref C) f) (some none)
theorem noneB_ok {fs : List Str} (h : noneB K C fs = true) : ∀ f ∈ fs, PySem.W.findIn K (.ref C) f = some none := fun f hf => He.eqO_ok (List.all_eq_true.mp h f hf)
def excCB (K : PySem.W.Frag) (D : Addr) : Bool := He.eqO (PySem.W.findIn K (.ref D) "__getattribute__") (some (some (.builtin "BaseException.__getattribute__"))) && (He.eqO (PySem.W.findIn K (.ref D) "__getattr__") (some none) && (decide (PySem.W.subIn K (.ref D) (.type "BaseException") = some true) && (PySem.W.hasDictIn K D && (He.eqO (PySem.W.findIn K (.ref D) "__class__") (some (some (.builtin "object.__class__"))) &&
  (He.eqO (PySem.W.specialIn K (.builtin "object.__class__") "__get__") (some (some (.builtin "getset_descriptor.__get__"))) && (decide (PySem.W.takesIn K (.builtin "object.__class__") = some true) && decide (PySem.W.mroIn K D (.type "object") = some true)))))))
theorem excCB_ok (h : excCB K D = true) : ExcC K D := by
  obtain ⟨h1, h⟩ := Bool.and_eq_true_iff.mp h
  obtain ⟨h2, h⟩ := Bool.and_eq_true_iff.mp h
  obtain ⟨h3, h⟩ := Bool.and_eq_true_iff.mp h
  obtain ⟨h4, h⟩ := Bool.and_eq_true_iff.mp h
  obtain ⟨h5, h⟩ := Bool.and_eq_true_iff.mp h
  obtain ⟨h6, h⟩ := Bool.and_eq_true_iff.mp h
  obtain ⟨h7, h8⟩ := Bool.and_eq_true_iff.mp h
  exact ⟨He.eqO_ok h1, He.eqO_ok h2, of_decide_eq_true h3, h4, He.eqO_ok h5, He.eqO_ok h6, of_decide_eq_true h7, of_decide_eq_true h8⟩
def knB (K : PySem.W.Frag) (D : Addr) : Bool := excCB K D && (xfB K D && noneB K D ["what", "most", "line", "word", "name", "part"])
theorem knB_ok (h : knB K D = true) : Kn K D := by
  obtain ⟨h1, h⟩ := Bool.and_eq_true_iff.mp h
  obtain ⟨h2, h3⟩ := Bool.and_eq_true_iff.mp h
  exact ⟨excCB_ok h1, xfB_ok h2, noneB_ok h3⟩
def oexB0 (K : PySem.W.Frag) (C : Addr) : Bool := match K.lookup C with
  | some ⟨.type "type", _, .cls cd, sl⟩ => (match cd.mro, sl.toList with
    | .ref C' :: bm, [_, _, _, _, some (.builtin n), _] => C' == C && n == "ValueError.__new__" && !cd.hasDel && cd.hasDict && PySem.HandSPX.refsVE bm
    | _, _ => false)
  | _ => false
def oexB (K : PySem.W.Frag) (C : Addr) : Bool := oexB0 K C && (He.eqO (PySem.W.findIn K (.ref C) "__setattr__") (some (some (.builtin "object.__setattr__"))) && (decide (PySem.W.subIn K (.ref C) (.type "BaseException") = some true) && (decide (PySem.W.typeIn K (.ref C) = some (.type "type")) && PySem.W.keepIn K (.ref C))))
theorem oexB0_ok (q : oexB0 K C = true) : ∃ nm q N bs bm sn sub ab col dd k0 k1 k2 k3 k5, K.lookup C = some (excClassObj nm q C N bs bm true sn sub ab col dd k0 k1 k2 k3 k5 "ValueError.__new__") ∧ PySem.HandSPX.refsVE bm = true := by
  unfold oexB0 at q
  split at q
  · rename_i dd cd sl ho
    split at q
    · rename_i C' bm k0 k1 k2 k3 n k5 hm hs
      simp only [Bool.and_eq_true, beq_iff_eq, Bool.not_eq_true'] at q
      obtain ⟨⟨⟨⟨rfl, rfl⟩, hdel⟩, hdi⟩, ht⟩ := q
      obtain ⟨nm, bs, mro, N, qn, hd, sn, sub, ab, col, hdl⟩ := cd
      dsimp only at hm hdel hdi
      subst hm hdel hdi
      have e : sl = #[k0, k1, k2, k3, some (.builtin "ValueError.__new__"), k5] := by
        obtain ⟨l⟩ := sl
        exact congrArg Array.mk hs
      subst e
      exact ⟨nm, qn, N, bs, bm, sn, sub, ab, col, dd, k0, k1, k2, k3, k5, ho, ht⟩
    · cases q
  · cases q
theorem oexB_ok (h : oexB K C = true) : OexC K C := by
  obtain ⟨h1, h⟩ := Bool.and_eq_true_iff.mp h
  obtain ⟨h2, h⟩ := Bool.and_eq_true_iff.mp h
  obtain ⟨h3, h⟩ := Bool.and_eq_true_iff.mp h
  obtain ⟨h4, h5⟩ := Bool.and_eq_true_iff.mp h
  exact ⟨oexB0_ok h1, He.eqO_ok h2, of_decide_eq_true h3, of_decide_eq_true h4, h5⟩
end
section
variable {K : PySem.W.Frag} {C D g : Addr}
def clsNmB (K : PySem.W.Frag) (C : Addr) (nm : Str) : Bool := PySem.W.readsIn K C (.type "type") && ((match PySem.W.findCls K (.ref C) (.type "type") "__name__" with
  | some (.get a b c d) => decide (a = .builtin "getset_descriptor.__get__") && (decide (b = .builtin "type.__name__") && (decide (c = .ref C) && decide (d = .type "type")))
  | _ => false) && (match K.lookup C with
  | some ⟨_, _, .cls _, sl⟩ => (match (sl[2]? : Option (Option Value)) with
    | some (some (.str n _)) => decide (n = nm)
    | _ => false)
  | _ => false))
theorem clsNmB_ok {nm : Str} (h : clsNmB K C nm = true) : ClsNm K C nm := by
  obtain ⟨h1, h⟩ := Bool.and_eq_true_iff.mp h
  obtain ⟨h2, h3⟩ := Bool.and_eq_true_iff.mp h
  refine ⟨h1, ?_, ?_⟩
  · cases q : PySem.W.findCls K (.ref C) (.type "type") "__name__" with
    | none =>
      rw [q] at h2
      cases h2
    | some r =>
      rw [q] at h2
      cases r with
      | val v => cases h2
      | get a b c d =>
        obtain ⟨k1, k⟩ := Bool.and_eq_true_iff.mp h2
        obtain ⟨k2, k⟩ := Bool.and_eq_true_iff.mp k
        obtain ⟨k3, k4⟩ := Bool.and_eq_true_iff.mp k
        rw [of_decide_eq_true k1, of_decide_eq_true k2, of_decide_eq_true k3, of_decide_eq_true k4]
  · cases q : K.lookup C with
    | none =>
      rw [q] at h3
      cases h3
    | some o =>
      obtain ⟨oc, od, dt, sl⟩ := o
      rw [q] at h3
      cases dt with
      | cls cd =>
        dsimp only at h3
        cases q2 : sl[2]? with
        | none =>
          rw [q2] at h3
          cases h3
        | some w =>
          rw [q2] at h3
          cases w with
          | none => cases h3
          | some v =>
            cases v with
            | str n tk =>
              have e : n = nm := of_decide_eq_true h3
              subst e
              exact ⟨oc, od, cd, sl, tk, rfl, q2⟩
            | _ => cases h3
      | _ => cases h3
end
/-! ### isinstance by a table -/
def isiSub (cs ds : List Nat) (t : List (Nat × Nat)) (c d : Nat) : Option Bool := if cs.any (Nat.beq c) && ds.any (Nat.beq d) then some (t.any fun p => Nat.beq p.1 c && Nat.beq p.2 d) else none
def clTys : List String := ["int", "bool", "str", "list", "tuple", "dict"]
def kdTys : List String := ["NoneType", "bool", "int", "str", "list", "tuple", "dict"]
def isiB (G : Wd) (cs ds : List Nat) (t : List (Nat × Nat)) : Bool :=
  (cs.all fun c => match G.gl c with
    | none => false
    | some C => (ds.all fun d => match G.gl d with
      | none => false
      | some D => decide (PySem.W.kitOne G.K (.ref C) (.ref D) = some (t.any fun p => Nat.beq p.1 c && Nat.beq p.2 d))) && (He.eqO (PySem.W.findIn G.K (.ref C) "__class__") (some (some (.builtin "object.__class__"))) && (decide (PySem.W.mroIn G.K C (.type "object") = some true) &&
        clTys.all fun k => decide (PySem.W.kitOne G.K (.ref C) (.type k) = some false)))) &&
  ((ds.all fun d => match G.gl d with
    | none => false
    | some D => kdTys.all fun k => decide (PySem.W.kitOne G.K (.type k) (.ref D) = some false)) &&
  (He.eqO (PySem.W.specialIn G.K (.builtin "object.__class__") "__get__") (some (some (.builtin "getset_descriptor.__get__"))) && decide (PySem.W.takesIn G.K (.builtin "object.__class__") = some true)))
theorem any_mem {c : Nat} {cs : List Nat} (h : cs.any (Nat.beq c) = true) : c ∈ cs := by
  obtain ⟨x, hx, e⟩ := List.any_eq_true.mp h
  rw [Nat.eq_of_beq_eq_true e]
  exact hx
theorem isiB_ok {G : Wd} {cs ds : List Nat} {t : List (Nat × Nat)} (h : isiB G cs ds t = true) : IsiF G cs ds (isiSub cs ds t) := by
  obtain ⟨h1, h⟩ := Bool.and_eq_true_iff.mp h
  obtain ⟨h2, h⟩ := Bool.and_eq_true_iff.mp h
  obtain ⟨h3, h4⟩ := Bool.and_eq_true_iff.mp h
  have H1 : ∀ c ∈ cs, ∀ C, G.gl c = some C → (∀ d ∈ ds, ∀ D, G.gl d = some D → PySem.W.kitOne G.K (.ref C) (.ref D) = some (t.any fun p => Nat.beq p.1 c && Nat.beq p.2 d)) ∧ PySem.W.findIn G.K (.ref C) "__class__" = some (some (.builtin "object.__class__")) ∧ PySem.W.mroIn G.K C (.type "object") = some true ∧
      ∀ k ∈ clTys, PySem.W.kitOne G.K (.ref C) (.type k) = some false := fun c hc C gC => by
    have z := List.all_eq_true.mp h1 c hc
    rw [gC] at z
    obtain ⟨z1, z⟩ := Bool.and_eq_true_iff.mp z
    obtain ⟨z2, z⟩ := Bool.and_eq_true_iff.mp z
    obtain ⟨z3, z4⟩ := Bool.and_eq_true_iff.mp z
    refine ⟨fun d hd D gD => ?_, He.eqO_ok z2, of_decide_eq_true z3, fun k hk => of_decide_eq_true (List.all_eq_true.mp z4 k hk)⟩
    have y := List.all_eq_true.mp z1 d hd
    rw [gD] at y
    exact of_decide_eq_true y
  refine ⟨fun c d b e => ?_, fun c d b e C D gC gD => ?_, fun c hc C gC => ⟨(H1 c hc C gC).2.1, (H1 c hc C gC).2.2.1⟩, fun c hc C gC k hk => ?_, fun d hd D gD k hk => ?_, He.eqO_ok h3, of_decide_eq_true h4⟩
  · unfold isiSub at e
    split at e
    · rename_i q
      obtain ⟨q1, q2⟩ := Bool.and_eq_true_iff.mp q
      exact ⟨any_mem q1, any_mem q2⟩
    · cases e
  · unfold isiSub at e
    split at e
    · rename_i q
      obtain ⟨q1, q2⟩ := Bool.and_eq_true_iff.mp q
      cases e
      exact (H1 c (any_mem q1) C gC).1 d (any_mem q2) D gD
    · cases e
  · refine (H1 c hc C gC).2.2.2 _ ?_
    cases k <;> first | (exact absurd rfl (hk _)) | (simp [clTys, Cl.ty])
  · have z := List.all_eq_true.mp h2 d hd
    rw [gD] at z
    refine of_decide_eq_true (List.all_eq_true.mp z _ ?_)
    cases k <;> first | (exact absurd rfl (hk _)) | (simp [kdTys, Kd.ty])
/-! ### names of classes, rows of _law_said, by tables -/
def nmsBy (t : List (Nat × List Nat)) (c : Nat) : Option (List Nat) := (t.find? fun p => Nat.beq p.1 c).map (·.2)
def nmsB (G : Wd) (t : List (Nat × List Nat)) : Bool := t.all fun p => (p.2.all fun c => Nat.blt c 1114112) && match G.gl p.1 with
  | none => true
  | some C => clsNmB G.K C (S p.2)
theorem nmsB_ok {G : Wd} {t : List (Nat × List Nat)} (h : nmsB G t = true) : Nms G (nmsBy t) := by
  have key : ∀ c l, nmsBy t c = some l → OkS l ∧ ∀ C, G.gl c = some C → ClsNm G.K C (S l) := fun c l e => by
    unfold nmsBy at e
    cases q : t.find? fun p => Nat.beq p.1 c with
    | none =>
      rw [q] at e
      cases e
    | some p =>
      rw [q] at e
      cases e
      have hm := List.mem_of_find?_eq_some q
      have hb := List.find?_some q
      have z := List.all_eq_true.mp h p hm
      obtain ⟨z1, z2⟩ := Bool.and_eq_true_iff.mp z
      refine ⟨okS_by z1, fun C gC => ?_⟩
      rw [Nat.eq_of_beq_eq_true hb, gC] at z2
      exact clsNmB_ok z2
  exact ⟨fun c l e => (key c l e).2, fun c l e => (key c l e).1⟩
def saidTBy (t : List (Nat × Nat × List Nat)) (c : Nat) : Option (Nat × List Nat) := (t.find? fun p => Nat.beq p.1 c).map (·.2)
def saidB (K : PySem.W.Frag) (G : Wd) (A : SaidA) (t : List (Nat × Nat × List Nat)) : Bool := t.all fun p => Nat.ble p.2.1 5 && (decide (p.2.2.map G.nm = fnames p.2.1) && match G.gl p.1 with
  | none => true
  | some C => knB K C && (decide (PySem.W.exmOne K (.ref C) (.ref A.se) = some true) && (((List.range p.2.1).all fun j => decide (PySem.W.kitOne K (.ref C) (.ref (clAt A j)) = some false)) && decide (PySem.W.kitOne K (.ref C) (.ref (clAt A p.2.1)) = some true))))
theorem saidB_ok {K : PySem.W.Frag} {G : Wd} {A : SaidA} {t : List (Nat × Nat × List Nat)} (h : saidB K G A t = true) : SaidTb K G A (saidTBy t) := ⟨fun c k fl e => by
  unfold saidTBy at e
  cases q : t.find? fun p => Nat.beq p.1 c with
  | none =>
    rw [q] at e
    cases e
  | some p =>
    rw [q] at e
    have e2 : p.2 = (k, fl) := Option.some.inj e
    obtain ⟨c', p2⟩ := p
    have e3 : p2 = (k, fl) := e2
    subst e3
    have hm := List.mem_of_find?_eq_some q
    have hb0 := List.find?_some q
    have hb : c' = c := Nat.eq_of_beq_eq_true hb0
    subst hb
    have z := List.all_eq_true.mp h _ hm
    obtain ⟨z1, z⟩ := Bool.and_eq_true_iff.mp z
    obtain ⟨z2, z⟩ := Bool.and_eq_true_iff.mp z
    refine ⟨Nat.le_of_ble_eq_true z1, of_decide_eq_true z2, fun C gC => ?_⟩
    dsimp only at z
    rw [gC] at z
    obtain ⟨z3, z⟩ := Bool.and_eq_true_iff.mp z
    obtain ⟨z4, z⟩ := Bool.and_eq_true_iff.mp z
    obtain ⟨z5, z6⟩ := Bool.and_eq_true_iff.mp z
    exact ⟨knB_ok z3, of_decide_eq_true z4, fun j hj => of_decide_eq_true (List.all_eq_true.mp z5 j (List.mem_range.mpr hj)), of_decide_eq_true z6⟩⟩
/-! ### the Hook, whole -/
abbrev AlS : Type := He.AlX × List FnC
/-- the addresses: what the module's names reach, the machine's own notes -/
def asS (g : Addr → Option Obj) (n : Nat) : List Addr := cStatics :: He.asD g n
def obsXa (as : List Addr) (fa : List He.Fa) (fn : List He.DefD) (ts : List He.Tab) (tf : List He.Defn) (ex : PySem.W.Frag → Bool) (g : Addr → Option Obj) : He.AlX := (He.obsT fa fn ts (He.frT g as), ex (He.frT g as) && He.tabsB g tf (He.frT g as))
theorem saysXa_of {as : List Addr} {fa : List He.Fa} {fn : List He.DefD} {ts : List He.Tab} {tf : List He.Defn} {ex : PySem.W.Frag → Bool} {w : World} {h : Heap} (e : obsXa as fa fn ts tf ex h.get? = He.valX fn ts w) : He.SaysX fa fn ts tf ex w h (He.frT h.get? as) := by
  have e1 : He.obsT fa fn ts (He.frT h.get? as) = He.valT fn ts w := congrArg (fun z : He.AlX => z.1) e
  have e2 : (ex (He.frT h.get? as) && He.tabsB h.get? tf (He.frT h.get? as)) = true := congrArg (fun z : He.AlX => z.2) e
  obtain ⟨h1, h2⟩ := Bool.and_eq_true_iff.mp e2
  have key : ∀ p ∈ tf, PySem.W.codeHdIn (He.frT h.get? as) (He.cT (He.frT h.get? as) p).1 (He.cT (He.frT h.get? as) p).2 = true ∧ ∃ o, h.get? (He.cT (He.frT h.get? as) p).2 = some o ∧ He.emptyTab o = true := fun p hp => by
    obtain ⟨h3, h4⟩ := Bool.and_eq_true_iff.mp (List.all_eq_true.mp h2 p hp)
    refine ⟨h3, ?_⟩
    cases q : h.get? (He.cT (He.frT h.get? as) p).2 with
    | none =>
      rw [q] at h4
      cases h4
    | some o =>
      rw [q] at h4
      exact ⟨o, rfl, h4⟩
  exact ⟨e1, h1, fun p hp => (key p hp).1, fun p hp => by
    obtain ⟨_, o, q, z⟩ := key p hp
    exact He.frT_none q z, fun p hp => by
    obtain ⟨_, o, q, z⟩ := key p hp
    rw [q, He.emptyTab_eq z]⟩
def obsS (n : Nat) (fa : List He.Fa) (fn : List He.DefD) (ts : List He.Tab) (tf : List He.Defn) (ex : PySem.W.Frag → Bool) (sd : List SupDf) (g : Addr → Option Obj) : AlS := (obsXa (asS g n) fa fn ts tf ex g, sd.map fun d => fnC (He.frT g (asS g n)) d.at_)
def valS (fn : List He.DefD) (ts : List He.Tab) (sd : List SupDf) (w : World) : AlS := (He.valX fn ts w, sd.map SupDf.val)
structure SaysS (fa : List He.Fa) (fn : List He.DefD) (ts : List He.Tab) (tf : List He.Defn) (ex : PySem.W.Frag → Bool) (sd : List SupDf) (w : World) (h : Heap) (K : PySem.W.Frag) : Prop where
  x : He.SaysX fa fn ts tf ex w h K
  sup : sd.map (fun d => fnC K d.at_) = sd.map SupDf.val
def hookS (n : Nat) (fa : List He.Fa) (fn : List He.DefD) (ts : List He.Tab) (tf : List He.Defn) (ex : PySem.W.Frag → Bool) (sd : List SupDf) : PySem.W.Hook where
  α := AlS
  obs := fun s => obsS n fa fn ts tf ex sd s.heap.get?
  val := fun w => valS fn ts sd w
  says := fun w h => ∃ K : PySem.W.Frag, K.In h ∧ SaysS fa fn ts tf ex sd w h K
  of := fun _ _ e => ⟨_, He.frT_in, ⟨saysXa_of (congrArg (fun z : AlS => z.1) e), congrArg (fun z : AlS => z.2) e⟩⟩
  keeps := fun _ _ _ ⟨K, hK, c⟩ k => ⟨K, PySem.W.Frag.In.keeps hK k, ⟨⟨c.x.t, c.x.more, c.x.hd, c.x.out, fun p hp => k _ _ (c.x.empty p hp)⟩, c.sup⟩⟩
theorem obsS_eq {n : Nat} {fa : List He.Fa} {fn : List He.DefD} {ts : List He.Tab} {tf : List He.Defn} {ex : PySem.W.Frag → Bool} {sd : List SupDf} {g : Addr → Option Obj} {s : Shared} (h : ∀ a, g a = s.heap.get? a) : obsS n fa fn ts tf ex sd g = (hookS n fa fn ts tf ex sd).obs s := by
  have e : g = s.heap.get? := funext h
  rw [e] <;> rfl
theorem SaysS.at_ {fa : List He.Fa} {fn : List He.DefD} {ts : List He.Tab} {tf : List He.Defn} {ex : PySem.W.Frag → Bool} {sd : List SupDf} {w : World} {h : Heap} {K : PySem.W.Frag} (c : SaysS fa fn ts tf ex sd w h K) (i : Nat) {d : SupDf} (e : sd[i]? = some d := by rfl) : fnC K d.at_ = d.val := by
  have e2 : (sd.map fun d => fnC K d.at_)[i]? = (sd.map SupDf.val)[i]? := by rw [c.sup]
  rw [List.getElem?_map, List.getElem?_map, e] at e2
  exact Option.some.inj e2
theorem ex_at {l : List Bool} (h : l.all id = true) (i : Nat) {b : Bool} (e : l[i]? = some b := by rfl) : b = true := List.all_eq_true.mp h b (List.mem_of_getElem? e)
theorem funD_code {K : PySem.W.Frag} {x qual : Str} {params : Arguments} {body : List Stmt} {scope : Scope} {dvs : List V} {kws : List (Str × V)} {fd : FuncData} {p : He.Defn} (F : FunD K x qual params body scope dvs kws (He.fAd K p) fd) : fd.code = .ref (He.cT K p).1 := by
  obtain ⟨oc, od, dV, kV, doc, pm, an, cdv, ct, osl, rfl, lk, hcd, _, _⟩ := F.ex
  obtain ⟨c, rfl⟩ := He.codeIn_ref hcd
  show Value.ref c = .ref (He.codeOf K p)
  rw [He.codeOf_eq lk rfl]
theorem sup_binds {P : Program} {K : PySem.W.Frag} {mg : Str → Option Value} {name qual : Str} {params : Arguments} {body : List Stmt} {scope : Scope} {N ps : List Str} {f cda cc D : Addr} {fd : FuncData} (F : SupF P K mg name qual params body scope N ps f cda cc D fd) (hd : fd.defaults = .none)
    (h : ∀ (kV doc pm : Value) (an : Option Addr) (ct : Value) (us : List Value), us.length = ps.length → bindArgs (ksFn name qual params body scope .none kV doc pm an (.ref cda) ct cc) ⟨us, []⟩ = pure (ps.zip us)) : Binds K fd ps [] := by
  obtain ⟨dV, kV, doc, pm, ct, oc, an, od, osl, e, lk⟩ := F.fn
  subst e
  obtain rfl : dV = .none := hd
  exact .all (h kV doc pm an ct)
theorem tt_ne {a b : Addr} (h : (!(Nat.beq a b)) = true) : a ≠ b := fun e => by
  subst e
  rw [Nat.beq_refl] at h
  cases h
end Sm
namespace He
open PySem PySem.Spec PyProof.Rows L2
theorem SaysT_at {fa : List Fa} {fn : List DefD} {ts : List Tab} {w : World} {K : PySem.W.Frag} (c : SaysT fa fn ts w K) (i : Nat) {t : Tab} (h : ts[i]? = some t := by rfl) : dicW K (t.1 K) = some (keysIn w.params t.2) := by
  have e : ts.map (fun t => dicW K (t.1 K)) = ts.map fun t => some (keysIn w.params t.2) := congrArg (fun z : AlT => z.2) c
  have e2 : (ts.map fun t => dicW K (t.1 K))[i]? = (ts.map fun t => some (keysIn w.params t.2))[i]? := by rw [e]
  rw [List.getElem?_map, List.getElem?_map, h] at e2
  exact Option.some.inj e2
end He

set_option Elab.async false
set_option linter.all false
set_option maxRecDepth 100000
/-! Sim, part 22: the Hook of a written list of addresses; a top's run, looked at in parts. -/
namespace Sm
open PySem PySem.W PySem.Spec PyProof.Rows HandSHeadRun
def obsL (as : List Addr) (fa : List He.Fa) (fn : List He.DefD) (ts : List He.Tab) (tf : List He.Defn) (ex : PySem.W.Frag → Bool) (sd : List SupDf) (g : Addr → Option Obj) : AlS := (obsXa as fa fn ts tf ex g, sd.map fun d => fnC (He.frT g as) d.at_)
def hookL (as : List Addr) (fa : List He.Fa) (fn : List He.DefD) (ts : List He.Tab) (tf : List He.Defn) (ex : PySem.W.Frag → Bool) (sd : List SupDf) : PySem.W.Hook where
  α := AlS
  obs := fun s => obsL as fa fn ts tf ex sd s.heap.get?
  val := fun w => valS fn ts sd w
  says := fun w h => ∃ K : PySem.W.Frag, K.In h ∧ SaysS fa fn ts tf ex sd w h K
  of := fun _ _ e => ⟨_, He.frT_in, ⟨saysXa_of (congrArg (fun z : AlS => z.1) e), congrArg (fun z : AlS => z.2) e⟩⟩
  keeps := (hookS 6 fa fn ts tf ex sd).keeps
theorem obsL_eq {as : List Addr} {fa : List He.Fa} {fn : List He.DefD} {ts : List He.Tab} {tf : List He.Defn} {ex : PySem.W.Frag → Bool} {sd : List SupDf} {g : Addr → Option Obj} {s : Shared} (h : ∀ a, g a = s.heap.get? a) : obsL as fa fn ts tf ex sd g = (hookL as fa fn ts tf ex sd).obs s := by
  rw [funext h (f := g) (g := s.heap.get?)] <;> rfl
end Sm

set_option Elab.async false
set_option linter.all false
set_option maxRecDepth 100000
/-! Sim, part 22: a top's run, looked at in parts. -/
namespace Sm
open PySem PySem.W PySem.Spec PyProof.Rows HandSHeadRun
noncomputable def endR (r : OpenRow) (M : Nat) (w : World) (os : OsState) : Option SharedT := endF (stepQ (denQ tabQ) r.prog w) M r.prog w os
/-- the looks -/
def Part0 (r : OpenRow) (q : Program) (M : Nat) (loose : List PySem.Str) (w : World) : Prop := ∀ os, (endR r M w os).map (fun s => (looksF r.prog (boot_heap w.params) s.abs, seenQ q loose (importedModules r.prog.main.body) (fun s => xlAt q [] s && recOk r.toRowW.records s) s.abs)) = some (true, openGood q loose)
/-- what a Bool says of the fragment behind the top -/
def PartB (r : OpenRow) (M : Nat) (w : World) (as : List Addr) (P : PySem.W.Frag → Bool) : Prop := ∀ os, (endR r M w os).map (fun s => P (He.frT (getT s) as)) = some true
def Part3 (r : OpenRow) (M : Nat) (w : World) (as : List Addr) (fn : List He.DefD) (ts : List He.Tab) : Prop := ∀ os, (endR r M w os).map (fun s => ((fn.all fun d => d.ok (He.frT (getT s) as)), fn.map (fun d => He.fnW (He.frT (getT s) as) d.at_), ts.map fun t => He.dicW (He.frT (getT s) as) (t.1 (He.frT (getT s) as)))) = some (true, fn.map He.DefD.val, ts.map fun t => some (He.keysIn w.params t.2))
def Part2 (r : OpenRow) (M : Nat) (w : World) (as : List Addr) (tf : List He.Defn) (ex : PySem.W.Frag → Bool) (sd : List SupDf) : Prop := ∀ os, (endR r M w os).map (fun s => (ex (He.frT (getT s) as) && He.tabsB (getT s) tf (He.frT (getT s) as), sd.map fun d => fnC (He.frT (getT s) as) d.at_)) = some (true, sd.map SupDf.val)
theorem run_parts {r : OpenRow} {q : Program} {as : List Addr} {fa : List He.Fa} {fn : List He.DefD} {ts : List He.Tab} {tf : List He.Defn} {ex : PySem.W.Frag → Bool} {sd : List SupDf} {M : Nat} {loose : List PySem.Str} {w : World}
    (h0 : Part0 r q M loose w) (h1 : PartB r M w as fun K => fa.all fun f => f.ok K) (h5 : Part3 r M w as fn ts) (h6 : Part2 r M w as tf ex sd) : RunEq r q (hookL as fa fn ts tf ex sd) (fun s => obsL as fa fn ts tf ex sd (getT s)) M loose w := fun os => by
  have z0 := h0 os
  have z1 := h1 os
  have z5 := h5 os
  have z6 := h6 os
  show (endR r M w os).map _ = _
  cases e : endR r M w os with
  | none =>
    rw [e] at z0
    cases z0
  | some s =>
    rw [e] at z0 z1 z5 z6
    have z0 := Option.some.inj z0
    have z1 := Option.some.inj z1
    have z5 := Option.some.inj z5
    have z6 := Option.some.inj z6
    dsimp only at z1 z5 z6
    have hob : obsL as fa fn ts tf ex sd (getT s) = valS fn ts sd w := by
      generalize hK : He.frT (getT s) as = K at z1 z5 z6
      have y0 := congrArg (fun z : Bool × List He.FnW × List (Option (List (Option (Str × Int)))) => z.1) z5
      have y1 := congrArg (fun z : Bool × List He.FnW × List (Option (List (Option (Str × Int)))) => z.2.1) z5
      have y2 := congrArg (fun z : Bool × List He.FnW × List (Option (List (Option (Str × Int)))) => z.2.2) z5
      have y3 := congrArg (fun z : Bool × List FnC => z.1) z6
      have y4 := congrArg (fun z : Bool × List FnC => z.2) z6
      dsimp only at y0 y1 y2 y3 y4
      unfold obsL obsXa He.obsT He.obsD valS He.valX He.valT He.valD
      rw [hK, z1, y0, y1, y2, y3, y4]
      rfl
    show some (looksF r.prog (boot_heap w.params) s.abs, seenQ q loose (importedModules r.prog.main.body) (fun s => xlAt q [] s && recOk r.toRowW.records s) s.abs, obsL as fa fn ts tf ex sd (getT s)) = _
    rw [hob]
    have a := congrArg Prod.fst z0
    have b := congrArg Prod.snd z0
    dsimp only at a b
    rw [a, b]
    rfl
end Sm

set_option Elab.async false
set_option linter.all false
set_option maxRecDepth 100000
set_option maxHeartbeats 4000000
/-! The walk of the law's defs, printed by gen_law.py. -/
namespace K89
open PySem PySem.Spec PyProof.Rows L2 Sm
open PySem.W (ksEnv ksFn)
abbrev prg : Program := PySem.Challenge.pw_elasticsheets_k89_texts_of_papers_that_c
def top (i : Nat) : Stmt := prg.main.body.getD i (.Pass ⟨0, 0, 0, 0⟩)
abbrev meth (i j : Nat) : Stmt := clsMeth (top i) j
/-- the loops' fuel -/
def fu : Nat := 16777300
def clsN : List Str := ["SheetError", "PartError", "BadWorkbook", "BadNumber", "BadValue", "NoName", "Misfit", "BadText", "BadCommand", "Nothing", "TooMany", "Paper", "Denial", "Form", "Alike", "Unlike", "Enough", "Misses", "Matters", "Mends", "Unmended", "Spares", "Total", "Untrue", "Passed", "Failed", "Opened", "Reading"]
def fldN : List Str := ["part", "name", "what", "line", "word", "most", "parts", "form", "script", "rows", "lots", "scripts", "told", "words", "at", "begun", "needs", "terms", "source", "target", "idle"]
def l_SIZES : List (List Nat × Int) := [([102, 111, 114, 109], 2), ([97, 108, 105, 107, 101], 1), ([117, 110, 108, 105, 107, 101], 1), ([112, 97, 115, 115, 101, 100], 1), ([102, 97, 105, 108, 101, 100], 1), ([109, 97, 116, 116, 101, 114, 115], 2), ([116, 111, 116, 97, 108], 1), ([117, 110, 116, 114, 117, 101], 1), ([109, 101, 110, 100, 115], 1), ([117, 110, 109, 101, 110, 100, 101, 100], 1), ([115, 112, 97, 114, 101, 115], 1), ([101, 110, 111, 117, 103, 104], 1), ([109, 105, 115, 115, 101, 115], 3)]
def isiC : List Nat := [13, 14, 15, 16, 17, 18, 19, 20, 21, 22, 23, 24, 25, 26, 27]
def isiD : List Nat := [11]
def isiT : List (Nat × Nat) := [(13, 11), (14, 11), (15, 11), (16, 11), (17, 11), (18, 11), (19, 11), (20, 11), (21, 11), (22, 11), (23, 11), (24, 11), (25, 11)]
def isiS : Nat → Nat → Option Bool := isiSub isiC isiD isiT
def nmsT : List (Nat × List Nat) := [(13, [70, 111, 114, 109]), (14, [65, 108, 105, 107, 101]), (15, [85, 110, 108, 105, 107, 101]), (16, [69, 110, 111, 117, 103, 104]), (17, [77, 105, 115, 115, 101, 115]), (18, [77, 97, 116, 116, 101, 114, 115]), (19, [77, 101, 110, 100, 115]), (20, [85, 110, 109, 101, 110, 100, 101, 100]), (21, [83, 112, 97, 114, 101, 115]), (22, [84, 111, 116, 97, 108]), (23, [85, 110, 116, 114, 117, 101]), (24, [80, 97, 115, 115, 101, 100]), (25, [70, 97, 105, 108, 101, 100])]
def nms : Nat → Option (List Nat) := nmsBy nmsT
def saidR : List (Nat × Nat × List Nat) := [(10, 0, [2, 5]), (7, 1, [3, 4]), (8, 2, [4]), (5, 3, [1]), (6, 4, [2]), (9, 5, [])]
def saidT : Nat → Option (Nat × List Nat) := saidTBy saidR
/-! ### the mirrors -/
def b_is_integer (M : Nat → FM) : SM := (mRet (mAndV (mIsi isiC isiS [.int] (mVar 0)) (mNotV (mIsi isiC isiS [.bool] (mVar 0)))))
def b_kept (M : Nat → FM) : SM := (mRet (mIf (mT (mIsi isiC isiS [.list, .tuple] (mVar 0))) (mCallB fTuple (mCons (mLc (mSeqI (mVar 0)) [1] (.one 1) mYes (mCall (M 1) (mCons (mVar 1) mNil)) fu) mNil)) (mVar 0)))
def b_Paper_init (M : Nat → FM) : SM := (mSeq (mSetF 4 [13, 14, 15, 16, 17, 18, 19, 20, 21, 22, 23, 24, 25] (mVar 0) (mMetB isStrU fLower (mTyNm nms (mVar 0)) mNil)) (mSetF 6 [13, 14, 15, 16, 17, 18, 19, 20, 21, 22, 23, 24, 25] (mVar 0) (mCall (M 1) (mCons (mVar 1) mNil))))
def b_Form_init (M : Nat → FM) : FM := runSup [13] 3 3 (mCons (mVar 1) (mCons (mVar 2) mNil)) (starF 1 (M 2)) (mAsg (mFld 6 (mVar 0)) (gT 2 (gCons (gFldU 16 [13] (mVar 0)) (gCons (gFldU 17 [13] (mVar 0)) gNil))))
def b_Alike_init (M : Nat → FM) : FM := runSup [14] 2 2 (mCons (mVar 1) mNil) (starF 1 (M 2)) (mSetF 7 [14] (mVar 0) (mBin opIxA (mFld 6 (mVar 0)) (mC (.int 0))))
def b_Unlike_init (M : Nat → FM) : FM := runSup [15] 2 2 (mCons (mVar 1) mNil) (starF 1 (M 2)) (mSetF 8 [15] (mVar 0) (mBin opIxA (mFld 6 (mVar 0)) (mC (.int 0))))
def b_Enough_init (M : Nat → FM) : FM := runSup [16] 2 2 (mCons (mVar 1) mNil) (starF 1 (M 2)) (mSetF 9 [16] (mVar 0) (mBin opIxA (mFld 6 (mVar 0)) (mC (.int 0))))
def b_Misses_init (M : Nat → FM) : FM := runSup [17] 4 4 (mCons (mVar 1) (mCons (mVar 2) (mCons (mVar 3) mNil))) (starF 1 (M 2)) (mAsg (mFld 6 (mVar 0)) (gT 3 (gCons (gFldU 18 [17] (mVar 0)) (gCons (gFldU 19 [17] (mVar 0)) (gCons (gFldU 8 [17] (mVar 0)) gNil)))))
def b_Matters_init (M : Nat → FM) : FM := runSup [18] 3 3 (mCons (mVar 1) (mCons (mVar 2) mNil)) (starF 1 (M 2)) (mAsg (mFld 6 (mVar 0)) (gT 2 (gCons (gFldU 9 [18] (mVar 0)) (gCons (gFldU 20 [18] (mVar 0)) gNil))))
def b_Mends_init (M : Nat → FM) : FM := runSup [19] 2 2 (mCons (mVar 1) mNil) (starF 1 (M 2)) (mSetF 9 [19] (mVar 0) (mBin opIxA (mFld 6 (mVar 0)) (mC (.int 0))))
def b_Unmended_init (M : Nat → FM) : FM := runSup [20] 2 2 (mCons (mVar 1) mNil) (starF 1 (M 2)) (mSetF 8 [20] (mVar 0) (mBin opIxA (mFld 6 (mVar 0)) (mC (.int 0))))
def b_Spares_init (M : Nat → FM) : FM := runSup [21] 2 2 (mCons (mVar 1) mNil) (starF 1 (M 2)) (mSetF 10 [21] (mVar 0) (mBin opIxA (mFld 6 (mVar 0)) (mC (.int 0))))
def b_Total_init (M : Nat → FM) : FM := runSup [22] 2 2 (mCons (mVar 1) mNil) (starF 1 (M 2)) (mSetF 7 [22] (mVar 0) (mBin opIxA (mFld 6 (mVar 0)) (mC (.int 0))))
def b_Untrue_init (M : Nat → FM) : FM := runSup [23] 2 2 (mCons (mVar 1) mNil) (starF 1 (M 2)) (mSetF 9 [23] (mVar 0) (mBin opIxA (mFld 6 (mVar 0)) (mC (.int 0))))
def b_Passed_init (M : Nat → FM) : FM := runSup [24] 2 2 (mCons (mVar 1) mNil) (starF 1 (M 2)) (mSetF 11 [24] (mVar 0) (mBin opIxA (mFld 6 (mVar 0)) (mC (.int 0))))
def b_Failed_init (M : Nat → FM) : FM := runSup [25] 2 2 (mCons (mVar 1) mNil) (starF 1 (M 2)) (mSetF 8 [25] (mVar 0) (mBin opIxA (mFld 6 (mVar 0)) (mC (.int 0))))
def b_is_word (M : Nat → FM) : SM := (mSeq (mIfS (mOr (mNot (mT (mIsi isiC isiS [.str] (mVar 0)))) (mOr (mT (mBin (opEq) (mVar 0) (mC (.str [])))) (mT (mBin (opGt) (mCallB fLen (mCons (mVar 0) mNil)) (mC (.int 100)))))) (mRet (mC (.bl false))) mNx) (mRet (mAndV (mBin (opInA false) (mBin opIxA (mVar 0) (mC (.int 0))) (mC (.str [97, 98, 99, 100, 101, 102, 103, 104, 105, 106, 107, 108, 109, 110, 111, 112, 113, 114, 115, 116, 117, 118, 119, 120, 121, 122]))) (mCallB fAll (mCons (mLc (mSeqI (mVar 0)) [1] (.one 1) mYes (mBin (opInA false) (mVar 1) (mC (.str [97, 98, 99, 100, 101, 102, 103, 104, 105, 106, 107, 108, 109, 110, 111, 112, 113, 114, 115, 116, 117, 118, 119, 120, 121, 122, 48, 49, 50, 51, 52, 53, 54, 55, 56, 57, 46]))) fu) mNil)))))
def b_is_kind (M : Nat → FM) : SM := (mRet (mAndV (mIsi isiC isiS [(.own 11)] (mVar 0)) (mInK l_SIZES false (mFld 4 (mVar 0)))))
def b_words_of (M : Nat → FM) : SM := (mSeq (mIfS (mT (mBin (opIsN) (mVar 0) (mC .non))) (mRet (mLst (mCons (mC (.str [45])) mNil))) mNx) (mSeq (mIfS (mT (mCall (M 0) (mCons (mVar 0) mNil))) (mRet (mIf (mT (mBin (opLe) (mCallB fLen (mCons (mCallB fStr (mCons (mCallB fAbs (mCons (mVar 0) mNil)) mNil)) mNil)) (mC (.int 400)))) (mLst (mCons (mCallB fStr (mCons (mVar 0) mNil)) mNil)) (mLst (mCons (mC .non) mNil)))) mNx) (mSeq (mIfS (mT (mIsi isiC isiS [.str] (mVar 0))) (mRet (mLst (mCons (mIf (mT (mCall (M 16) (mCons (mVar 0) mNil))) (mVar 0) (mC .non)) mNil))) mNx) (mSeq (mIfS (mT (mBin (opEq) (mVar 1) (mC (.int 0)))) (mRet (mLst (mCons (mC .non) mNil))) mNx) (mSeq (mIfS (mT (mIsi isiC isiS [.tuple] (mVar 0))) (mRet (mLst (mCons (mC (.str [40])) (mStar (mLc2 (mSeqI (mVar 0)) [2, 3] (.one 2) mYes (mSeqI (mCall (M 18) (mCons (mVar 2) (mCons (mBin opSub (mVar 1) (mC (.int 1))) mNil)))) [3] (.one 3) mYes (mVar 3) fu fu) (mCons (mC (.str [41])) mNil))))) mNx) (mSeq (mIfS (mT (mCall (M 17) (mCons (mVar 0) mNil))) (mRet (mLst (mCons (mC (.str [91])) (mCons (mFld 4 (mVar 0)) (mStar (mLc2 (mSeqI (mFld 6 (mVar 0))) [2, 3] (.one 2) mYes (mSeqI (mCall (M 18) (mCons (mVar 2) (mCons (mBin opSub (mVar 1) (mC (.int 1))) mNil)))) [3] (.one 3) mYes (mVar 3) fu fu) (mCons (mC (.str [93])) mNil)))))) mNx) (mRet (mLst (mCons (mC .non) mNil)))))))))
def b_paper_text (M : Nat → FM) : SM := (mSeq (mAsg (mIf (mT (mCall (M 17) (mCons (mVar 0) mNil))) (mCall (M 18) (mCons (mVar 0) (mCons (mC (.int 20)) mNil))) (mLst (mCons (mC .non) mNil))) (gN 1)) (mSeq (mIfS (mT (mBin (opInA false) (mC .non) (mVar 1))) (mRaise 4 [0] (mCons (mC (.str [112, 97, 112, 101, 114])) mNil)) mNx) (mRet (mMetB isStrU fJoin (mC (.str [32])) (mCons (mVar 1) mNil)))))
def b_made_of (M : Nat → FM) : SM := (mSeq (mPar 2 3 (mCons (mBin opIxA (mVar 1) (mC (.int 0))) (mCons (mBin opIxA (mVar 1) (mNeg (mC (.int 1)))) mNil))) (mSeq (mIfS (mT (mBin (opInA false) (mVar 0) (mTup (mCons (mC (.str [97, 108, 105, 107, 101])) (mCons (mC (.str [117, 110, 108, 105, 107, 101])) mNil))))) (mRet (mIf (mT (mBin (opEq) (mVar 0) (mC (.str [97, 108, 105, 107, 101])))) (mMake 14 (M 4) (mCons (mVar 2) mNil)) (mMake 15 (M 5) (mCons (mVar 2) mNil)))) mNx) (mSeq (mIfS (mT (mBin (opInA false) (mVar 0) (mTup (mCons (mC (.str [112, 97, 115, 115, 101, 100])) (mCons (mC (.str [102, 97, 105, 108, 101, 100])) mNil))))) (mRet (mIf (mT (mBin (opEq) (mVar 0) (mC (.str [112, 97, 115, 115, 101, 100])))) (mMake 24 (M 14) (mCons (mVar 2) mNil)) (mMake 25 (M 15) (mCons (mVar 2) mNil)))) mNx) (mSeq (mIfS (mT (mBin (opInA false) (mVar 0) (mTup (mCons (mC (.str [116, 111, 116, 97, 108])) (mCons (mC (.str [117, 110, 116, 114, 117, 101])) mNil))))) (mRet (mIf (mT (mBin (opEq) (mVar 0) (mC (.str [116, 111, 116, 97, 108])))) (mMake 22 (M 12) (mCons (mVar 2) mNil)) (mMake 23 (M 13) (mCons (mVar 2) mNil)))) mNx) (mSeq (mIfS (mT (mBin (opInA false) (mVar 0) (mTup (mCons (mC (.str [109, 101, 110, 100, 115])) (mCons (mC (.str [117, 110, 109, 101, 110, 100, 101, 100])) mNil))))) (mRet (mIf (mT (mBin (opEq) (mVar 0) (mC (.str [109, 101, 110, 100, 115])))) (mMake 19 (M 9) (mCons (mVar 2) mNil)) (mMake 20 (M 10) (mCons (mVar 2) mNil)))) mNx) (mSeq (mIfS (mT (mBin (opInA false) (mVar 0) (mTup (mCons (mC (.str [115, 112, 97, 114, 101, 115])) (mCons (mC (.str [101, 110, 111, 117, 103, 104])) mNil))))) (mRet (mIf (mT (mBin (opEq) (mVar 0) (mC (.str [115, 112, 97, 114, 101, 115])))) (mMake 21 (M 11) (mCons (mVar 2) mNil)) (mMake 16 (M 6) (mCons (mVar 2) mNil)))) mNx) (mSeq (mIfS (mT (mBin (opEq) (mVar 0) (mC (.str [109, 105, 115, 115, 101, 115])))) (mRet (mMake 17 (M 7) (mCons (mVar 2) (mCons (mBin opIxA (mVar 1) (mC (.int 1))) (mCons (mVar 3) mNil))))) mNx) (mRet (mIf (mT (mBin (opEq) (mVar 0) (mC (.str [102, 111, 114, 109])))) (mMake 13 (M 3) (mCons (mVar 2) (mCons (mVar 3) mNil))) (mMake 18 (M 8) (mCons (mVar 2) (mCons (mVar 3) mNil))))))))))))
def b_Opened_init (M : Nat → FM) : SM := (mSeq (mSetF 4 [26] (mVar 0) (mVar 1)) (mSetF 12 [26] (mVar 0) (mLst mNil)))
def b_Opened_is_full (M : Nat → FM) : SM := (mRet (mAndV (mBin (opNotN) (mFld 4 (mVar 0)) (mC .non)) (mBin (opEq) (mCallB fLen (mCons (mFld 12 (mVar 0)) mNil)) (mIxK l_SIZES (mFld 4 (mVar 0))))))
def b_Opened_made (M : Nat → FM) : SM := (mRet (mIf (mT (mBin (opIsN) (mFld 4 (mVar 0)) (mC .non))) (mCallB fTuple (mCons (mFld 12 (mVar 0)) mNil)) (mCall (M 20) (mCons (mFld 4 (mVar 0)) (mCons (mFld 12 (mVar 0)) mNil)))))
def b_number_of (M : Nat → FM) : SM := (mSeq (mAsg (mIf (mT (mBin (opEq) (mSlice (mVar 0) mNoP (mPart (mC (.int 1)))) (mC (.str [45])))) (mSlice (mVar 0) (mPart (mC (.int 1))) mNoP) (mVar 0)) (gN 1)) (mSeq (mIfS (mOr (mT (mBin (opEq) (mVar 1) (mC (.str [])))) (mOr (mT (mBin (opGt) (mCallB fLen (mCons (mVar 1) mNil)) (mC (.int 400)))) (mNot (mT (mCallB fAll (mCons (mLc (mSeqI (mVar 1)) [2] (.one 2) mYes (mBin (opInA false) (mVar 2) (mC (.str [48, 49, 50, 51, 52, 53, 54, 55, 56, 57]))) fu) mNil)))))) (mRet (mC .non)) mNx) (mSeq (mIfS (mAnd (mT (mBin (opEq) (mBin opIxA (mVar 1) (mC (.int 0))) (mC (.str [48])))) (mT (mBin (opNe) (mVar 0) (mC (.str [48]))))) (mRet (mC .non)) mNx) (mRet (mCallB fInt (mCons (mVar 0) mNil))))))
def b_plain_of (M : Nat → FM) : SM := (mSeq (mIfS (mT (mBin (opEq) (mVar 0) (mC (.str [45])))) (mRet (mTup (mCons (mC .non) mNil))) mNx) (mSeq (mIfS (mT (mCall (M 16) (mCons (mVar 0) mNil))) (mRet (mTup (mCons (mVar 0) mNil))) mNx) (mSeq (mAsg (mCall (M 24) (mCons (mVar 0) mNil)) (gN 1)) (mRet (mIf (mT (mBin (opIsN) (mVar 1) (mC .non))) (mTup mNil) (mTup (mCons (mVar 1) mNil)))))))
def b_Reading_init (M : Nat → FM) : SM := (mSeq (mSetF 13 [27] (mVar 0) (mVar 1)) (mSeq (mSetF 3 [27] (mVar 0) (mVar 2)) (mSeq (mSetF 14 [27] (mVar 0) (mVar 3)) (mSetF 15 [27] (mVar 0) (mLst mNil)))))
def b_Reading_stop (M : Nat → FM) : SM := (mRaise 7 [3, 4] (mCons (mFld 3 (mVar 0)) (mCons (mFld 14 (mVar 0)) mNil)))
def b_Reading_begin (M : Nat → FM) : SM := (mSeq (mIfS (mT (mBin (opEq) (mCallB fLen (mCons (mFld 15 (mVar 0)) mNil)) (mC (.int 20)))) (mEx (mMeth 27 (M 27) (mVar 0) mNil)) mNx) (mSeq (mIfS (mT (mBin (opEq) (mBin opIxA (mFld 13 (mVar 0)) (mFld 14 (mVar 0))) (mC (.str [40])))) (mEx (mMetB isLstU fAppend (mFld 15 (mVar 0)) (mCons (mMake 26 (M 21) (mCons (mC .non) mNil)) mNil))) (mSeq (mAugF opAddZ 14 [27] (mVar 0) (mC (.int 1))) (mSeq (mIfS (mOr (mT (mBin (opEq) (mFld 14 (mVar 0)) (mCallB fLen (mCons (mFld 13 (mVar 0)) mNil)))) (mT (mInK l_SIZES true (mBin opIxA (mFld 13 (mVar 0)) (mFld 14 (mVar 0)))))) (mEx (mMeth 27 (M 27) (mVar 0) mNil)) mNx) (mEx (mMetB isLstU fAppend (mFld 15 (mVar 0)) (mCons (mMake 26 (M 21) (mCons (mBin opIxA (mFld 13 (mVar 0)) (mFld 14 (mVar 0))) mNil)) mNil)))))) (mAugF opAddZ 14 [27] (mVar 0) (mC (.int 1)))))
def b_Reading_put (M : Nat → FM) : SM := (mSeq (mIfS (mT (mMeth 26 (M 22) (mBin opIxA (mFld 15 (mVar 0)) (mNeg (mC (.int 1)))) mNil)) (mEx (mMeth 27 (M 27) (mVar 0) mNil)) mNx) (mSeq (mEx (mMetB isLstU fAppend (mFld 12 (mBin opIxA (mFld 15 (mVar 0)) (mNeg (mC (.int 1))))) (mCons (mVar 1) mNil))) (mAugF opAddZ 14 [27] (mVar 0) (mC (.int 1)))))
def b_Reading_end (M : Nat → FM) : SM := (mSeq (mAsg (mBin opIxA (mFld 15 (mVar 0)) (mNeg (mC (.int 1)))) (gN 1)) (mSeq (mIfS (mOr (mT (mBin (opNe) (mBin opIxA (mFld 13 (mVar 0)) (mFld 14 (mVar 0))) (mIf (mT (mBin (opIsN) (mFld 4 (mVar 1)) (mC .non))) (mC (.str [41])) (mC (.str [93]))))) (mAnd (mT (mBin (opNotN) (mFld 4 (mVar 1)) (mC .non))) (mNot (mT (mMeth 26 (M 22) (mVar 1) mNil))))) (mEx (mMeth 27 (M 27) (mVar 0) mNil)) mNx) (mSeq (mEx (mMetB isLstU fPop (mFld 15 (mVar 0)) mNil)) (mSeq (mIfS (mT (mBin (opEq) (mFld 15 (mVar 0)) (mLst mNil))) (mSeq (mAugF opAddZ 14 [27] (mVar 0) (mC (.int 1))) (mRet (mMeth 26 (M 23) (mVar 1) mNil))) mNx) (mSeq (mEx (mMeth 27 (M 29) (mVar 0) (mCons (mMeth 26 (M 23) (mVar 1) mNil) mNil))) (mRet (mC .non)))))))
def b_Reading_whole (M : Nat → FM) : SM := (mSeq (mIfS (mOr (mT (mBin (opEq) (mFld 14 (mVar 0)) (mCallB fLen (mCons (mFld 13 (mVar 0)) mNil)))) (mT (mBin (opNe) (mBin opIxA (mFld 13 (mVar 0)) (mFld 14 (mVar 0))) (mC (.str [91]))))) (mEx (mMeth 27 (M 27) (mVar 0) mNil)) mNx) (mSeq (mEx (mMeth 27 (M 28) (mVar 0) mNil)) (mSeq (mWhile (mT (mBin (opLt) (mFld 14 (mVar 0)) (mCallB fLen (mCons (mFld 13 (mVar 0)) mNil)))) (mSeq (mPar 1 2 (mCons (mBin opIxA (mFld 13 (mVar 0)) (mFld 14 (mVar 0))) (mCons (mC .non) mNil))) (mSeq (mIfS (mT (mBin (opInA false) (mVar 1) (mTup (mCons (mC (.str [40])) (mCons (mC (.str [91])) mNil))))) (mSeq (mIfS (mT (mMeth 26 (M 22) (mBin opIxA (mFld 15 (mVar 0)) (mNeg (mC (.int 1)))) mNil)) (mEx (mMeth 27 (M 27) (mVar 0) mNil)) mNx) (mEx (mMeth 27 (M 28) (mVar 0) mNil))) (mIfS (mT (mBin (opInA false) (mVar 1) (mTup (mCons (mC (.str [41])) (mCons (mC (.str [93])) mNil))))) (mAsg (mMeth 27 (M 30) (mVar 0) mNil) (gN 2)) (mSeq (mAsg (mCall (M 25) (mCons (mVar 1) mNil)) (gN 3)) (mSeq (mIfS (mT (mBin (opEq) (mVar 3) (mTup mNil))) (mEx (mMeth 27 (M 27) (mVar 0) mNil)) mNx) (mEx (mMeth 27 (M 29) (mVar 0) (mCons (mBin opIxA (mVar 3) (mC (.int 0))) mNil))))))) (mIfS (mT (mBin (opNotN) (mVar 2) (mC .non))) (mSeq (mIfS (mT (mBin (opLt) (mFld 14 (mVar 0)) (mCallB fLen (mCons (mFld 13 (mVar 0)) mNil)))) (mEx (mMeth 27 (M 27) (mVar 0) mNil)) mNx) (mRet (mVar 2))) mNx))) fu) (mRet (mMeth 27 (M 27) (mVar 0) mNil)))))
def b_read_paper (M : Nat → FM) : SM := (mSeq (mIfS (mNot (mT (mIsi isiC isiS [.str] (mVar 0)))) (mRaise 4 [0] (mCons (mC (.str [116, 101, 120, 116])) mNil)) mNx) (mRet (mMeth 27 (M 31) (mMake 27 (M 26) (mCons (mMetB isStrU fSplit (mVar 0) (mCons (mC (.str [32])) mNil)) (mCons (mC (.int 0)) (mCons (mC (.int 0)) mNil)))) mNil)))
def b__law_well (M : Nat → FM) : SM := (mRet (mDisp (mPcons (mC (.str [115, 99, 114, 105, 112, 116])) (mLc (mSeqI (mVar 0)) [1] (.one 1) mYes (mCallB fInt (mCons (mVar 1) mNil)) fu) (mPcons (mC (.str [115, 112, 111, 116])) (mC (.int 0)) (mPcons (mC (.str [115, 101, 101, 100])) (mBin opAdd (mC (.int 50021)) (mCallB fSum (mCons (mLc (mEnumI (mCons (mVar 0) mNil)) [2, 1] (.many [2, 1]) mYes (mBin opMul (mBin opAdd (mVar 2) (mC (.int 1))) (mVar 1)) fu) mNil))) mPnil)))))
def b__law_draw (M : Nat → FM) : SM := (mSeq (mIfS (mT (mBin (opLt) (mVar 1) (mC (.int 2)))) (mRet (mC (.int 0))) mNx) (mSeq (mAsg (mBin opAdd (mBin opIxA (mVar 0) (mC (.str [115, 112, 111, 116]))) (mC (.int 1))) (gSubU (mVar 0) (mC (.str [115, 112, 111, 116])))) (mSeq (mIfS (mT (mBin (opLe) (mBin opIxA (mVar 0) (mC (.str [115, 112, 111, 116]))) (mCallB fLen (mCons (mBin opIxA (mVar 0) (mC (.str [115, 99, 114, 105, 112, 116]))) mNil)))) (mRet (mBin opMod (mCallB fInt (mCons (mBin opIxA (mBin opIxA (mVar 0) (mC (.str [115, 99, 114, 105, 112, 116]))) (mBin opSub (mBin opIxA (mVar 0) (mC (.str [115, 112, 111, 116]))) (mC (.int 1)))) mNil)) (mVar 1))) mNx) (mSeq (mAsg (mBin opMod (mBin opAdd (mBin opAdd (mBin opMul (mBin opIxA (mVar 0) (mC (.str [115, 101, 101, 100]))) (mC (.int 8009))) (mC (.int 41117))) (mBin opMul (mC (.int 31)) (mBin opIxA (mVar 0) (mC (.str [115, 112, 111, 116]))))) (mC (.int 1000003))) (gSubU (mVar 0) (mC (.str [115, 101, 101, 100])))) (mRet (mBin opMod (mBin opFdiv (mBin opIxA (mVar 0) (mC (.str [115, 101, 101, 100]))) (mC (.int 17))) (mVar 1)))))))
def b__law_one (M : Nat → FM) : SM := (mRet (mBin opIxA (mVar 1) (mCall (M 34) (mCons (mVar 0) (mCons (mCallB fLen (mCons (mVar 1) mNil)) mNil)))))
def b__law_sizes (M : Nat → FM) : SM := (mRet (mDisp (mPcons (mC (.str [102, 111, 114, 109])) (mC (.int 2)) (mPcons (mC (.str [97, 108, 105, 107, 101])) (mC (.int 1)) (mPcons (mC (.str [117, 110, 108, 105, 107, 101])) (mC (.int 1)) (mPcons (mC (.str [112, 97, 115, 115, 101, 100])) (mC (.int 1)) (mPcons (mC (.str [102, 97, 105, 108, 101, 100])) (mC (.int 1)) (mPcons (mC (.str [109, 97, 116, 116, 101, 114, 115])) (mC (.int 2)) (mPcons (mC (.str [116, 111, 116, 97, 108])) (mC (.int 1)) (mPcons (mC (.str [117, 110, 116, 114, 117, 101])) (mC (.int 1)) (mPcons (mC (.str [109, 101, 110, 100, 115])) (mC (.int 1)) (mPcons (mC (.str [117, 110, 109, 101, 110, 100, 101, 100])) (mC (.int 1)) (mPcons (mC (.str [115, 112, 97, 114, 101, 115])) (mC (.int 1)) (mPcons (mC (.str [101, 110, 111, 117, 103, 104])) (mC (.int 1)) (mPcons (mC (.str [109, 105, 115, 115, 101, 115])) (mC (.int 3)) mPnil)))))))))))))))
def b__law_is_plain (M : Nat → FM) : SM := (mSeq (mIfS (mOr (mT (mBin (opEq) (mVar 0) (mC (.str [45])))) (mAnd (mT (mBin (opNe) (mSlice (mVar 0) mNoP (mPart (mC (.int 1)))) (mC (.str [])))) (mAnd (mT (mBin (opInA false) (mBin opIxA (mVar 0) (mC (.int 0))) (mC (.str [97, 98, 99, 100, 101, 102, 103, 104, 105, 106, 107, 108, 109, 110, 111, 112, 113, 114, 115, 116, 117, 118, 119, 120, 121, 122])))) (mT (mBin (opLe) (mCallB fLen (mCons (mVar 0) mNil)) (mC (.int 100))))))) (mRet (mAndV (mBin (opEq) (mLc (mSeqI (mVar 0)) [2] (.one 2) (mT (mBin (opInA true) (mVar 2) (mC (.str [97, 98, 99, 100, 101, 102, 103, 104, 105, 106, 107, 108, 109, 110, 111, 112, 113, 114, 115, 116, 117, 118, 119, 120, 121, 122, 48, 49, 50, 51, 52, 53, 54, 55, 56, 57, 46, 45])))) (mVar 2) fu) (mLst mNil)) (mOrV (mBin (opEq) (mVar 0) (mC (.str [45]))) (mBin (opInA true) (mC (.str [45])) (mVar 0))))) mNx) (mSeq (mAsg (mIf (mT (mBin (opEq) (mSlice (mVar 0) mNoP (mPart (mC (.int 1)))) (mC (.str [45])))) (mSlice (mVar 0) (mPart (mC (.int 1))) mNoP) (mVar 0)) (gN 1)) (mSeq (mIfS (mOr (mT (mBin (opEq) (mVar 1) (mC (.str [])))) (mOr (mT (mBin (opGt) (mCallB fLen (mCons (mVar 1) mNil)) (mC (.int 400)))) (mT (mBin (opNe) (mLc (mSeqI (mVar 1)) [2] (.one 2) (mT (mBin (opInA true) (mVar 2) (mC (.str [48, 49, 50, 51, 52, 53, 54, 55, 56, 57])))) (mVar 2) fu) (mLst mNil))))) (mRet (mC (.bl false))) mNx) (mRet (mOrV (mBin (opEq) (mVar 0) (mC (.str [48]))) (mBin (opNe) (mBin opIxA (mVar 1) (mC (.int 0))) (mC (.str [48]))))))))
def b__law_fault (M : Nat → FM) : SM := (mSeq (mPar 1 2 (mCons (mCall (M 36) mNil) (mCons (mLst mNil) mNil))) (mSeq (mForE (mEnumI (mCons (mVar 0) mNil)) (gT 2 (gCons (gN 3) (gCons (gN 4) gNil))) (mSeq (mIfS (mAnd (mT (mBin (opEq) (mVar 2) (mLst mNil))) (mT (mBin (opGt) (mVar 3) (mC (.int 0))))) (mRet (mVar 3)) mNx) (mIfS (mOr (mT (mBin (opEq) (mVar 3) (mC (.int 0)))) (mT (mBin (opEq) (mBin opIxA (mVar 2) (mNeg (mC (.int 1)))) (mC (.str [119, 111, 114, 100]))))) (mSeq (mAsg (mIf (mT (mBin (opEq) (mVar 3) (mC (.int 0)))) (mBin (opEq) (mVar 4) (mC (.str [91]))) (mBin (opInA false) (mVar 4) (mVar 1))) (gN 5)) (mSeq (mIfS (mNot (mT (mVar 5))) (mRet (mVar 3)) mNx) (mAsg (mIf (mT (mBin (opEq) (mVar 3) (mC (.int 0)))) (mLst (mCons (mC (.str [119, 111, 114, 100])) mNil)) (mBin opAdd (mSlice (mVar 2) mNoP (mPart (mNeg (mC (.int 1))))) (mLst (mCons (mBin opIxA (mVar 1) (mVar 4)) mNil)))) (gN 2)))) (mIfS (mOr (mT (mBin (opEq) (mVar 4) (mC (.str [41])))) (mT (mBin (opEq) (mVar 4) (mC (.str [93]))))) (mSeq (mIfS (mT (mBin (opNe) (mBin opIxA (mVar 2) (mNeg (mC (.int 1)))) (mIf (mT (mBin (opEq) (mVar 4) (mC (.str [41])))) (mC .non) (mC (.int 0))))) (mRet (mVar 3)) mNx) (mEx (mMetB isLstU fPop (mVar 2) mNil))) (mSeq (mIfS (mOr (mT (mBin (opEq) (mBin opIxA (mVar 2) (mNeg (mC (.int 1)))) (mC (.int 0)))) (mAnd (mT (mBin (opInA true) (mVar 4) (mTup (mCons (mC (.str [40])) (mCons (mC (.str [91])) mNil))))) (mNot (mT (mCall (M 37) (mCons (mVar 4) mNil)))))) (mRet (mVar 3)) mNx) (mSeq (mAsg (mIf (mT (mBin (opIsN) (mBin opIxA (mVar 2) (mNeg (mC (.int 1)))) (mC .non))) (mC .non) (mBin opSub (mBin opIxA (mVar 2) (mNeg (mC (.int 1)))) (mC (.int 1)))) (gSubU (mVar 2) (mNeg (mC (.int 1))))) (mAsg (mBin opAdd (mVar 2) (mIf (mT (mBin (opEq) (mVar 4) (mC (.str [40])))) (mLst (mCons (mC .non) mNil)) (mIf (mT (mBin (opEq) (mVar 4) (mC (.str [91])))) (mLst (mCons (mC (.str [119, 111, 114, 100])) mNil)) (mLst mNil)))) (gN 2))))))) fu) (mRet (mIf (mT (mBin (opNe) (mVar 2) (mLst mNil))) (mCallB fLen (mCons (mVar 0) mNil)) (mC .non)))))
def b__law_words (M : Nat → FM) : SM := (mSeq (mAsg (mCall (M 34) (mCons (mVar 0) (mCons (mIf (mT (mBin (opGt) (mVar 1) (mC (.int 0)))) (mC (.int 6)) (mC (.int 3))) mNil))) (gN 2)) (mSeq (mIfS (mT (mBin (opLt) (mVar 2) (mC (.int 3)))) (mRet (mLst (mCons (mCall (M 35) (mCons (mVar 0) (mCons (mLst (mCons (mC (.str [45])) (mCons (mC (.str [97])) (mCons (mC (.str [116, 46, 48])) (mCons (mC (.str [48])) (mCons (mC (.str [49, 50])) (mCons (mC (.str [45, 53])) mNil))))))) mNil))) mNil))) mNx) (mSeq (mAsg (mLc (mRng1 (mCons (mCall (M 34) (mCons (mVar 0) (mCons (mC (.int 4)) mNil))) mNil)) [4] (.one 4) mYes (mCall (M 39) (mCons (mVar 0) (mCons (mBin opSub (mVar 1) (mC (.int 1))) mNil))) fu) (gN 3)) (mRet (mIf (mT (mBin (opEq) (mVar 2) (mC (.int 5)))) (mCall (M 40) (mCons (mVar 0) (mCons (mBin opSub (mVar 1) (mC (.int 1))) mNil))) (mBin opAdd (mBin opAdd (mLst (mCons (mC (.str [40])) mNil)) (mCallB fSum (mCons (mVar 3) (mCons (mLst mNil) mNil)))) (mLst (mCons (mC (.str [41])) mNil))))))))
def b__law_paper_words (M : Nat → FM) : SM := (mSeq (mAsg (mCall (M 36) mNil) (gN 2)) (mSeq (mAsg (mCall (M 35) (mCons (mVar 0) (mCons (mCallB fSorted (mCons (mCallB fList (mCons (mVar 2) mNil)) mNil)) mNil))) (gN 3)) (mRet (mBin opAdd (mBin opAdd (mLst (mCons (mC (.str [91])) (mCons (mVar 3) mNil))) (mCallB fSum (mCons (mLc (mRng1 (mCons (mBin opIxA (mVar 2) (mVar 3)) mNil)) [4] (.one 4) mYes (mCall (M 39) (mCons (mVar 0) (mCons (mVar 1) mNil))) fu) (mCons (mLst mNil) mNil)))) (mLst (mCons (mC (.str [93])) mNil))))))
def b__law_deep_right (M : Nat → FM) : SM := (mSeq (mPar 1 2 (mCons (mCall (M 35) (mCons (mVar 0) (mCons (mLst (mCons (mC (.int 17)) (mCons (mC (.int 18)) (mCons (mC (.int 19)) (mCons (mC (.int 20)) (mCons (mC (.int 21)) (mCons (mC (.int 40)) (mCons (mC (.int 1200)) mNil)))))))) mNil))) (mCons (mCall (M 35) (mCons (mVar 0) (mCons (mLst (mCons (mC (.int 18)) (mCons (mC (.int 19)) (mCons (mC (.int 20)) (mCons (mC (.int 21)) (mCons (mC (.int 30)) mNil)))))) mNil))) mNil))) (mSeq (mAsg (mBin opAdd (mBin opAdd (mBin opAdd (mLst (mCons (mC (.str [91])) (mCons (mC (.str [116, 111, 116, 97, 108])) mNil))) (mBin opMul (mLst (mCons (mC (.str [40])) mNil)) (mVar 1))) (mBin opMul (mLst (mCons (mC (.str [41])) mNil)) (mVar 1))) (mLst (mCons (mC (.str [93])) mNil))) (gN 3)) (mSeq (mAsg (mBin opAdd (mBin opAdd (mBin opMul (mLst (mCons (mC (.str [91])) (mCons (mC (.str [97, 108, 105, 107, 101])) mNil))) (mVar 2)) (mLst (mCons (mC (.str [45])) mNil))) (mBin opMul (mLst (mCons (mC (.str [93])) mNil)) (mVar 2))) (gN 4)) (mSeq (mForE (mSeqI (mTup (mCons (mTup (mCons (mVar 3) (mCons (mBin opAdd (mVar 1) (mC (.int 1))) (mCons (mC (.int 21)) mNil)))) (mCons (mTup (mCons (mVar 4) (mCons (mVar 2) (mCons (mC (.int 40)) mNil)))) mNil)))) (gT 3 (gCons (gN 5) (gCons (gN 6) (gCons (gN 7) gNil)))) (mSeq (mAsg (mMetB isStrU fJoin (mC (.str [32])) (mCons (mVar 5) mNil)) (gN 8)) (mSeq (mAsg (mSaid (saidBy saidT) (mCall (M 32) (mCons (mVar 8) mNil))) (gN 9)) (mIfS (mOr (mT (mBin (opNe) (mVar 9) (mIf (mT (mBin (opLe) (mVar 6) (mC (.int 20)))) (mC .non) (mTup (mCons (mC (.str [116, 101, 120, 116])) (mCons (mC (.int 0)) (mCons (mVar 7) mNil))))))) (mAnd (mT (mBin (opIsN) (mVar 9) (mC .non))) (mT (mBin (opNe) (mCall (M 19) (mCons (mCall (M 32) (mCons (mVar 8) mNil)) mNil)) (mVar 8))))) (mRet (mC (.bl false))) mNx))) fu) (mRet (mC (.bl true)))))))
def b_law (M : Nat → FM) : SM := (mSeq (mAsg (mCall (M 33) (mCons (mVar 0) mNil)) (gN 1)) (mSeq (mIfS (mNot (mT (mCall (M 41) (mCons (mVar 1) mNil)))) (mRet (mC (.bl false))) mNx) (mSeq (mForE (mRng1 (mCons (mC (.int 20)) mNil)) (gN 2) (mSeq (mAsg (mCall (M 40) (mCons (mVar 1) (mCons (mC (.int 3)) mNil))) (gN 3)) (mSeq (mPar 4 5 (mCons (mCall (M 34) (mCons (mVar 1) (mCons (mCallB fLen (mCons (mVar 3) mNil)) mNil))) (mCons (mCall (M 34) (mCons (mVar 1) (mCons (mC (.int 6)) mNil))) mNil))) (mSeq (mAsg (mCall (M 35) (mCons (mVar 1) (mCons (mLst (mCons (mC (.str [])) (mCons (mC (.str [40])) (mCons (mC (.str [41])) (mCons (mC (.str [91])) (mCons (mC (.str [93])) (mCons (mC (.str [45])) (mCons (mC (.str [45, 45, 49])) (mCons (mC (.str [45, 48])) (mCons (mC (.str [48, 49])) (mCons (mC (.str [65])) (mCons (mC (.str [97])) (mCons (mC (.str [48])) (mCons (mC (.str [102, 111, 114, 109])) (mCons (mC (.str [116, 111, 116, 97, 108])) (mCons (mC (.str [110, 111, 98, 111, 100, 121])) (mCons (mC (.str [97, 45, 98])) (mCons (mBin opMul (mC (.str [49])) (mC (.int 401))) (mCons (mBin opMul (mC (.str [57])) (mC (.int 400))) (mCons (mBin opMul (mC (.str [120])) (mC (.int 101))) (mCons (mBin opMul (mC (.str [120])) (mC (.int 100))) (mCons (mC (.str [46])) mNil)))))))))))))))))))))) mNil))) (gN 6)) (mSeq (mIfS (mT (mBin (opEq) (mVar 5) (mC (.int 1)))) (mAsg (mBin opAdd (mSlice (mVar 3) mNoP (mPart (mVar 4))) (mSlice (mVar 3) (mPart (mBin opAdd (mVar 4) (mC (.int 1)))) mNoP)) (gN 3)) (mIfS (mT (mBin (opEq) (mVar 5) (mC (.int 2)))) (mAsg (mBin opAdd (mBin opAdd (mSlice (mVar 3) mNoP (mPart (mVar 4))) (mLst (mCons (mVar 6) mNil))) (mSlice (mVar 3) (mPart (mVar 4)) mNoP)) (gN 3)) (mIfS (mT (mBin (opEq) (mVar 5) (mC (.int 3)))) (mAsg (mBin opAdd (mBin opAdd (mSlice (mVar 3) mNoP (mPart (mVar 4))) (mLst (mCons (mVar 6) mNil))) (mSlice (mVar 3) (mPart (mBin opAdd (mVar 4) (mC (.int 1)))) mNoP)) (gN 3)) (mIfS (mT (mBin (opEq) (mVar 5) (mC (.int 4)))) (mAsg (mSlice (mVar 3) mNoP (mPart (mVar 4))) (gN 3)) (mIfS (mT (mBin (opEq) (mVar 5) (mC (.int 5)))) (mAsg (mBin opAdd (mVar 3) (mLst (mCons (mVar 6) mNil))) (gN 3)) mNx))))) (mSeq (mAsg (mIf (mT (mBin (opNe) (mVar 3) (mLst mNil))) (mVar 3) (mLst (mCons (mC (.str [])) mNil))) (gN 3)) (mSeq (mAsg (mTup (mCons (mMetB isStrU fJoin (mC (.str [32])) (mCons (mVar 3) mNil)) (mCons (mCall (M 38) (mCons (mVar 3) mNil)) mNil))) (gT 2 (gCons (gN 7) (gCons (gN 8) gNil)))) (mSeq (mAsg (mSaid (saidBy saidT) (mCall (M 32) (mCons (mVar 7) mNil))) (gN 9)) (mIfS (mOr (mT (mBin (opNe) (mVar 9) (mIf (mT (mBin (opNotN) (mVar 8) (mC .non))) (mTup (mCons (mC (.str [116, 101, 120, 116])) (mCons (mC (.int 0)) (mCons (mVar 8) mNil)))) (mC .non)))) (mAnd (mT (mBin (opIsN) (mVar 8) (mC .non))) (mT (mBin (opNe) (mCall (M 19) (mCons (mCall (M 32) (mCons (mVar 7) mNil)) mNil)) (mVar 7))))) (mRet (mC (.bl false))) mNx)))))))) fu) (mRet (mC (.bl true))))))
def step (M : Nat → FM) (i : Nat) : FM := match i with
  | 0 => runF 1 1 (b_is_integer M)
  | 1 => runF 1 2 (b_kept M)
  | 2 => runF 2 2 (b_Paper_init M)
  | 3 => b_Form_init M
  | 4 => b_Alike_init M
  | 5 => b_Unlike_init M
  | 6 => b_Enough_init M
  | 7 => b_Misses_init M
  | 8 => b_Matters_init M
  | 9 => b_Mends_init M
  | 10 => b_Unmended_init M
  | 11 => b_Spares_init M
  | 12 => b_Total_init M
  | 13 => b_Untrue_init M
  | 14 => b_Passed_init M
  | 15 => b_Failed_init M
  | 16 => runF 1 2 (b_is_word M)
  | 17 => runF 1 1 (b_is_kind M)
  | 18 => runF 2 4 (b_words_of M)
  | 19 => runF 1 2 (b_paper_text M)
  | 20 => runF 2 4 (b_made_of M)
  | 21 => runF 2 2 (b_Opened_init M)
  | 22 => runF 1 1 (b_Opened_is_full M)
  | 23 => runF 1 1 (b_Opened_made M)
  | 24 => runF 1 3 (b_number_of M)
  | 25 => runF 1 2 (b_plain_of M)
  | 26 => runF 4 4 (b_Reading_init M)
  | 27 => runF 1 1 (b_Reading_stop M)
  | 28 => runF 1 1 (b_Reading_begin M)
  | 29 => runF 2 2 (b_Reading_put M)
  | 30 => runF 1 2 (b_Reading_end M)
  | 31 => runF 1 4 (b_Reading_whole M)
  | 32 => runF 1 1 (b_read_paper M)
  | 33 => runF 1 3 (b__law_well M)
  | 34 => runF 2 2 (b__law_draw M)
  | 35 => runF 2 2 (b__law_one M)
  | 36 => runF 0 0 (b__law_sizes M)
  | 37 => runF 1 3 (b__law_is_plain M)
  | 38 => runF 1 6 (b__law_fault M)
  | 39 => runF 2 5 (b__law_words M)
  | 40 => runF 2 5 (b__law_paper_words M)
  | 41 => runF 1 10 (b__law_deep_right M)
  | 42 => runF 1 10 (b_law M)
  | _ => noF
def fam : Nat → Nat → FM
  | 0, _ => noF
  | n + 1, i => step (fam n) i
/-! ### the world -/
def lq__law_deep_right : Str := "_law_deep_right.<locals>." ++ "<lambda>"
def lq_law : Str := "law.<locals>." ++ "<lambda>"
def Gw (K : PySem.W.Frag) : Wd where
  K := K
  gl := fun i => (clsN[i]?).map (He.ga K)
  nm := nmOf fldN
  T := [((He.cT K ("_law_deep_right", none)).2, lq__law_deep_right), ((He.cT K ("law", none)).2, lq_law)]
  inj := nm_inj (by decide +kernel) (by decide +kernel)
def saidA (K : PySem.W.Frag) : SaidA := ⟨He.ga K "SheetError", He.ga K "TooMany", He.ga K "BadText", He.ga K "BadCommand", He.ga K "NoName", He.ga K "Misfit", He.ga K "Nothing"⟩
structure Fx (w : World) (K : PySem.W.Frag) (mg : Str → Option Value) (base : Heap) : Prop where
  d_is_integer : ∃ fd : FuncData, FunD K "is_integer" "is_integer" (defArgs (top 1)) (defBody (top 1)) (defScope (top 1)) [] [] (He.ga K "is_integer") fd
  d_PartError_init : ∃ (cda cc : Addr) (fd : FuncData), SupF prg K mg "__init__" "PartError.__init__" (defArgs (meth 4 0)) (defBody (meth 4 0)) (defScope (meth 4 0)) ["self", "part"] ["self", "part"] (He.ma K (He.ga K "PartError") "__init__") cda cc (He.ga K "PartError") fd ∧ Binds K fd ["self", "part"] [] ∧ PySem.W.keepIn K (.ref (He.ma K (He.ga K "PartError") "__init__")) = true
  d_NoName_init : ∃ (cda cc : Addr) (fd : FuncData), SupF prg K mg "__init__" "NoName.__init__" (defArgs (meth 8 0)) (defBody (meth 8 0)) (defScope (meth 8 0)) ["self", "name"] ["self", "name"] (He.ma K (He.ga K "NoName") "__init__") cda cc (He.ga K "NoName") fd ∧ Binds K fd ["self", "name"] [] ∧ PySem.W.keepIn K (.ref (He.ma K (He.ga K "NoName") "__init__")) = true
  d_Misfit_init : ∃ (cda cc : Addr) (fd : FuncData), SupF prg K mg "__init__" "Misfit.__init__" (defArgs (meth 9 0)) (defBody (meth 9 0)) (defScope (meth 9 0)) ["self", "what"] ["self", "what"] (He.ma K (He.ga K "Misfit") "__init__") cda cc (He.ga K "Misfit") fd ∧ Binds K fd ["self", "what"] [] ∧ PySem.W.keepIn K (.ref (He.ma K (He.ga K "Misfit") "__init__")) = true
  d_BadText_init : ∃ (cda cc : Addr) (fd : FuncData), SupF prg K mg "__init__" "BadText.__init__" (defArgs (meth 10 0)) (defBody (meth 10 0)) (defScope (meth 10 0)) ["self", "line", "word"] ["self", "line", "word"] (He.ma K (He.ga K "BadText") "__init__") cda cc (He.ga K "BadText") fd ∧ Binds K fd ["self", "line", "word"] [] ∧ PySem.W.keepIn K (.ref (He.ma K (He.ga K "BadText") "__init__")) = true
  d_BadCommand_init : ∃ (cda cc : Addr) (fd : FuncData), SupF prg K mg "__init__" "BadCommand.__init__" (defArgs (meth 11 0)) (defBody (meth 11 0)) (defScope (meth 11 0)) ["self", "word"] ["self", "word"] (He.ma K (He.ga K "BadCommand") "__init__") cda cc (He.ga K "BadCommand") fd ∧ Binds K fd ["self", "word"] [] ∧ PySem.W.keepIn K (.ref (He.ma K (He.ga K "BadCommand") "__init__")) = true
  d_TooMany_init : ∃ (cda cc : Addr) (fd : FuncData), SupF prg K mg "__init__" "TooMany.__init__" (defArgs (meth 13 0)) (defBody (meth 13 0)) (defScope (meth 13 0)) ["self", "what", "most"] ["self", "what", "most"] (He.ma K (He.ga K "TooMany") "__init__") cda cc (He.ga K "TooMany") fd ∧ Binds K fd ["self", "what", "most"] [] ∧ PySem.W.keepIn K (.ref (He.ma K (He.ga K "TooMany") "__init__")) = true
  d_kept : ∃ fd : FuncData, FunD K "kept" "kept" (defArgs (top 15)) (defBody (top 15)) (defScope (top 15)) [] [] (He.ga K "kept") fd
  d_Paper_init : ∃ fd : FuncData, FunD K "__init__" "Paper.__init__" (defArgs (meth 16 0)) (defBody (meth 16 0)) (defScope (meth 16 0)) [] [] (He.ma K (He.ga K "Paper") "__init__") fd
  d_Form_init : ∃ (cda cc : Addr) (fd : FuncData), SupF prg K mg "__init__" "Form.__init__" (defArgs (meth 19 0)) (defBody (meth 19 0)) (defScope (meth 19 0)) ["self", "needs", "terms"] ["self", "needs", "terms"] (He.ma K (He.ga K "Form") "__init__") cda cc (He.ga K "Form") fd ∧ Binds K fd ["self", "needs", "terms"] [] ∧ PySem.W.keepIn K (.ref (He.ma K (He.ga K "Form") "__init__")) = true
  d_Alike_init : ∃ (cda cc : Addr) (fd : FuncData), SupF prg K mg "__init__" "Alike.__init__" (defArgs (meth 21 0)) (defBody (meth 21 0)) (defScope (meth 21 0)) ["self", "form"] ["self", "form"] (He.ma K (He.ga K "Alike") "__init__") cda cc (He.ga K "Alike") fd ∧ Binds K fd ["self", "form"] [] ∧ PySem.W.keepIn K (.ref (He.ma K (He.ga K "Alike") "__init__")) = true
  d_Unlike_init : ∃ (cda cc : Addr) (fd : FuncData), SupF prg K mg "__init__" "Unlike.__init__" (defArgs (meth 22 0)) (defBody (meth 22 0)) (defScope (meth 22 0)) ["self", "script"] ["self", "script"] (He.ma K (He.ga K "Unlike") "__init__") cda cc (He.ga K "Unlike") fd ∧ Binds K fd ["self", "script"] [] ∧ PySem.W.keepIn K (.ref (He.ma K (He.ga K "Unlike") "__init__")) = true
  d_Enough_init : ∃ (cda cc : Addr) (fd : FuncData), SupF prg K mg "__init__" "Enough.__init__" (defArgs (meth 24 0)) (defBody (meth 24 0)) (defScope (meth 24 0)) ["self", "rows"] ["self", "rows"] (He.ma K (He.ga K "Enough") "__init__") cda cc (He.ga K "Enough") fd ∧ Binds K fd ["self", "rows"] [] ∧ PySem.W.keepIn K (.ref (He.ma K (He.ga K "Enough") "__init__")) = true
  d_Misses_init : ∃ (cda cc : Addr) (fd : FuncData), SupF prg K mg "__init__" "Misses.__init__" (defArgs (meth 25 0)) (defBody (meth 25 0)) (defScope (meth 25 0)) ["self", "source", "target", "script"] ["self", "source", "target", "script"] (He.ma K (He.ga K "Misses") "__init__") cda cc (He.ga K "Misses") fd ∧ Binds K fd ["self", "source", "target", "script"] [] ∧ PySem.W.keepIn K (.ref (He.ma K (He.ga K "Misses") "__init__")) = true
  d_Matters_init : ∃ (cda cc : Addr) (fd : FuncData), SupF prg K mg "__init__" "Matters.__init__" (defArgs (meth 27 0)) (defBody (meth 27 0)) (defScope (meth 27 0)) ["self", "rows", "idle"] ["self", "rows", "idle"] (He.ma K (He.ga K "Matters") "__init__") cda cc (He.ga K "Matters") fd ∧ Binds K fd ["self", "rows", "idle"] [] ∧ PySem.W.keepIn K (.ref (He.ma K (He.ga K "Matters") "__init__")) = true
  d_Mends_init : ∃ (cda cc : Addr) (fd : FuncData), SupF prg K mg "__init__" "Mends.__init__" (defArgs (meth 29 0)) (defBody (meth 29 0)) (defScope (meth 29 0)) ["self", "rows"] ["self", "rows"] (He.ma K (He.ga K "Mends") "__init__") cda cc (He.ga K "Mends") fd ∧ Binds K fd ["self", "rows"] [] ∧ PySem.W.keepIn K (.ref (He.ma K (He.ga K "Mends") "__init__")) = true
  d_Unmended_init : ∃ (cda cc : Addr) (fd : FuncData), SupF prg K mg "__init__" "Unmended.__init__" (defArgs (meth 30 0)) (defBody (meth 30 0)) (defScope (meth 30 0)) ["self", "script"] ["self", "script"] (He.ma K (He.ga K "Unmended") "__init__") cda cc (He.ga K "Unmended") fd ∧ Binds K fd ["self", "script"] [] ∧ PySem.W.keepIn K (.ref (He.ma K (He.ga K "Unmended") "__init__")) = true
  d_Spares_init : ∃ (cda cc : Addr) (fd : FuncData), SupF prg K mg "__init__" "Spares.__init__" (defArgs (meth 32 0)) (defBody (meth 32 0)) (defScope (meth 32 0)) ["self", "lots"] ["self", "lots"] (He.ma K (He.ga K "Spares") "__init__") cda cc (He.ga K "Spares") fd ∧ Binds K fd ["self", "lots"] [] ∧ PySem.W.keepIn K (.ref (He.ma K (He.ga K "Spares") "__init__")) = true
  d_Total_init : ∃ (cda cc : Addr) (fd : FuncData), SupF prg K mg "__init__" "Total.__init__" (defArgs (meth 34 0)) (defBody (meth 34 0)) (defScope (meth 34 0)) ["self", "form"] ["self", "form"] (He.ma K (He.ga K "Total") "__init__") cda cc (He.ga K "Total") fd ∧ Binds K fd ["self", "form"] [] ∧ PySem.W.keepIn K (.ref (He.ma K (He.ga K "Total") "__init__")) = true
  d_Untrue_init : ∃ (cda cc : Addr) (fd : FuncData), SupF prg K mg "__init__" "Untrue.__init__" (defArgs (meth 35 0)) (defBody (meth 35 0)) (defScope (meth 35 0)) ["self", "rows"] ["self", "rows"] (He.ma K (He.ga K "Untrue") "__init__") cda cc (He.ga K "Untrue") fd ∧ Binds K fd ["self", "rows"] [] ∧ PySem.W.keepIn K (.ref (He.ma K (He.ga K "Untrue") "__init__")) = true
  d_Passed_init : ∃ (cda cc : Addr) (fd : FuncData), SupF prg K mg "__init__" "Passed.__init__" (defArgs (meth 37 0)) (defBody (meth 37 0)) (defScope (meth 37 0)) ["self", "scripts"] ["self", "scripts"] (He.ma K (He.ga K "Passed") "__init__") cda cc (He.ga K "Passed") fd ∧ Binds K fd ["self", "scripts"] [] ∧ PySem.W.keepIn K (.ref (He.ma K (He.ga K "Passed") "__init__")) = true
  d_Failed_init : ∃ (cda cc : Addr) (fd : FuncData), SupF prg K mg "__init__" "Failed.__init__" (defArgs (meth 38 0)) (defBody (meth 38 0)) (defScope (meth 38 0)) ["self", "script"] ["self", "script"] (He.ma K (He.ga K "Failed") "__init__") cda cc (He.ga K "Failed") fd ∧ Binds K fd ["self", "script"] [] ∧ PySem.W.keepIn K (.ref (He.ma K (He.ga K "Failed") "__init__")) = true
  d_is_word : ∃ fd : FuncData, FunD K "is_word" "is_word" (defArgs (top 48)) (defBody (top 48)) (defScope (top 48)) [] [] (He.ga K "is_word") fd
  d_is_kind : ∃ fd : FuncData, FunD K "is_kind" "is_kind" (defArgs (top 49)) (defBody (top 49)) (defScope (top 49)) [] [] (He.ga K "is_kind") fd
  d_words_of : ∃ fd : FuncData, FunD K "words_of" "words_of" (defArgs (top 50)) (defBody (top 50)) (defScope (top 50)) [] [] (He.ga K "words_of") fd
  d_paper_text : ∃ fd : FuncData, FunD K "paper_text" "paper_text" (defArgs (top 51)) (defBody (top 51)) (defScope (top 51)) [] [] (He.ga K "paper_text") fd
  d_made_of : ∃ fd : FuncData, FunD K "made_of" "made_of" (defArgs (top 52)) (defBody (top 52)) (defScope (top 52)) [] [] (He.ga K "made_of") fd
  d_Opened_init : ∃ fd : FuncData, FunD K "__init__" "Opened.__init__" (defArgs (meth 53 0)) (defBody (meth 53 0)) (defScope (meth 53 0)) [] [] (He.ma K (He.ga K "Opened") "__init__") fd
  d_Opened_is_full : ∃ fd : FuncData, FunD K "is_full" "Opened.is_full" (defArgs (meth 53 1)) (defBody (meth 53 1)) (defScope (meth 53 1)) [] [] (He.ma K (He.ga K "Opened") "is_full") fd
  d_Opened_made : ∃ fd : FuncData, FunD K "made" "Opened.made" (defArgs (meth 53 2)) (defBody (meth 53 2)) (defScope (meth 53 2)) [] [] (He.ma K (He.ga K "Opened") "made") fd
  d_number_of : ∃ fd : FuncData, FunD K "number_of" "number_of" (defArgs (top 54)) (defBody (top 54)) (defScope (top 54)) [] [] (He.ga K "number_of") fd
  d_plain_of : ∃ fd : FuncData, FunD K "plain_of" "plain_of" (defArgs (top 55)) (defBody (top 55)) (defScope (top 55)) [] [] (He.ga K "plain_of") fd
  d_Reading_init : ∃ fd : FuncData, FunD K "__init__" "Reading.__init__" (defArgs (meth 56 0)) (defBody (meth 56 0)) (defScope (meth 56 0)) [] [] (He.ma K (He.ga K "Reading") "__init__") fd
  d_Reading_stop : ∃ fd : FuncData, FunD K "stop" "Reading.stop" (defArgs (meth 56 1)) (defBody (meth 56 1)) (defScope (meth 56 1)) [] [] (He.ma K (He.ga K "Reading") "stop") fd
  d_Reading_begin : ∃ fd : FuncData, FunD K "begin" "Reading.begin" (defArgs (meth 56 2)) (defBody (meth 56 2)) (defScope (meth 56 2)) [] [] (He.ma K (He.ga K "Reading") "begin") fd
  d_Reading_put : ∃ fd : FuncData, FunD K "put" "Reading.put" (defArgs (meth 56 3)) (defBody (meth 56 3)) (defScope (meth 56 3)) [] [] (He.ma K (He.ga K "Reading") "put") fd
  d_Reading_end : ∃ fd : FuncData, FunD K "end" "Reading.end" (defArgs (meth 56 4)) (defBody (meth 56 4)) (defScope (meth 56 4)) [] [] (He.ma K (He.ga K "Reading") "end") fd
  d_Reading_whole : ∃ fd : FuncData, FunD K "whole" "Reading.whole" (defArgs (meth 56 5)) (defBody (meth 56 5)) (defScope (meth 56 5)) [] [] (He.ma K (He.ga K "Reading") "whole") fd
  d_read_paper : ∃ fd : FuncData, FunD K "read_paper" "read_paper" (defArgs (top 57)) (defBody (top 57)) (defScope (top 57)) [] [] (He.ga K "read_paper") fd
  d__law_well : ∃ fd : FuncData, FunD K "_law_well" "_law_well" (defArgs (top 59)) (defBody (top 59)) (defScope (top 59)) [] [] (He.ga K "_law_well") fd
  d__law_draw : ∃ fd : FuncData, FunD K "_law_draw" "_law_draw" (defArgs (top 60)) (defBody (top 60)) (defScope (top 60)) [] [] (He.ga K "_law_draw") fd
  d__law_one : ∃ fd : FuncData, FunD K "_law_one" "_law_one" (defArgs (top 61)) (defBody (top 61)) (defScope (top 61)) [] [] (He.ga K "_law_one") fd
  d__law_said : ∃ fd : FuncData, FunD K "_law_said" "_law_said" (defArgs (top 62)) (defBody (top 62)) (defScope (top 62)) [] [] (He.ga K "_law_said") fd
  d__law_sizes : ∃ fd : FuncData, FunD K "_law_sizes" "_law_sizes" (defArgs (top 63)) (defBody (top 63)) (defScope (top 63)) [] [] (He.ga K "_law_sizes") fd
  d__law_is_plain : ∃ fd : FuncData, FunD K "_law_is_plain" "_law_is_plain" (defArgs (top 64)) (defBody (top 64)) (defScope (top 64)) [] [] (He.ga K "_law_is_plain") fd
  d__law_fault : ∃ fd : FuncData, FunD K "_law_fault" "_law_fault" (defArgs (top 65)) (defBody (top 65)) (defScope (top 65)) [] [] (He.ga K "_law_fault") fd
  d__law_words : ∃ fd : FuncData, FunD K "_law_words" "_law_words" (defArgs (top 66)) (defBody (top 66)) (defScope (top 66)) [] [] (He.ga K "_law_words") fd
  d__law_paper_words : ∃ fd : FuncData, FunD K "_law_paper_words" "_law_paper_words" (defArgs (top 67)) (defBody (top 67)) (defScope (top 67)) [] [] (He.ga K "_law_paper_words") fd
  d__law_deep_right : ∃ fd : FuncData, FunD K "_law_deep_right" "_law_deep_right" (defArgs (top 68)) (defBody (top 68)) (defScope (top 68)) [] [] (He.ga K "_law_deep_right") fd ∧ fd.code = .ref (He.cT K ("_law_deep_right", none)).1
  d_law : ∃ fd : FuncData, FunD K "law" "law" (defArgs (top 69)) (defBody (top 69)) (defScope (top 69)) [] [] (He.ga K "law") fd ∧ fd.code = .ref (He.cT K ("law", none)).1
  m_law : mg "law" = some (.ref (He.ga K "law"))
  n_int : mg "int" = none
  isi : IsiF (Gw K) isiC isiD isiS
  n_isinstance : mg "isinstance" = none
  n_bool : mg "bool" = none
  n_list : mg "list" = none
  n_tuple : mg "tuple" = none
  m_kept : mg "kept" = some (.ref (He.ga K "kept"))
  nms : Nms (Gw K) nms
  n_type : mg "type" = none
  na_Failed_word : NoAttr K (He.ga K "Failed") "word"
  na_Passed_word : NoAttr K (He.ga K "Passed") "word"
  na_Untrue_word : NoAttr K (He.ga K "Untrue") "word"
  na_Total_word : NoAttr K (He.ga K "Total") "word"
  na_Spares_word : NoAttr K (He.ga K "Spares") "word"
  na_Unmended_word : NoAttr K (He.ga K "Unmended") "word"
  na_Mends_word : NoAttr K (He.ga K "Mends") "word"
  na_Matters_word : NoAttr K (He.ga K "Matters") "word"
  na_Misses_word : NoAttr K (He.ga K "Misses") "word"
  na_Enough_word : NoAttr K (He.ga K "Enough") "word"
  na_Unlike_word : NoAttr K (He.ga K "Unlike") "word"
  na_Alike_word : NoAttr K (He.ga K "Alike") "word"
  na_Form_word : NoAttr K (He.ga K "Form") "word"
  na_Failed_parts : NoAttr K (He.ga K "Failed") "parts"
  na_Passed_parts : NoAttr K (He.ga K "Passed") "parts"
  na_Untrue_parts : NoAttr K (He.ga K "Untrue") "parts"
  na_Total_parts : NoAttr K (He.ga K "Total") "parts"
  na_Spares_parts : NoAttr K (He.ga K "Spares") "parts"
  na_Unmended_parts : NoAttr K (He.ga K "Unmended") "parts"
  na_Mends_parts : NoAttr K (He.ga K "Mends") "parts"
  na_Matters_parts : NoAttr K (He.ga K "Matters") "parts"
  na_Misses_parts : NoAttr K (He.ga K "Misses") "parts"
  na_Enough_parts : NoAttr K (He.ga K "Enough") "parts"
  na_Unlike_parts : NoAttr K (He.ga K "Unlike") "parts"
  na_Alike_parts : NoAttr K (He.ga K "Alike") "parts"
  na_Form_parts : NoAttr K (He.ga K "Form") "parts"
  na_Form_terms : NoAttr K (He.ga K "Form") "terms"
  na_Form_needs : NoAttr K (He.ga K "Form") "needs"
  na_Alike_form : NoAttr K (He.ga K "Alike") "form"
  na_Unlike_script : NoAttr K (He.ga K "Unlike") "script"
  na_Enough_rows : NoAttr K (He.ga K "Enough") "rows"
  na_Misses_script : NoAttr K (He.ga K "Misses") "script"
  na_Misses_target : NoAttr K (He.ga K "Misses") "target"
  na_Misses_source : NoAttr K (He.ga K "Misses") "source"
  na_Matters_idle : NoAttr K (He.ga K "Matters") "idle"
  na_Matters_rows : NoAttr K (He.ga K "Matters") "rows"
  na_Mends_rows : NoAttr K (He.ga K "Mends") "rows"
  na_Unmended_script : NoAttr K (He.ga K "Unmended") "script"
  na_Spares_lots : NoAttr K (He.ga K "Spares") "lots"
  na_Total_form : NoAttr K (He.ga K "Total") "form"
  na_Untrue_rows : NoAttr K (He.ga K "Untrue") "rows"
  na_Passed_scripts : NoAttr K (He.ga K "Passed") "scripts"
  na_Failed_script : NoAttr K (He.ga K "Failed") "script"
  n_str : mg "str" = none
  n_len : mg "len" = none
  i_MOST_SIGNS : ∃ t : Tok, mg "MOST_SIGNS" = some (.int 100 t)
  s_LETTERS : ∃ t : Tok, mg "LETTERS" = some (.str "abcdefghijklmnopqrstuvwxyz" t)
  s_SIGNS : ∃ t : Tok, mg "SIGNS" = some (.str "abcdefghijklmnopqrstuvwxyz0123456789." t)
  n_all : mg "all" = none
  m_Paper : mg "Paper" = some (.ref (He.ga K "Paper"))
  k_SIZES : MDct K w (He.ga K "SIZES") l_SIZES
  m_SIZES : mg "SIZES" = some (.ref (He.ga K "SIZES"))
  s_NOTHING : ∃ t : Tok, mg "NOTHING" = some (.str "-" t)
  m_is_integer : mg "is_integer" = some (.ref (He.ga K "is_integer"))
  n_abs : mg "abs" = none
  i_MOST_DIGITS : ∃ t : Tok, mg "MOST_DIGITS" = some (.int 400 t)
  m_is_word : mg "is_word" = some (.ref (He.ga K "is_word"))
  m_words_of : mg "words_of" = some (.ref (He.ga K "words_of"))
  m_is_kind : mg "is_kind" = some (.ref (He.ga K "is_kind"))
  i_MOST_DEEP : ∃ t : Tok, mg "MOST_DEEP" = some (.int 20 t)
  ox_BadValue : OexC K (He.ga K "BadValue")
  sx_BadValue : SupX K (He.ga K "BadValue") (He.ga K "PartError")
  no_BadValue : ∀ f ∈ (["part"] : List Str), PySem.W.findIn K (.ref (He.ga K "BadValue")) f = some none
  ini_BadValue : PySem.W.findIn K (.ref (He.ga K "BadValue")) "__init__" = some (some (.ref (He.ma K (He.ga K "PartError") "__init__")))
  tyi_BadValue : PySem.W.typeIn K (.ref (He.ma K (He.ga K "PartError") "__init__")) = some (.type "function")
  m_BadValue : mg "BadValue" = some (.ref (He.ga K "BadValue"))
  m_Alike : mg "Alike" = some (.ref (He.ga K "Alike"))
  c_Alike : Cls K (He.ga K "Alike")
  mk_Alike : Mk K (He.ga K "Alike") (He.ma K (He.ga K "Alike") "__init__")
  m_Unlike : mg "Unlike" = some (.ref (He.ga K "Unlike"))
  c_Unlike : Cls K (He.ga K "Unlike")
  mk_Unlike : Mk K (He.ga K "Unlike") (He.ma K (He.ga K "Unlike") "__init__")
  m_Passed : mg "Passed" = some (.ref (He.ga K "Passed"))
  c_Passed : Cls K (He.ga K "Passed")
  mk_Passed : Mk K (He.ga K "Passed") (He.ma K (He.ga K "Passed") "__init__")
  m_Failed : mg "Failed" = some (.ref (He.ga K "Failed"))
  c_Failed : Cls K (He.ga K "Failed")
  mk_Failed : Mk K (He.ga K "Failed") (He.ma K (He.ga K "Failed") "__init__")
  m_Total : mg "Total" = some (.ref (He.ga K "Total"))
  c_Total : Cls K (He.ga K "Total")
  mk_Total : Mk K (He.ga K "Total") (He.ma K (He.ga K "Total") "__init__")
  m_Untrue : mg "Untrue" = some (.ref (He.ga K "Untrue"))
  c_Untrue : Cls K (He.ga K "Untrue")
  mk_Untrue : Mk K (He.ga K "Untrue") (He.ma K (He.ga K "Untrue") "__init__")
  m_Mends : mg "Mends" = some (.ref (He.ga K "Mends"))
  c_Mends : Cls K (He.ga K "Mends")
  mk_Mends : Mk K (He.ga K "Mends") (He.ma K (He.ga K "Mends") "__init__")
  m_Unmended : mg "Unmended" = some (.ref (He.ga K "Unmended"))
  c_Unmended : Cls K (He.ga K "Unmended")
  mk_Unmended : Mk K (He.ga K "Unmended") (He.ma K (He.ga K "Unmended") "__init__")
  m_Spares : mg "Spares" = some (.ref (He.ga K "Spares"))
  c_Spares : Cls K (He.ga K "Spares")
  mk_Spares : Mk K (He.ga K "Spares") (He.ma K (He.ga K "Spares") "__init__")
  m_Enough : mg "Enough" = some (.ref (He.ga K "Enough"))
  c_Enough : Cls K (He.ga K "Enough")
  mk_Enough : Mk K (He.ga K "Enough") (He.ma K (He.ga K "Enough") "__init__")
  m_Misses : mg "Misses" = some (.ref (He.ga K "Misses"))
  c_Misses : Cls K (He.ga K "Misses")
  mk_Misses : Mk K (He.ga K "Misses") (He.ma K (He.ga K "Misses") "__init__")
  m_Form : mg "Form" = some (.ref (He.ga K "Form"))
  c_Form : Cls K (He.ga K "Form")
  mk_Form : Mk K (He.ga K "Form") (He.ma K (He.ga K "Form") "__init__")
  m_Matters : mg "Matters" = some (.ref (He.ga K "Matters"))
  c_Matters : Cls K (He.ga K "Matters")
  mk_Matters : Mk K (He.ga K "Matters") (He.ma K (He.ga K "Matters") "__init__")
  na_Opened_word : NoAttr K (He.ga K "Opened") "word"
  na_Opened_told : NoAttr K (He.ga K "Opened") "told"
  m_made_of : mg "made_of" = some (.ref (He.ga K "made_of"))
  s_DIGITS : ∃ t : Tok, mg "DIGITS" = some (.str "0123456789" t)
  m_number_of : mg "number_of" = some (.ref (He.ga K "number_of"))
  na_Reading_words : NoAttr K (He.ga K "Reading") "words"
  na_Reading_line : NoAttr K (He.ga K "Reading") "line"
  na_Reading_at : NoAttr K (He.ga K "Reading") "at"
  na_Reading_begun : NoAttr K (He.ga K "Reading") "begun"
  ox_BadText : OexC K (He.ga K "BadText")
  sx_BadText : SupX K (He.ga K "BadText") (He.ga K "BadText")
  no_BadText : ∀ f ∈ (["line", "word"] : List Str), PySem.W.findIn K (.ref (He.ga K "BadText")) f = some none
  ini_BadText : PySem.W.findIn K (.ref (He.ga K "BadText")) "__init__" = some (some (.ref (He.ma K (He.ga K "BadText") "__init__")))
  tyi_BadText : PySem.W.typeIn K (.ref (He.ma K (He.ga K "BadText") "__init__")) = some (.type "function")
  m_BadText : mg "BadText" = some (.ref (He.ga K "BadText"))
  c_Reading : Cls K (He.ga K "Reading")
  me_Reading_stop : Meth K (He.ga K "Reading") "stop" (He.ma K (He.ga K "Reading") "stop")
  m_Opened : mg "Opened" = some (.ref (He.ga K "Opened"))
  c_Opened : Cls K (He.ga K "Opened")
  mk_Opened : Mk K (He.ga K "Opened") (He.ma K (He.ga K "Opened") "__init__")
  me_Opened_is_full : Meth K (He.ga K "Opened") "is_full" (He.ma K (He.ga K "Opened") "is_full")
  me_Opened_made : Meth K (He.ga K "Opened") "made" (He.ma K (He.ga K "Opened") "made")
  me_Reading_put : Meth K (He.ga K "Reading") "put" (He.ma K (He.ga K "Reading") "put")
  me_Reading_begin : Meth K (He.ga K "Reading") "begin" (He.ma K (He.ga K "Reading") "begin")
  me_Reading_end : Meth K (He.ga K "Reading") "end" (He.ma K (He.ga K "Reading") "end")
  m_plain_of : mg "plain_of" = some (.ref (He.ga K "plain_of"))
  m_Reading : mg "Reading" = some (.ref (He.ga K "Reading"))
  mk_Reading : Mk K (He.ga K "Reading") (He.ma K (He.ga K "Reading") "__init__")
  me_Reading_whole : Meth K (He.ga K "Reading") "whole" (He.ma K (He.ga K "Reading") "whole")
  n_enumerate : mg "enumerate" = none
  n_sum : mg "sum" = none
  m__law_draw : mg "_law_draw" = some (.ref (He.ga K "_law_draw"))
  m__law_sizes : mg "_law_sizes" = some (.ref (He.ga K "_law_sizes"))
  m__law_is_plain : mg "_law_is_plain" = some (.ref (He.ga K "_law_is_plain"))
  m__law_one : mg "_law_one" = some (.ref (He.ga K "_law_one"))
  n_range : mg "range" = none
  m__law_words : mg "_law_words" = some (.ref (He.ga K "_law_words"))
  m__law_paper_words : mg "_law_paper_words" = some (.ref (He.ga K "_law_paper_words"))
  n_sorted : mg "sorted" = none
  m_read_paper : mg "read_paper" = some (.ref (He.ga K "read_paper"))
  saidN : SaidN (defScope (top 62)) mg (saidA K)
  saidT : SaidTb K (Gw K) (saidA K) saidT
  m__law_said : mg "_law_said" = some (.ref (He.ga K "_law_said"))
  tb__law_deep_right : LamX.TabB base mg (He.cT K ("_law_deep_right", none)).1 (He.cT K ("_law_deep_right", none)).2
  tm__law_deep_right : ((He.cT K ("_law_deep_right", none)).2, lq__law_deep_right) ∈ (Gw K).T
  tu__law_deep_right : ∀ p ∈ (Gw K).T, p.1 = (He.cT K ("_law_deep_right", none)).2 → p.2 = lq__law_deep_right
  m_paper_text : mg "paper_text" = some (.ref (He.ga K "paper_text"))
  m__law_well : mg "_law_well" = some (.ref (He.ga K "_law_well"))
  m__law_deep_right : mg "_law_deep_right" = some (.ref (He.ga K "_law_deep_right"))
  m__law_fault : mg "_law_fault" = some (.ref (He.ga K "_law_fault"))
  tb_law : LamX.TabB base mg (He.cT K ("law", none)).1 (He.cT K ("law", none)).2
  tm_law : ((He.cT K ("law", none)).2, lq_law) ∈ (Gw K).T
  tu_law : ∀ p ∈ (Gw K).T, p.1 = (He.cT K ("law", none)).2 → p.2 = lq_law
  su_Form_Form : SupM K (He.ga K "Form") (He.ga K "Form") "__init__" (He.ma K (He.ga K "Paper") "__init__")
  su_Alike_Alike : SupM K (He.ga K "Alike") (He.ga K "Alike") "__init__" (He.ma K (He.ga K "Paper") "__init__")
  su_Unlike_Unlike : SupM K (He.ga K "Unlike") (He.ga K "Unlike") "__init__" (He.ma K (He.ga K "Paper") "__init__")
  su_Enough_Enough : SupM K (He.ga K "Enough") (He.ga K "Enough") "__init__" (He.ma K (He.ga K "Paper") "__init__")
  su_Misses_Misses : SupM K (He.ga K "Misses") (He.ga K "Misses") "__init__" (He.ma K (He.ga K "Paper") "__init__")
  su_Matters_Matters : SupM K (He.ga K "Matters") (He.ga K "Matters") "__init__" (He.ma K (He.ga K "Paper") "__init__")
  su_Mends_Mends : SupM K (He.ga K "Mends") (He.ga K "Mends") "__init__" (He.ma K (He.ga K "Paper") "__init__")
  su_Unmended_Unmended : SupM K (He.ga K "Unmended") (He.ga K "Unmended") "__init__" (He.ma K (He.ga K "Paper") "__init__")
  su_Spares_Spares : SupM K (He.ga K "Spares") (He.ga K "Spares") "__init__" (He.ma K (He.ga K "Paper") "__init__")
  su_Total_Total : SupM K (He.ga K "Total") (He.ga K "Total") "__init__" (He.ma K (He.ga K "Paper") "__init__")
  su_Untrue_Untrue : SupM K (He.ga K "Untrue") (He.ga K "Untrue") "__init__" (He.ma K (He.ga K "Paper") "__init__")
  su_Passed_Passed : SupM K (He.ga K "Passed") (He.ga K "Passed") "__init__" (He.ma K (He.ga K "Paper") "__init__")
  su_Failed_Failed : SupM K (He.ga K "Failed") (He.ga K "Failed") "__init__" (He.ma K (He.ga K "Paper") "__init__")
structure Ih (w : World) (K : PySem.W.Frag) (mg : Str → Option Value) (base : Heap) (n : Nat) : Prop where
  is_integer : Fn prg w K mg base (Gw K) (3 * n + 3) (He.ga K "is_integer") (fam n 0)
  kept : Fn prg w K mg base (Gw K) (3 * n + 3) (He.ga K "kept") (fam n 1)
  Paper_init : FnS prg w K mg base (Gw K) (3 * n + 3) (He.ma K (He.ga K "Paper") "__init__") (starF 1 (fam n 2))
  Form_init : Fn prg w K mg base (Gw K) (3 * n + 3) (He.ma K (He.ga K "Form") "__init__") (fam n 3)
  Alike_init : Fn prg w K mg base (Gw K) (3 * n + 3) (He.ma K (He.ga K "Alike") "__init__") (fam n 4)
  Unlike_init : Fn prg w K mg base (Gw K) (3 * n + 3) (He.ma K (He.ga K "Unlike") "__init__") (fam n 5)
  Enough_init : Fn prg w K mg base (Gw K) (3 * n + 3) (He.ma K (He.ga K "Enough") "__init__") (fam n 6)
  Misses_init : Fn prg w K mg base (Gw K) (3 * n + 3) (He.ma K (He.ga K "Misses") "__init__") (fam n 7)
  Matters_init : Fn prg w K mg base (Gw K) (3 * n + 3) (He.ma K (He.ga K "Matters") "__init__") (fam n 8)
  Mends_init : Fn prg w K mg base (Gw K) (3 * n + 3) (He.ma K (He.ga K "Mends") "__init__") (fam n 9)
  Unmended_init : Fn prg w K mg base (Gw K) (3 * n + 3) (He.ma K (He.ga K "Unmended") "__init__") (fam n 10)
  Spares_init : Fn prg w K mg base (Gw K) (3 * n + 3) (He.ma K (He.ga K "Spares") "__init__") (fam n 11)
  Total_init : Fn prg w K mg base (Gw K) (3 * n + 3) (He.ma K (He.ga K "Total") "__init__") (fam n 12)
  Untrue_init : Fn prg w K mg base (Gw K) (3 * n + 3) (He.ma K (He.ga K "Untrue") "__init__") (fam n 13)
  Passed_init : Fn prg w K mg base (Gw K) (3 * n + 3) (He.ma K (He.ga K "Passed") "__init__") (fam n 14)
  Failed_init : Fn prg w K mg base (Gw K) (3 * n + 3) (He.ma K (He.ga K "Failed") "__init__") (fam n 15)
  is_word : Fn prg w K mg base (Gw K) (3 * n + 3) (He.ga K "is_word") (fam n 16)
  is_kind : Fn prg w K mg base (Gw K) (3 * n + 3) (He.ga K "is_kind") (fam n 17)
  words_of : Fn prg w K mg base (Gw K) (3 * n + 3) (He.ga K "words_of") (fam n 18)
  paper_text : Fn prg w K mg base (Gw K) (3 * n + 3) (He.ga K "paper_text") (fam n 19)
  made_of : Fn prg w K mg base (Gw K) (3 * n + 3) (He.ga K "made_of") (fam n 20)
  Opened_init : Fn prg w K mg base (Gw K) (3 * n + 3) (He.ma K (He.ga K "Opened") "__init__") (fam n 21)
  Opened_is_full : Fn prg w K mg base (Gw K) (3 * n + 3) (He.ma K (He.ga K "Opened") "is_full") (fam n 22)
  Opened_made : Fn prg w K mg base (Gw K) (3 * n + 3) (He.ma K (He.ga K "Opened") "made") (fam n 23)
  number_of : Fn prg w K mg base (Gw K) (3 * n + 3) (He.ga K "number_of") (fam n 24)
  plain_of : Fn prg w K mg base (Gw K) (3 * n + 3) (He.ga K "plain_of") (fam n 25)
  Reading_init : Fn prg w K mg base (Gw K) (3 * n + 3) (He.ma K (He.ga K "Reading") "__init__") (fam n 26)
  Reading_stop : Fn prg w K mg base (Gw K) (3 * n + 3) (He.ma K (He.ga K "Reading") "stop") (fam n 27)
  Reading_begin : Fn prg w K mg base (Gw K) (3 * n + 3) (He.ma K (He.ga K "Reading") "begin") (fam n 28)
  Reading_put : Fn prg w K mg base (Gw K) (3 * n + 3) (He.ma K (He.ga K "Reading") "put") (fam n 29)
  Reading_end : Fn prg w K mg base (Gw K) (3 * n + 3) (He.ma K (He.ga K "Reading") "end") (fam n 30)
  Reading_whole : Fn prg w K mg base (Gw K) (3 * n + 3) (He.ma K (He.ga K "Reading") "whole") (fam n 31)
  read_paper : Fn prg w K mg base (Gw K) (3 * n + 3) (He.ga K "read_paper") (fam n 32)
  _law_well : Fn prg w K mg base (Gw K) (3 * n + 3) (He.ga K "_law_well") (fam n 33)
  _law_draw : Fn prg w K mg base (Gw K) (3 * n + 3) (He.ga K "_law_draw") (fam n 34)
  _law_one : Fn prg w K mg base (Gw K) (3 * n + 3) (He.ga K "_law_one") (fam n 35)
  _law_sizes : Fn prg w K mg base (Gw K) (3 * n + 3) (He.ga K "_law_sizes") (fam n 36)
  _law_is_plain : Fn prg w K mg base (Gw K) (3 * n + 3) (He.ga K "_law_is_plain") (fam n 37)
  _law_fault : Fn prg w K mg base (Gw K) (3 * n + 3) (He.ga K "_law_fault") (fam n 38)
  _law_words : Fn prg w K mg base (Gw K) (3 * n + 3) (He.ga K "_law_words") (fam n 39)
  _law_paper_words : Fn prg w K mg base (Gw K) (3 * n + 3) (He.ga K "_law_paper_words") (fam n 40)
  _law_deep_right : Fn prg w K mg base (Gw K) (3 * n + 3) (He.ga K "_law_deep_right") (fam n 41)
  law : Fn prg w K mg base (Gw K) (3 * n + 3) (He.ga K "law") (fam n 42)
theorem bt_abs : bootBuiltins "abs" = some (.builtin "abs") := by decide +kernel
theorem bt_all : bootBuiltins "all" = some (.builtin "all") := by decide +kernel
theorem bt_bool : bootBuiltins "bool" = some (.type "bool") := by decide +kernel
theorem bt_int : bootBuiltins "int" = some (.type "int") := by decide +kernel
theorem bt_len : bootBuiltins "len" = some (.builtin "len") := by decide +kernel
theorem bt_list : bootBuiltins "list" = some (.type "list") := by decide +kernel
theorem bt_sorted : bootBuiltins "sorted" = some (.builtin "sorted") := by decide +kernel
theorem bt_str : bootBuiltins "str" = some (.type "str") := by decide +kernel
theorem bt_sum : bootBuiltins "sum" = some (.builtin "sum") := by decide +kernel
theorem bt_tuple : bootBuiltins "tuple" = some (.type "tuple") := by decide +kernel
section
variable {w : World} {K : PySem.W.Frag} {mg : Str → Option Value} {base : Heap}
theorem sc_is_integer : FnScope ["value"] ["value"] (defScope (top 1)) := ⟨rfl, rfl, rfl, by decide +kernel, rfl, by decide +kernel, by decide +kernel⟩
theorem sc_PartError_init : SupScope ["self", "part"] ["self", "part"] (defScope (meth 4 0)) := ⟨rfl, rfl, rfl, by decide +kernel, rfl, by decide +kernel, by decide +kernel, by decide +kernel, rfl, rfl⟩
theorem sc_NoName_init : SupScope ["self", "name"] ["self", "name"] (defScope (meth 8 0)) := ⟨rfl, rfl, rfl, by decide +kernel, rfl, by decide +kernel, by decide +kernel, by decide +kernel, rfl, rfl⟩
theorem sc_Misfit_init : SupScope ["self", "what"] ["self", "what"] (defScope (meth 9 0)) := ⟨rfl, rfl, rfl, by decide +kernel, rfl, by decide +kernel, by decide +kernel, by decide +kernel, rfl, rfl⟩
theorem sc_BadText_init : SupScope ["self", "line", "word"] ["self", "line", "word"] (defScope (meth 10 0)) := ⟨rfl, rfl, rfl, by decide +kernel, rfl, by decide +kernel, by decide +kernel, by decide +kernel, rfl, rfl⟩
theorem sc_BadCommand_init : SupScope ["self", "word"] ["self", "word"] (defScope (meth 11 0)) := ⟨rfl, rfl, rfl, by decide +kernel, rfl, by decide +kernel, by decide +kernel, by decide +kernel, rfl, rfl⟩
theorem sc_TooMany_init : SupScope ["self", "what", "most"] ["self", "what", "most"] (defScope (meth 13 0)) := ⟨rfl, rfl, rfl, by decide +kernel, rfl, by decide +kernel, by decide +kernel, by decide +kernel, rfl, rfl⟩
theorem sc_kept : FnScope ["value", "one"] ["value"] (defScope (top 15)) := ⟨rfl, rfl, rfl, by decide +kernel, rfl, by decide +kernel, by decide +kernel⟩
theorem sc_Paper_init : FnScope ["self", "parts"] ["self", "parts"] (defScope (meth 16 0)) := ⟨rfl, rfl, rfl, by decide +kernel, rfl, by decide +kernel, by decide +kernel⟩
theorem sc_Form_init : SupScope ["self", "needs", "terms"] ["self", "needs", "terms"] (defScope (meth 19 0)) := ⟨rfl, rfl, rfl, by decide +kernel, rfl, by decide +kernel, by decide +kernel, by decide +kernel, rfl, rfl⟩
theorem sc_Alike_init : SupScope ["self", "form"] ["self", "form"] (defScope (meth 21 0)) := ⟨rfl, rfl, rfl, by decide +kernel, rfl, by decide +kernel, by decide +kernel, by decide +kernel, rfl, rfl⟩
theorem sc_Unlike_init : SupScope ["self", "script"] ["self", "script"] (defScope (meth 22 0)) := ⟨rfl, rfl, rfl, by decide +kernel, rfl, by decide +kernel, by decide +kernel, by decide +kernel, rfl, rfl⟩
theorem sc_Enough_init : SupScope ["self", "rows"] ["self", "rows"] (defScope (meth 24 0)) := ⟨rfl, rfl, rfl, by decide +kernel, rfl, by decide +kernel, by decide +kernel, by decide +kernel, rfl, rfl⟩
theorem sc_Misses_init : SupScope ["self", "source", "target", "script"] ["self", "source", "target", "script"] (defScope (meth 25 0)) := ⟨rfl, rfl, rfl, by decide +kernel, rfl, by decide +kernel, by decide +kernel, by decide +kernel, rfl, rfl⟩
theorem sc_Matters_init : SupScope ["self", "rows", "idle"] ["self", "rows", "idle"] (defScope (meth 27 0)) := ⟨rfl, rfl, rfl, by decide +kernel, rfl, by decide +kernel, by decide +kernel, by decide +kernel, rfl, rfl⟩
theorem sc_Mends_init : SupScope ["self", "rows"] ["self", "rows"] (defScope (meth 29 0)) := ⟨rfl, rfl, rfl, by decide +kernel, rfl, by decide +kernel, by decide +kernel, by decide +kernel, rfl, rfl⟩
theorem sc_Unmended_init : SupScope ["self", "script"] ["self", "script"] (defScope (meth 30 0)) := ⟨rfl, rfl, rfl, by decide +kernel, rfl, by decide +kernel, by decide +kernel, by decide +kernel, rfl, rfl⟩
theorem sc_Spares_init : SupScope ["self", "lots"] ["self", "lots"] (defScope (meth 32 0)) := ⟨rfl, rfl, rfl, by decide +kernel, rfl, by decide +kernel, by decide +kernel, by decide +kernel, rfl, rfl⟩
theorem sc_Total_init : SupScope ["self", "form"] ["self", "form"] (defScope (meth 34 0)) := ⟨rfl, rfl, rfl, by decide +kernel, rfl, by decide +kernel, by decide +kernel, by decide +kernel, rfl, rfl⟩
theorem sc_Untrue_init : SupScope ["self", "rows"] ["self", "rows"] (defScope (meth 35 0)) := ⟨rfl, rfl, rfl, by decide +kernel, rfl, by decide +kernel, by decide +kernel, by decide +kernel, rfl, rfl⟩
theorem sc_Passed_init : SupScope ["self", "scripts"] ["self", "scripts"] (defScope (meth 37 0)) := ⟨rfl, rfl, rfl, by decide +kernel, rfl, by decide +kernel, by decide +kernel, by decide +kernel, rfl, rfl⟩
theorem sc_Failed_init : SupScope ["self", "script"] ["self", "script"] (defScope (meth 38 0)) := ⟨rfl, rfl, rfl, by decide +kernel, rfl, by decide +kernel, by decide +kernel, by decide +kernel, rfl, rfl⟩
theorem sc_is_word : FnScope ["value", "sign"] ["value"] (defScope (top 48)) := ⟨rfl, rfl, rfl, by decide +kernel, rfl, by decide +kernel, by decide +kernel⟩
theorem sc_is_kind : FnScope ["value"] ["value"] (defScope (top 49)) := ⟨rfl, rfl, rfl, by decide +kernel, rfl, by decide +kernel, by decide +kernel⟩
theorem sc_words_of : FnScope ["value", "deep", "one", "word"] ["value", "deep"] (defScope (top 50)) := ⟨rfl, rfl, rfl, by decide +kernel, rfl, by decide +kernel, by decide +kernel⟩
theorem sc_paper_text : FnScope ["paper", "words"] ["paper"] (defScope (top 51)) := ⟨rfl, rfl, rfl, by decide +kernel, rfl, by decide +kernel, by decide +kernel⟩
theorem sc_made_of : FnScope ["word", "told", "one", "last"] ["word", "told"] (defScope (top 52)) := ⟨rfl, rfl, rfl, by decide +kernel, rfl, by decide +kernel, by decide +kernel⟩
theorem sc_Opened_init : FnScope ["self", "word"] ["self", "word"] (defScope (meth 53 0)) := ⟨rfl, rfl, rfl, by decide +kernel, rfl, by decide +kernel, by decide +kernel⟩
theorem sc_Opened_is_full : FnScope ["self"] ["self"] (defScope (meth 53 1)) := ⟨rfl, rfl, rfl, by decide +kernel, rfl, by decide +kernel, by decide +kernel⟩
theorem sc_Opened_made : FnScope ["self"] ["self"] (defScope (meth 53 2)) := ⟨rfl, rfl, rfl, by decide +kernel, rfl, by decide +kernel, by decide +kernel⟩
theorem sc_number_of : FnScope ["word", "body", "sign"] ["word"] (defScope (top 54)) := ⟨rfl, rfl, rfl, by decide +kernel, rfl, by decide +kernel, by decide +kernel⟩
theorem sc_plain_of : FnScope ["word", "number"] ["word"] (defScope (top 55)) := ⟨rfl, rfl, rfl, by decide +kernel, rfl, by decide +kernel, by decide +kernel⟩
theorem sc_Reading_init : FnScope ["self", "words", "line", "first"] ["self", "words", "line", "first"] (defScope (meth 56 0)) := ⟨rfl, rfl, rfl, by decide +kernel, rfl, by decide +kernel, by decide +kernel⟩
theorem sc_Reading_stop : FnScope ["self"] ["self"] (defScope (meth 56 1)) := ⟨rfl, rfl, rfl, by decide +kernel, rfl, by decide +kernel, by decide +kernel⟩
theorem sc_Reading_begin : FnScope ["self"] ["self"] (defScope (meth 56 2)) := ⟨rfl, rfl, rfl, by decide +kernel, rfl, by decide +kernel, by decide +kernel⟩
theorem sc_Reading_put : FnScope ["self", "value"] ["self", "value"] (defScope (meth 56 3)) := ⟨rfl, rfl, rfl, by decide +kernel, rfl, by decide +kernel, by decide +kernel⟩
theorem sc_Reading_end : FnScope ["self", "last"] ["self"] (defScope (meth 56 4)) := ⟨rfl, rfl, rfl, by decide +kernel, rfl, by decide +kernel, by decide +kernel⟩
theorem sc_Reading_whole : FnScope ["self", "word", "found", "told"] ["self"] (defScope (meth 56 5)) := ⟨rfl, rfl, rfl, by decide +kernel, rfl, by decide +kernel, by decide +kernel⟩
theorem sc_read_paper : FnScope ["text"] ["text"] (defScope (top 57)) := ⟨rfl, rfl, rfl, by decide +kernel, rfl, by decide +kernel, by decide +kernel⟩
theorem sc__law_well : FnScope ["script", "one", "at"] ["script"] (defScope (top 59)) := ⟨rfl, rfl, rfl, by decide +kernel, rfl, by decide +kernel, by decide +kernel⟩
theorem sc__law_draw : FnScope ["well", "many"] ["well", "many"] (defScope (top 60)) := ⟨rfl, rfl, rfl, by decide +kernel, rfl, by decide +kernel, by decide +kernel⟩
theorem sc__law_one : FnScope ["well", "some"] ["well", "some"] (defScope (top 61)) := ⟨rfl, rfl, rfl, by decide +kernel, rfl, by decide +kernel, by decide +kernel⟩
theorem sc__law_said : FnScope Ns ["ask"] (defScope (top 62)) := ⟨rfl, rfl, rfl, by decide +kernel, rfl, by decide +kernel, by decide +kernel⟩
theorem sc__law_sizes : FnScope [] [] (defScope (top 63)) := ⟨rfl, rfl, rfl, by decide +kernel, rfl, by decide +kernel, by decide +kernel⟩
theorem sc__law_is_plain : FnScope ["word", "body", "sign"] ["word"] (defScope (top 64)) := ⟨rfl, rfl, rfl, by decide +kernel, rfl, by decide +kernel, by decide +kernel⟩
theorem sc__law_fault : FnScope ["words", "sizes", "line", "at", "word", "is_good"] ["words"] (defScope (top 65)) := ⟨rfl, rfl, rfl, by decide +kernel, rfl, by decide +kernel, by decide +kernel⟩
theorem sc__law_words : FnScope ["well", "deep", "way", "some", "turn"] ["well", "deep"] (defScope (top 66)) := ⟨rfl, rfl, rfl, by decide +kernel, rfl, by decide +kernel, by decide +kernel⟩
theorem sc__law_paper_words : FnScope ["well", "deep", "sizes", "word", "part"] ["well", "deep"] (defScope (top 67)) := ⟨rfl, rfl, rfl, by decide +kernel, rfl, by decide +kernel, by decide +kernel⟩
theorem sc__law_deep_right : FnScope ["well", "many", "twice", "tuples", "papers", "words", "deep", "due", "text", "heard"] ["well"] (defScope (top 68)) := ⟨rfl, rfl, rfl, by decide +kernel, rfl, by decide +kernel, by decide +kernel⟩
theorem sc_law : FnScope ["script", "well", "turn", "words", "at", "way", "odd", "text", "due", "heard"] ["script"] (defScope (top 69)) := ⟨rfl, rfl, rfl, by decide +kernel, rfl, by decide +kernel, by decide +kernel⟩
theorem xi_PartError (F : Fx w K mg base) (n : Nat) : ∃ fd, FnOk prg w K mg base (L2.CX prg w) (3 * n + 3) (He.ma K (He.ga K "PartError") "__init__") fd ["self", "part"] (spE K (He.ga K "PartError") ["part"]) ∧ Binds K fd ["self", "part"] [] := by
  obtain ⟨cda, cc, fd, F1, b, _⟩ := F.d_PartError_init
  exact ⟨fd, fn_exc1 (pl := _) F1 (by decide) (by decide) (by decide) (by decide) (fun _ => rfl) (fun _ => rfl) (fun _ => rfl) (3 * n + 2), b⟩
theorem xi_NoName (F : Fx w K mg base) (n : Nat) : ∃ fd, FnOk prg w K mg base (L2.CX prg w) (3 * n + 3) (He.ma K (He.ga K "NoName") "__init__") fd ["self", "name"] (spE K (He.ga K "NoName") ["name"]) ∧ Binds K fd ["self", "name"] [] := by
  obtain ⟨cda, cc, fd, F1, b, _⟩ := F.d_NoName_init
  exact ⟨fd, fn_exc1 (pl := _) F1 (by decide) (by decide) (by decide) (by decide) (fun _ => rfl) (fun _ => rfl) (fun _ => rfl) (3 * n + 2), b⟩
theorem xi_Misfit (F : Fx w K mg base) (n : Nat) : ∃ fd, FnOk prg w K mg base (L2.CX prg w) (3 * n + 3) (He.ma K (He.ga K "Misfit") "__init__") fd ["self", "what"] (spE K (He.ga K "Misfit") ["what"]) ∧ Binds K fd ["self", "what"] [] := by
  obtain ⟨cda, cc, fd, F1, b, _⟩ := F.d_Misfit_init
  exact ⟨fd, fn_exc1 (pl := _) F1 (by decide) (by decide) (by decide) (by decide) (fun _ => rfl) (fun _ => rfl) (fun _ => rfl) (3 * n + 2), b⟩
theorem xi_BadText (F : Fx w K mg base) (n : Nat) : ∃ fd, FnOk prg w K mg base (L2.CX prg w) (3 * n + 3) (He.ma K (He.ga K "BadText") "__init__") fd ["self", "line", "word"] (spE K (He.ga K "BadText") ["line", "word"]) ∧ Binds K fd ["self", "line", "word"] [] := by
  obtain ⟨cda, cc, fd, F1, b, _⟩ := F.d_BadText_init
  exact ⟨fd, fn_exc2 (pl := _) F1 (by decide) (by decide) (by decide) (by decide) (by decide) (by decide) (fun _ => rfl) (fun _ => rfl) (fun _ => rfl) (fun _ => rfl) (3 * n + 2), b⟩
theorem xi_BadCommand (F : Fx w K mg base) (n : Nat) : ∃ fd, FnOk prg w K mg base (L2.CX prg w) (3 * n + 3) (He.ma K (He.ga K "BadCommand") "__init__") fd ["self", "word"] (spE K (He.ga K "BadCommand") ["word"]) ∧ Binds K fd ["self", "word"] [] := by
  obtain ⟨cda, cc, fd, F1, b, _⟩ := F.d_BadCommand_init
  exact ⟨fd, fn_exc1 (pl := _) F1 (by decide) (by decide) (by decide) (by decide) (fun _ => rfl) (fun _ => rfl) (fun _ => rfl) (3 * n + 2), b⟩
theorem xi_TooMany (F : Fx w K mg base) (n : Nat) : ∃ fd, FnOk prg w K mg base (L2.CX prg w) (3 * n + 3) (He.ma K (He.ga K "TooMany") "__init__") fd ["self", "what", "most"] (spE K (He.ga K "TooMany") ["what", "most"]) ∧ Binds K fd ["self", "what", "most"] [] := by
  obtain ⟨cda, cc, fd, F1, b, _⟩ := F.d_TooMany_init
  exact ⟨fd, fn_exc2 (pl := _) F1 (by decide) (by decide) (by decide) (by decide) (by decide) (by decide) (fun _ => rfl) (fun _ => rfl) (fun _ => rfl) (fun _ => rfl) (3 * n + 2), b⟩
theorem ok_is_integer {n : Nat} (F : Fx w K mg base) (ih : Ih w K mg base n) : Fn prg w K mg base (Gw K) (3 * (n + 1) + 3) (He.ga K "is_integer") (fam (n + 1) 0) := by
  obtain ⟨fd, FD⟩ := F.d_is_integer
  have nd : (["value"] : List Str).Nodup := sc_is_integer.nd
  refine ⟨⟨fd, ["value"], ?_, FD.bindsN fun _ _ _ _ _ _ us hl => match us, hl with | [_], _ => rfl⟩, FD.kp⟩
  exact fn_def (k := 3 * n + 5) (N := ["value"]) (b := b_is_integer (fam n)) FD sc_is_integer fun cdv A outer s H E hr => (sb_one (ss_ret (s_and (s_isi1 rfl F.isi rfl F.n_isinstance (s_var 0) (c_bi .int (fun _ z => nomatch z) rfl F.n_int bt_int)) (s_one (s_not (s_isi1 rfl F.isi rfl F.n_isinstance (s_var 0) (c_bi .bool (fun _ z => nomatch z) rfl F.n_bool bt_bool)))))))
theorem ok_kept {n : Nat} (F : Fx w K mg base) (ih : Ih w K mg base n) : Fn prg w K mg base (Gw K) (3 * (n + 1) + 3) (He.ga K "kept") (fam (n + 1) 1) := by
  obtain ⟨fd, FD⟩ := F.d_kept
  have nd : (["value", "one"] : List Str).Nodup := sc_kept.nd
  refine ⟨⟨fd, ["value"], ?_, FD.bindsN fun _ _ _ _ _ _ us hl => match us, hl with | [_], _ => rfl⟩, FD.kp⟩
  exact fn_def (k := 3 * n + 5) (N := ["value", "one"]) (b := b_kept (fam n)) FD sc_kept fun cdv A outer s H E hr => (sb_one (ss_ret (s_if (t_val (s_isi2 rfl F.isi rfl F.n_isinstance (s_var 0) (c_bi .list (fun _ z => nomatch z) rfl F.n_list bt_list) (c_bi .tuple (fun _ z => nomatch z) rfl F.n_tuple bt_tuple))) (s_callTy (c_tuple rfl) rfl F.n_tuple bt_tuple (a_cons (s_lc (own := [("one", 1)]) fu rfl rfl nd (by decide) (i_seq rfl (s_var 0)) (blkOk_by rfl) (fun _ _ _ _ _ => tg_one nd rfl (by first | exact .inl rfl | exact .inr rfl)) (fun _ _ _ _ _ => t_yes _) (fun _ _ _ _ _ => (s_call LamX.takes0 rfl F.m_kept ih.kept (hr.mono (le n)) (a_cons (s_var 1) a_nil)))) a_nil)) (s_var 0))))
theorem ok_Paper_init {n : Nat} (F : Fx w K mg base) (ih : Ih w K mg base n) : FnS prg w K mg base (Gw K) (3 * (n + 1) + 3) (He.ma K (He.ga K "Paper") "__init__") (starF 1 (fam (n + 1) 2)) := by
  obtain ⟨fd, FD⟩ := F.d_Paper_init
  have nd : (["self", "parts"] : List Str).Nodup := sc_Paper_init.nd
  exact fn_star (k := 3 * n + 5) (N := ["self", "parts"]) (ps := ["self"]) rfl FD sc_Paper_init (fun kV doc pm an cdv ct => StX.bind_star1 (B := fun vs => bindArgs (PySem.W.fnOf _ _ _ _ _ .none kV doc pm an cdv ct) ⟨vs, []⟩) (fun _ => rfl) (fun _ _ _ => rfl)) fun cdv A outer s H E hr => (sb_cons (ss_fld 4 rfl rfl (noA_cons rfl F.na_Form_word (noA_cons rfl F.na_Alike_word (noA_cons rfl F.na_Unlike_word (noA_cons rfl F.na_Enough_word (noA_cons rfl F.na_Misses_word (noA_cons rfl F.na_Matters_word (noA_cons rfl F.na_Mends_word (noA_cons rfl F.na_Unmended_word (noA_cons rfl F.na_Spares_word (noA_cons rfl F.na_Total_word (noA_cons rfl F.na_Untrue_word (noA_cons rfl F.na_Passed_word (noA_cons rfl F.na_Failed_word (noA_nil _)))))))))))))) (s_var 0) (s_bm0 ty_str (m_lower) PySem.F.plainAttrs_str PySem.F.slot_str_lower PySem.F.type_str_lower (s_tynm rfl F.nms rfl F.n_type (s_var 0)))) (sb_one (ss_fld 6 rfl rfl (noA_cons rfl F.na_Form_parts (noA_cons rfl F.na_Alike_parts (noA_cons rfl F.na_Unlike_parts (noA_cons rfl F.na_Enough_parts (noA_cons rfl F.na_Misses_parts (noA_cons rfl F.na_Matters_parts (noA_cons rfl F.na_Mends_parts (noA_cons rfl F.na_Unmended_parts (noA_cons rfl F.na_Spares_parts (noA_cons rfl F.na_Total_parts (noA_cons rfl F.na_Untrue_parts (noA_cons rfl F.na_Passed_parts (noA_cons rfl F.na_Failed_parts (noA_nil _)))))))))))))) (s_var 0) (s_call (takes_of rfl rfl rfl rfl) rfl F.m_kept ih.kept (hr.mono (le n)) (a_cons (s_var 1) a_nil)))))
theorem ok_Form_init {n : Nat} (F : Fx w K mg base) (ih : Ih w K mg base n) : Fn prg w K mg base (Gw K) (3 * (n + 1) + 3) (He.ma K (He.ga K "Form") "__init__") (fam (n + 1) 3) := by
  obtain ⟨cda, cc, fd, F1, b, kp⟩ := F.d_Form_init
  have nd : (["self", "needs", "terms"] : List Str).Nodup := F1.sc.nd
  refine ⟨⟨fd, ["self", "needs", "terms"], ?_, b⟩, kp⟩
  exact fn_sup (k := 3 * n + 5) (N := ["self", "needs", "terms"]) (ps := ["self", "needs", "terms"]) rfl F1 (hcs_cons rfl F.su_Form_Form (fun c hc => nomatch hc)) (by decide) (L2.FnR.mono ih.Paper_init (le n)) (fun A outer s H E => (a_cons (s_var 1) (a_cons (s_var 2) a_nil))) (fun A outer s H E hr => (sb_one (ss_asg (s_fld 6 rfl rfl (s_var 0)) (g_tup rfl rfl (gs_cons (g_fld 16 rfl rfl (noA_cons rfl F.na_Form_needs (noA_nil _)) (s_var 0)) (gs_cons (g_fld 17 rfl rfl (noA_cons rfl F.na_Form_terms (noA_nil _)) (s_var 0)) gs_nil)))))) (fun _ => rfl) (fun _ => rfl) (fun _ => rfl) (fun _ => rfl)
theorem ok_Alike_init {n : Nat} (F : Fx w K mg base) (ih : Ih w K mg base n) : Fn prg w K mg base (Gw K) (3 * (n + 1) + 3) (He.ma K (He.ga K "Alike") "__init__") (fam (n + 1) 4) := by
  obtain ⟨cda, cc, fd, F1, b, kp⟩ := F.d_Alike_init
  have nd : (["self", "form"] : List Str).Nodup := F1.sc.nd
  refine ⟨⟨fd, ["self", "form"], ?_, b⟩, kp⟩
  exact fn_sup (k := 3 * n + 5) (N := ["self", "form"]) (ps := ["self", "form"]) rfl F1 (hcs_cons rfl F.su_Alike_Alike (fun c hc => nomatch hc)) (by decide) (L2.FnR.mono ih.Paper_init (le n)) (fun A outer s H E => (a_cons (s_var 1) a_nil)) (fun A outer s H E hr => (sb_one (ss_fld 7 rfl rfl (noA_cons rfl F.na_Alike_form (noA_nil _)) (s_var 0) (s_ix rfl (units1 hr) (s_fld 6 rfl rfl (s_var 0)) s_int)))) (fun _ => rfl) (fun _ => rfl) (fun _ => rfl) (fun _ => rfl)
theorem ok_Unlike_init {n : Nat} (F : Fx w K mg base) (ih : Ih w K mg base n) : Fn prg w K mg base (Gw K) (3 * (n + 1) + 3) (He.ma K (He.ga K "Unlike") "__init__") (fam (n + 1) 5) := by
  obtain ⟨cda, cc, fd, F1, b, kp⟩ := F.d_Unlike_init
  have nd : (["self", "script"] : List Str).Nodup := F1.sc.nd
  refine ⟨⟨fd, ["self", "script"], ?_, b⟩, kp⟩
  exact fn_sup (k := 3 * n + 5) (N := ["self", "script"]) (ps := ["self", "script"]) rfl F1 (hcs_cons rfl F.su_Unlike_Unlike (fun c hc => nomatch hc)) (by decide) (L2.FnR.mono ih.Paper_init (le n)) (fun A outer s H E => (a_cons (s_var 1) a_nil)) (fun A outer s H E hr => (sb_one (ss_fld 8 rfl rfl (noA_cons rfl F.na_Unlike_script (noA_nil _)) (s_var 0) (s_ix rfl (units1 hr) (s_fld 6 rfl rfl (s_var 0)) s_int)))) (fun _ => rfl) (fun _ => rfl) (fun _ => rfl) (fun _ => rfl)
theorem ok_Enough_init {n : Nat} (F : Fx w K mg base) (ih : Ih w K mg base n) : Fn prg w K mg base (Gw K) (3 * (n + 1) + 3) (He.ma K (He.ga K "Enough") "__init__") (fam (n + 1) 6) := by
  obtain ⟨cda, cc, fd, F1, b, kp⟩ := F.d_Enough_init
  have nd : (["self", "rows"] : List Str).Nodup := F1.sc.nd
  refine ⟨⟨fd, ["self", "rows"], ?_, b⟩, kp⟩
  exact fn_sup (k := 3 * n + 5) (N := ["self", "rows"]) (ps := ["self", "rows"]) rfl F1 (hcs_cons rfl F.su_Enough_Enough (fun c hc => nomatch hc)) (by decide) (L2.FnR.mono ih.Paper_init (le n)) (fun A outer s H E => (a_cons (s_var 1) a_nil)) (fun A outer s H E hr => (sb_one (ss_fld 9 rfl rfl (noA_cons rfl F.na_Enough_rows (noA_nil _)) (s_var 0) (s_ix rfl (units1 hr) (s_fld 6 rfl rfl (s_var 0)) s_int)))) (fun _ => rfl) (fun _ => rfl) (fun _ => rfl) (fun _ => rfl)
theorem ok_Misses_init {n : Nat} (F : Fx w K mg base) (ih : Ih w K mg base n) : Fn prg w K mg base (Gw K) (3 * (n + 1) + 3) (He.ma K (He.ga K "Misses") "__init__") (fam (n + 1) 7) := by
  obtain ⟨cda, cc, fd, F1, b, kp⟩ := F.d_Misses_init
  have nd : (["self", "source", "target", "script"] : List Str).Nodup := F1.sc.nd
  refine ⟨⟨fd, ["self", "source", "target", "script"], ?_, b⟩, kp⟩
  exact fn_sup (k := 3 * n + 5) (N := ["self", "source", "target", "script"]) (ps := ["self", "source", "target", "script"]) rfl F1 (hcs_cons rfl F.su_Misses_Misses (fun c hc => nomatch hc)) (by decide) (L2.FnR.mono ih.Paper_init (le n)) (fun A outer s H E => (a_cons (s_var 1) (a_cons (s_var 2) (a_cons (s_var 3) a_nil)))) (fun A outer s H E hr => (sb_one (ss_asg (s_fld 6 rfl rfl (s_var 0)) (g_tup rfl rfl (gs_cons (g_fld 18 rfl rfl (noA_cons rfl F.na_Misses_source (noA_nil _)) (s_var 0)) (gs_cons (g_fld 19 rfl rfl (noA_cons rfl F.na_Misses_target (noA_nil _)) (s_var 0)) (gs_cons (g_fld 8 rfl rfl (noA_cons rfl F.na_Misses_script (noA_nil _)) (s_var 0)) gs_nil))))))) (fun _ => rfl) (fun _ => rfl) (fun _ => rfl) (fun _ => rfl)
theorem ok_Matters_init {n : Nat} (F : Fx w K mg base) (ih : Ih w K mg base n) : Fn prg w K mg base (Gw K) (3 * (n + 1) + 3) (He.ma K (He.ga K "Matters") "__init__") (fam (n + 1) 8) := by
  obtain ⟨cda, cc, fd, F1, b, kp⟩ := F.d_Matters_init
  have nd : (["self", "rows", "idle"] : List Str).Nodup := F1.sc.nd
  refine ⟨⟨fd, ["self", "rows", "idle"], ?_, b⟩, kp⟩
  exact fn_sup (k := 3 * n + 5) (N := ["self", "rows", "idle"]) (ps := ["self", "rows", "idle"]) rfl F1 (hcs_cons rfl F.su_Matters_Matters (fun c hc => nomatch hc)) (by decide) (L2.FnR.mono ih.Paper_init (le n)) (fun A outer s H E => (a_cons (s_var 1) (a_cons (s_var 2) a_nil))) (fun A outer s H E hr => (sb_one (ss_asg (s_fld 6 rfl rfl (s_var 0)) (g_tup rfl rfl (gs_cons (g_fld 9 rfl rfl (noA_cons rfl F.na_Matters_rows (noA_nil _)) (s_var 0)) (gs_cons (g_fld 20 rfl rfl (noA_cons rfl F.na_Matters_idle (noA_nil _)) (s_var 0)) gs_nil)))))) (fun _ => rfl) (fun _ => rfl) (fun _ => rfl) (fun _ => rfl)
theorem ok_Mends_init {n : Nat} (F : Fx w K mg base) (ih : Ih w K mg base n) : Fn prg w K mg base (Gw K) (3 * (n + 1) + 3) (He.ma K (He.ga K "Mends") "__init__") (fam (n + 1) 9) := by
  obtain ⟨cda, cc, fd, F1, b, kp⟩ := F.d_Mends_init
  have nd : (["self", "rows"] : List Str).Nodup := F1.sc.nd
  refine ⟨⟨fd, ["self", "rows"], ?_, b⟩, kp⟩
  exact fn_sup (k := 3 * n + 5) (N := ["self", "rows"]) (ps := ["self", "rows"]) rfl F1 (hcs_cons rfl F.su_Mends_Mends (fun c hc => nomatch hc)) (by decide) (L2.FnR.mono ih.Paper_init (le n)) (fun A outer s H E => (a_cons (s_var 1) a_nil)) (fun A outer s H E hr => (sb_one (ss_fld 9 rfl rfl (noA_cons rfl F.na_Mends_rows (noA_nil _)) (s_var 0) (s_ix rfl (units1 hr) (s_fld 6 rfl rfl (s_var 0)) s_int)))) (fun _ => rfl) (fun _ => rfl) (fun _ => rfl) (fun _ => rfl)
theorem ok_Unmended_init {n : Nat} (F : Fx w K mg base) (ih : Ih w K mg base n) : Fn prg w K mg base (Gw K) (3 * (n + 1) + 3) (He.ma K (He.ga K "Unmended") "__init__") (fam (n + 1) 10) := by
  obtain ⟨cda, cc, fd, F1, b, kp⟩ := F.d_Unmended_init
  have nd : (["self", "script"] : List Str).Nodup := F1.sc.nd
  refine ⟨⟨fd, ["self", "script"], ?_, b⟩, kp⟩
  exact fn_sup (k := 3 * n + 5) (N := ["self", "script"]) (ps := ["self", "script"]) rfl F1 (hcs_cons rfl F.su_Unmended_Unmended (fun c hc => nomatch hc)) (by decide) (L2.FnR.mono ih.Paper_init (le n)) (fun A outer s H E => (a_cons (s_var 1) a_nil)) (fun A outer s H E hr => (sb_one (ss_fld 8 rfl rfl (noA_cons rfl F.na_Unmended_script (noA_nil _)) (s_var 0) (s_ix rfl (units1 hr) (s_fld 6 rfl rfl (s_var 0)) s_int)))) (fun _ => rfl) (fun _ => rfl) (fun _ => rfl) (fun _ => rfl)
theorem ok_Spares_init {n : Nat} (F : Fx w K mg base) (ih : Ih w K mg base n) : Fn prg w K mg base (Gw K) (3 * (n + 1) + 3) (He.ma K (He.ga K "Spares") "__init__") (fam (n + 1) 11) := by
  obtain ⟨cda, cc, fd, F1, b, kp⟩ := F.d_Spares_init
  have nd : (["self", "lots"] : List Str).Nodup := F1.sc.nd
  refine ⟨⟨fd, ["self", "lots"], ?_, b⟩, kp⟩
  exact fn_sup (k := 3 * n + 5) (N := ["self", "lots"]) (ps := ["self", "lots"]) rfl F1 (hcs_cons rfl F.su_Spares_Spares (fun c hc => nomatch hc)) (by decide) (L2.FnR.mono ih.Paper_init (le n)) (fun A outer s H E => (a_cons (s_var 1) a_nil)) (fun A outer s H E hr => (sb_one (ss_fld 10 rfl rfl (noA_cons rfl F.na_Spares_lots (noA_nil _)) (s_var 0) (s_ix rfl (units1 hr) (s_fld 6 rfl rfl (s_var 0)) s_int)))) (fun _ => rfl) (fun _ => rfl) (fun _ => rfl) (fun _ => rfl)
theorem ok_Total_init {n : Nat} (F : Fx w K mg base) (ih : Ih w K mg base n) : Fn prg w K mg base (Gw K) (3 * (n + 1) + 3) (He.ma K (He.ga K "Total") "__init__") (fam (n + 1) 12) := by
  obtain ⟨cda, cc, fd, F1, b, kp⟩ := F.d_Total_init
  have nd : (["self", "form"] : List Str).Nodup := F1.sc.nd
  refine ⟨⟨fd, ["self", "form"], ?_, b⟩, kp⟩
  exact fn_sup (k := 3 * n + 5) (N := ["self", "form"]) (ps := ["self", "form"]) rfl F1 (hcs_cons rfl F.su_Total_Total (fun c hc => nomatch hc)) (by decide) (L2.FnR.mono ih.Paper_init (le n)) (fun A outer s H E => (a_cons (s_var 1) a_nil)) (fun A outer s H E hr => (sb_one (ss_fld 7 rfl rfl (noA_cons rfl F.na_Total_form (noA_nil _)) (s_var 0) (s_ix rfl (units1 hr) (s_fld 6 rfl rfl (s_var 0)) s_int)))) (fun _ => rfl) (fun _ => rfl) (fun _ => rfl) (fun _ => rfl)
theorem ok_Untrue_init {n : Nat} (F : Fx w K mg base) (ih : Ih w K mg base n) : Fn prg w K mg base (Gw K) (3 * (n + 1) + 3) (He.ma K (He.ga K "Untrue") "__init__") (fam (n + 1) 13) := by
  obtain ⟨cda, cc, fd, F1, b, kp⟩ := F.d_Untrue_init
  have nd : (["self", "rows"] : List Str).Nodup := F1.sc.nd
  refine ⟨⟨fd, ["self", "rows"], ?_, b⟩, kp⟩
  exact fn_sup (k := 3 * n + 5) (N := ["self", "rows"]) (ps := ["self", "rows"]) rfl F1 (hcs_cons rfl F.su_Untrue_Untrue (fun c hc => nomatch hc)) (by decide) (L2.FnR.mono ih.Paper_init (le n)) (fun A outer s H E => (a_cons (s_var 1) a_nil)) (fun A outer s H E hr => (sb_one (ss_fld 9 rfl rfl (noA_cons rfl F.na_Untrue_rows (noA_nil _)) (s_var 0) (s_ix rfl (units1 hr) (s_fld 6 rfl rfl (s_var 0)) s_int)))) (fun _ => rfl) (fun _ => rfl) (fun _ => rfl) (fun _ => rfl)
theorem ok_Passed_init {n : Nat} (F : Fx w K mg base) (ih : Ih w K mg base n) : Fn prg w K mg base (Gw K) (3 * (n + 1) + 3) (He.ma K (He.ga K "Passed") "__init__") (fam (n + 1) 14) := by
  obtain ⟨cda, cc, fd, F1, b, kp⟩ := F.d_Passed_init
  have nd : (["self", "scripts"] : List Str).Nodup := F1.sc.nd
  refine ⟨⟨fd, ["self", "scripts"], ?_, b⟩, kp⟩
  exact fn_sup (k := 3 * n + 5) (N := ["self", "scripts"]) (ps := ["self", "scripts"]) rfl F1 (hcs_cons rfl F.su_Passed_Passed (fun c hc => nomatch hc)) (by decide) (L2.FnR.mono ih.Paper_init (le n)) (fun A outer s H E => (a_cons (s_var 1) a_nil)) (fun A outer s H E hr => (sb_one (ss_fld 11 rfl rfl (noA_cons rfl F.na_Passed_scripts (noA_nil _)) (s_var 0) (s_ix rfl (units1 hr) (s_fld 6 rfl rfl (s_var 0)) s_int)))) (fun _ => rfl) (fun _ => rfl) (fun _ => rfl) (fun _ => rfl)
theorem ok_Failed_init {n : Nat} (F : Fx w K mg base) (ih : Ih w K mg base n) : Fn prg w K mg base (Gw K) (3 * (n + 1) + 3) (He.ma K (He.ga K "Failed") "__init__") (fam (n + 1) 15) := by
  obtain ⟨cda, cc, fd, F1, b, kp⟩ := F.d_Failed_init
  have nd : (["self", "script"] : List Str).Nodup := F1.sc.nd
  refine ⟨⟨fd, ["self", "script"], ?_, b⟩, kp⟩
  exact fn_sup (k := 3 * n + 5) (N := ["self", "script"]) (ps := ["self", "script"]) rfl F1 (hcs_cons rfl F.su_Failed_Failed (fun c hc => nomatch hc)) (by decide) (L2.FnR.mono ih.Paper_init (le n)) (fun A outer s H E => (a_cons (s_var 1) a_nil)) (fun A outer s H E hr => (sb_one (ss_fld 8 rfl rfl (noA_cons rfl F.na_Failed_script (noA_nil _)) (s_var 0) (s_ix rfl (units1 hr) (s_fld 6 rfl rfl (s_var 0)) s_int)))) (fun _ => rfl) (fun _ => rfl) (fun _ => rfl) (fun _ => rfl)
theorem ok_is_word {n : Nat} (F : Fx w K mg base) (ih : Ih w K mg base n) : Fn prg w K mg base (Gw K) (3 * (n + 1) + 3) (He.ga K "is_word") (fam (n + 1) 16) := by
  obtain ⟨fd, FD⟩ := F.d_is_word
  have nd : (["value", "sign"] : List Str).Nodup := sc_is_word.nd
  refine ⟨⟨fd, ["value"], ?_, FD.bindsN fun _ _ _ _ _ _ us hl => match us, hl with | [_], _ => rfl⟩, FD.kp⟩
  exact fn_def (k := 3 * n + 5) (N := ["value", "sign"]) (b := b_is_word (fam n)) FD sc_is_word fun cdv A outer s H E hr => (sb_cons (ss_if (L2.PW.pt (w_or (t_not (t_val (s_isi1 rfl F.isi rfl F.n_isinstance (s_var 0) (c_bi .str (fun _ z => nomatch z) rfl F.n_str bt_str)))) (w_or (t_cmp (o_eq rfl hr.units) (s_var 0) (s_str rfl (okS_by rfl)) rfl) (w_or1 (t_cmp (o_gt) (s_callB (c_len rfl) rfl F.n_len bt_len (a_cons (s_var 0) a_nil)) (s_gint rfl F.i_MOST_SIGNS.choose_spec) rfl))))) (sb_one (ss_ret s_bl)) sb_nil) (sb_one (ss_ret (s_and (s_cmp (o_inA rfl (units1 hr)) (s_ix rfl (units1 hr) (s_var 0) s_int) (s_gstr rfl (okS_by rfl) rfl F.s_LETTERS.choose_spec) rfl) (s_one (s_callB (c_all rfl) rfl F.n_all bt_all (a_cons (s_lc (own := [("sign", 1)]) fu rfl rfl nd (by decide) (i_seq rfl (s_var 0)) (blkOk_by rfl) (fun _ _ _ _ _ => tg_one nd rfl (by first | exact .inl rfl | exact .inr rfl)) (fun _ _ _ _ _ => t_yes _) (fun _ _ _ _ _ => (s_cmp (o_inA rfl (units1 hr)) (s_var 1) (s_gstr rfl (okS_by rfl) rfl F.s_SIGNS.choose_spec) rfl))) a_nil)))))))
theorem ok_is_kind {n : Nat} (F : Fx w K mg base) (ih : Ih w K mg base n) : Fn prg w K mg base (Gw K) (3 * (n + 1) + 3) (He.ga K "is_kind") (fam (n + 1) 17) := by
  obtain ⟨fd, FD⟩ := F.d_is_kind
  have nd : (["value"] : List Str).Nodup := sc_is_kind.nd
  refine ⟨⟨fd, ["value"], ?_, FD.bindsN fun _ _ _ _ _ _ us hl => match us, hl with | [_], _ => rfl⟩, FD.kp⟩
  exact fn_def (k := 3 * n + 5) (N := ["value"]) (b := b_is_kind (fam n)) FD sc_is_kind fun cdv A outer s H E hr => (sb_one (ss_ret (s_and (s_isi1 rfl F.isi rfl F.n_isinstance (s_var 0) (c_own (by decide) rfl rfl F.m_Paper)) (s_one (s_inK F.k_SIZES (s_fld 4 rfl rfl (s_var 0)) rfl F.m_SIZES)))))
theorem ok_words_of {n : Nat} (F : Fx w K mg base) (ih : Ih w K mg base n) : Fn prg w K mg base (Gw K) (3 * (n + 1) + 3) (He.ga K "words_of") (fam (n + 1) 18) := by
  obtain ⟨fd, FD⟩ := F.d_words_of
  have nd : (["value", "deep", "one", "word"] : List Str).Nodup := sc_words_of.nd
  refine ⟨⟨fd, ["value", "deep"], ?_, FD.bindsN fun _ _ _ _ _ _ us hl => match us, hl with | [_, _], _ => rfl⟩, FD.kp⟩
  exact fn_def (k := 3 * n + 5) (N := ["value", "deep", "one", "word"]) (b := b_words_of (fam n)) FD sc_words_of fun cdv A outer s H E hr => (sb_cons (ss_if (t_cmp (o_isN) (s_var 0) s_non rfl) (sb_one (ss_ret (s_lst (a_cons (s_gstr rfl (okS_by rfl) rfl F.s_NOTHING.choose_spec) a_nil)))) sb_nil) (sb_cons (ss_if (t_val (s_call (takes_of rfl rfl rfl rfl) rfl F.m_is_integer ih.is_integer (hr.mono (le n)) (a_cons (s_var 0) a_nil))) (sb_one (ss_ret (s_if (t_cmp (o_le) (s_callB (c_len rfl) rfl F.n_len bt_len (a_cons (s_callTy (c_str) rfl F.n_str bt_str (a_cons (s_callB (c_abs) rfl F.n_abs bt_abs (a_cons (s_var 0) a_nil)) a_nil)) a_nil)) (s_gint rfl F.i_MOST_DIGITS.choose_spec) rfl) (s_lst (a_cons (s_callTy (c_str) rfl F.n_str bt_str (a_cons (s_var 0) a_nil)) a_nil)) (s_lst (a_cons s_non a_nil))))) sb_nil) (sb_cons (ss_if (t_val (s_isi1 rfl F.isi rfl F.n_isinstance (s_var 0) (c_bi .str (fun _ z => nomatch z) rfl F.n_str bt_str))) (sb_one (ss_ret (s_lst (a_cons (s_if (t_val (s_call (takes_of rfl rfl rfl rfl) rfl F.m_is_word ih.is_word (hr.mono (le n)) (a_cons (s_var 0) a_nil))) (s_var 0) s_non) a_nil)))) sb_nil) (sb_cons (ss_if (t_cmp (o_eq rfl hr.units) (s_var 1) s_int rfl) (sb_one (ss_ret (s_lst (a_cons s_non a_nil)))) sb_nil) (sb_cons (ss_if (t_val (s_isi1 rfl F.isi rfl F.n_isinstance (s_var 0) (c_bi .tuple (fun _ z => nomatch z) rfl F.n_tuple bt_tuple))) (sb_one (ss_ret (s_lst (a_cons (s_str rfl (okS_by rfl)) (a_star rfl (s_lc2 (own := [("one", 2), ("word", 3)]) (vs1 := [3]) fu fu rfl rfl nd (by decide) (by decide) (by decide) (i_seq rfl (s_var 0)) (blkOk_by rfl) (fun _ _ _ _ _ => tg_one nd rfl (by first | exact .inl rfl | exact .inr rfl)) (fun _ _ _ _ _ => t_yes _) (fun _ _ _ _ _ => (i_seq rfl (s_call LamX.takes0 rfl F.m_words_of ih.words_of (hr.mono (le n)) (a_cons (s_var 2) (a_cons (s_bin (o_sub) (s_var 1) s_int) a_nil))))) (fun _ _ _ _ _ => tg_one nd rfl (by first | exact .inl rfl | exact .inr rfl)) (fun _ _ _ _ _ => t_yes _) (fun _ _ _ _ _ => (s_var 3))) (a_cons (s_str rfl (okS_by rfl)) a_nil)))))) sb_nil) (sb_cons (ss_if (t_val (s_call (takes_of rfl rfl rfl rfl) rfl F.m_is_kind ih.is_kind (hr.mono (le n)) (a_cons (s_var 0) a_nil))) (sb_one (ss_ret (s_lst (a_cons (s_str rfl (okS_by rfl)) (a_cons (s_fld 4 rfl rfl (s_var 0)) (a_star rfl (s_lc2 (own := [("one", 2), ("word", 3)]) (vs1 := [3]) fu fu rfl rfl nd (by decide) (by decide) (by decide) (i_seq rfl (s_fld 6 rfl rfl (s_var 0))) (blkOk_by rfl) (fun _ _ _ _ _ => tg_one nd rfl (by first | exact .inl rfl | exact .inr rfl)) (fun _ _ _ _ _ => t_yes _) (fun _ _ _ _ _ => (i_seq rfl (s_call LamX.takes0 rfl F.m_words_of ih.words_of (hr.mono (le n)) (a_cons (s_var 2) (a_cons (s_bin (o_sub) (s_var 1) s_int) a_nil))))) (fun _ _ _ _ _ => tg_one nd rfl (by first | exact .inl rfl | exact .inr rfl)) (fun _ _ _ _ _ => t_yes _) (fun _ _ _ _ _ => (s_var 3))) (a_cons (s_str rfl (okS_by rfl)) a_nil))))))) sb_nil) (sb_one (ss_ret (s_lst (a_cons s_non a_nil))))))))))
theorem ok_paper_text {n : Nat} (F : Fx w K mg base) (ih : Ih w K mg base n) : Fn prg w K mg base (Gw K) (3 * (n + 1) + 3) (He.ga K "paper_text") (fam (n + 1) 19) := by
  obtain ⟨fd, FD⟩ := F.d_paper_text
  have nd : (["paper", "words"] : List Str).Nodup := sc_paper_text.nd
  refine ⟨⟨fd, ["paper"], ?_, FD.bindsN fun _ _ _ _ _ _ us hl => match us, hl with | [_], _ => rfl⟩, FD.kp⟩
  exact fn_def (k := 3 * n + 5) (N := ["paper", "words"]) (b := b_paper_text (fam n)) FD sc_paper_text fun cdv A outer s H E hr => (sb_cons (ss_set 1 nd rfl (by first | exact .inl rfl | exact .inr rfl) (s_if (t_val (s_call (takes_of rfl rfl rfl rfl) rfl F.m_is_kind ih.is_kind (hr.mono (le n)) (a_cons (s_var 0) a_nil))) (s_call (takes_of rfl rfl rfl rfl) rfl F.m_words_of ih.words_of (hr.mono (le n)) (a_cons (s_var 0) (a_cons (s_gint rfl F.i_MOST_DEEP.choose_spec) a_nil))) (s_lst (a_cons s_non a_nil)))) (sb_cons (ss_if (t_cmp (o_inA rfl (units1 hr)) s_non (s_var 1) rfl) (sb_one (ss_raise rfl rfl (takes_of rfl rfl rfl rfl) rfl (by simp) rfl F.ox_BadValue F.sx_BadValue F.no_BadValue F.ini_BadValue F.tyi_BadValue ((xi_PartError F n).choose_spec.1) (hr.mono (lr n)) (xi_PartError F n).choose_spec.2 rfl F.m_BadValue (a_cons (s_str rfl (okS_by rfl)) a_nil) LamX.takes0)) sb_nil) (sb_one (ss_ret (s_bm ty_str (m_join rfl) PySem.F.plainAttrs_str PySem.F.slot_str_join PySem.F.type_str_join (s_str rfl (okS_by rfl)) (a_cons (s_var 1) a_nil))))))
theorem ok_made_of {n : Nat} (F : Fx w K mg base) (ih : Ih w K mg base n) : Fn prg w K mg base (Gw K) (3 * (n + 1) + 3) (He.ga K "made_of") (fam (n + 1) 20) := by
  obtain ⟨fd, FD⟩ := F.d_made_of
  have nd : (["word", "told", "one", "last"] : List Str).Nodup := sc_made_of.nd
  refine ⟨⟨fd, ["word", "told"], ?_, FD.bindsN fun _ _ _ _ _ _ us hl => match us, hl with | [_, _], _ => rfl⟩, FD.kp⟩
  exact fn_def (k := 3 * n + 5) (N := ["word", "told", "one", "last"]) (b := b_made_of (fam n)) FD sc_made_of fun cdv A outer s H E hr => (sb_cons (ss_par 2 3 rfl nd rfl rfl (by decide) rfl rfl (a_cons (s_ix rfl (units1 hr) (s_var 1) s_int) (a_cons (s_ix rfl (units1 hr) (s_var 1) (s_neg s_int)) a_nil))) (sb_cons (ss_if (t_cmp (o_inA rfl (units1 hr)) (s_var 0) (s_tup (a_cons (s_str rfl (okS_by rfl)) (a_cons (s_str rfl (okS_by rfl)) a_nil))) rfl) (sb_one (ss_ret (s_if (t_cmp (o_eq rfl hr.units) (s_var 0) (s_str rfl (okS_by rfl)) rfl) (s_make rfl (takes_of rfl rfl rfl rfl) rfl F.m_Alike rfl F.c_Alike F.mk_Alike ih.Alike_init (hr.mono (lm n)) (a_cons (s_var 2) a_nil)) (s_make rfl (takes_of rfl rfl rfl rfl) rfl F.m_Unlike rfl F.c_Unlike F.mk_Unlike ih.Unlike_init (hr.mono (lm n)) (a_cons (s_var 2) a_nil))))) sb_nil) (sb_cons (ss_if (t_cmp (o_inA rfl (units1 hr)) (s_var 0) (s_tup (a_cons (s_str rfl (okS_by rfl)) (a_cons (s_str rfl (okS_by rfl)) a_nil))) rfl) (sb_one (ss_ret (s_if (t_cmp (o_eq rfl hr.units) (s_var 0) (s_str rfl (okS_by rfl)) rfl) (s_make rfl (takes_of rfl rfl rfl rfl) rfl F.m_Passed rfl F.c_Passed F.mk_Passed ih.Passed_init (hr.mono (lm n)) (a_cons (s_var 2) a_nil)) (s_make rfl (takes_of rfl rfl rfl rfl) rfl F.m_Failed rfl F.c_Failed F.mk_Failed ih.Failed_init (hr.mono (lm n)) (a_cons (s_var 2) a_nil))))) sb_nil) (sb_cons (ss_if (t_cmp (o_inA rfl (units1 hr)) (s_var 0) (s_tup (a_cons (s_str rfl (okS_by rfl)) (a_cons (s_str rfl (okS_by rfl)) a_nil))) rfl) (sb_one (ss_ret (s_if (t_cmp (o_eq rfl hr.units) (s_var 0) (s_str rfl (okS_by rfl)) rfl) (s_make rfl (takes_of rfl rfl rfl rfl) rfl F.m_Total rfl F.c_Total F.mk_Total ih.Total_init (hr.mono (lm n)) (a_cons (s_var 2) a_nil)) (s_make rfl (takes_of rfl rfl rfl rfl) rfl F.m_Untrue rfl F.c_Untrue F.mk_Untrue ih.Untrue_init (hr.mono (lm n)) (a_cons (s_var 2) a_nil))))) sb_nil) (sb_cons (ss_if (t_cmp (o_inA rfl (units1 hr)) (s_var 0) (s_tup (a_cons (s_str rfl (okS_by rfl)) (a_cons (s_str rfl (okS_by rfl)) a_nil))) rfl) (sb_one (ss_ret (s_if (t_cmp (o_eq rfl hr.units) (s_var 0) (s_str rfl (okS_by rfl)) rfl) (s_make rfl (takes_of rfl rfl rfl rfl) rfl F.m_Mends rfl F.c_Mends F.mk_Mends ih.Mends_init (hr.mono (lm n)) (a_cons (s_var 2) a_nil)) (s_make rfl (takes_of rfl rfl rfl rfl) rfl F.m_Unmended rfl F.c_Unmended F.mk_Unmended ih.Unmended_init (hr.mono (lm n)) (a_cons (s_var 2) a_nil))))) sb_nil) (sb_cons (ss_if (t_cmp (o_inA rfl (units1 hr)) (s_var 0) (s_tup (a_cons (s_str rfl (okS_by rfl)) (a_cons (s_str rfl (okS_by rfl)) a_nil))) rfl) (sb_one (ss_ret (s_if (t_cmp (o_eq rfl hr.units) (s_var 0) (s_str rfl (okS_by rfl)) rfl) (s_make rfl (takes_of rfl rfl rfl rfl) rfl F.m_Spares rfl F.c_Spares F.mk_Spares ih.Spares_init (hr.mono (lm n)) (a_cons (s_var 2) a_nil)) (s_make rfl (takes_of rfl rfl rfl rfl) rfl F.m_Enough rfl F.c_Enough F.mk_Enough ih.Enough_init (hr.mono (lm n)) (a_cons (s_var 2) a_nil))))) sb_nil) (sb_cons (ss_if (t_cmp (o_eq rfl hr.units) (s_var 0) (s_str rfl (okS_by rfl)) rfl) (sb_one (ss_ret (s_make rfl (takes_of rfl rfl rfl rfl) rfl F.m_Misses rfl F.c_Misses F.mk_Misses ih.Misses_init (hr.mono (lm n)) (a_cons (s_var 2) (a_cons (s_ix rfl (units1 hr) (s_var 1) s_int) (a_cons (s_var 3) a_nil)))))) sb_nil) (sb_one (ss_ret (s_if (t_cmp (o_eq rfl hr.units) (s_var 0) (s_str rfl (okS_by rfl)) rfl) (s_make rfl (takes_of rfl rfl rfl rfl) rfl F.m_Form rfl F.c_Form F.mk_Form ih.Form_init (hr.mono (lm n)) (a_cons (s_var 2) (a_cons (s_var 3) a_nil))) (s_make rfl (takes_of rfl rfl rfl rfl) rfl F.m_Matters rfl F.c_Matters F.mk_Matters ih.Matters_init (hr.mono (lm n)) (a_cons (s_var 2) (a_cons (s_var 3) a_nil)))))))))))))
theorem ok_Opened_init {n : Nat} (F : Fx w K mg base) (ih : Ih w K mg base n) : Fn prg w K mg base (Gw K) (3 * (n + 1) + 3) (He.ma K (He.ga K "Opened") "__init__") (fam (n + 1) 21) := by
  obtain ⟨fd, FD⟩ := F.d_Opened_init
  have nd : (["self", "word"] : List Str).Nodup := sc_Opened_init.nd
  refine ⟨⟨fd, ["self", "word"], ?_, FD.bindsN fun _ _ _ _ _ _ us hl => match us, hl with | [_, _], _ => rfl⟩, FD.kp⟩
  exact fn_def (k := 3 * n + 5) (N := ["self", "word"]) (b := b_Opened_init (fam n)) FD sc_Opened_init fun cdv A outer s H E hr => (sb_cons (ss_fld 4 rfl rfl (noA_cons rfl F.na_Opened_word (noA_nil _)) (s_var 0) (s_var 1)) (sb_one (ss_fld 12 rfl rfl (noA_cons rfl F.na_Opened_told (noA_nil _)) (s_var 0) (s_lst a_nil))))
theorem ok_Opened_is_full {n : Nat} (F : Fx w K mg base) (ih : Ih w K mg base n) : Fn prg w K mg base (Gw K) (3 * (n + 1) + 3) (He.ma K (He.ga K "Opened") "is_full") (fam (n + 1) 22) := by
  obtain ⟨fd, FD⟩ := F.d_Opened_is_full
  have nd : (["self"] : List Str).Nodup := sc_Opened_is_full.nd
  refine ⟨⟨fd, ["self"], ?_, FD.bindsN fun _ _ _ _ _ _ us hl => match us, hl with | [_], _ => rfl⟩, FD.kp⟩
  exact fn_def (k := 3 * n + 5) (N := ["self"]) (b := b_Opened_is_full (fam n)) FD sc_Opened_is_full fun cdv A outer s H E hr => (sb_one (ss_ret (s_and (s_cmp (o_notN) (s_fld 4 rfl rfl (s_var 0)) s_non rfl) (s_one (s_cmp (o_eq rfl hr.units) (s_callB (c_len rfl) rfl F.n_len bt_len (a_cons (s_fld 12 rfl rfl (s_var 0)) a_nil)) (s_ixK F.k_SIZES (s_fld 4 rfl rfl (s_var 0)) rfl F.m_SIZES) rfl)))))
theorem ok_Opened_made {n : Nat} (F : Fx w K mg base) (ih : Ih w K mg base n) : Fn prg w K mg base (Gw K) (3 * (n + 1) + 3) (He.ma K (He.ga K "Opened") "made") (fam (n + 1) 23) := by
  obtain ⟨fd, FD⟩ := F.d_Opened_made
  have nd : (["self"] : List Str).Nodup := sc_Opened_made.nd
  refine ⟨⟨fd, ["self"], ?_, FD.bindsN fun _ _ _ _ _ _ us hl => match us, hl with | [_], _ => rfl⟩, FD.kp⟩
  exact fn_def (k := 3 * n + 5) (N := ["self"]) (b := b_Opened_made (fam n)) FD sc_Opened_made fun cdv A outer s H E hr => (sb_one (ss_ret (s_if (t_cmp (o_isN) (s_fld 4 rfl rfl (s_var 0)) s_non rfl) (s_callTy (c_tuple rfl) rfl F.n_tuple bt_tuple (a_cons (s_fld 12 rfl rfl (s_var 0)) a_nil)) (s_call (takes_of rfl rfl rfl rfl) rfl F.m_made_of ih.made_of (hr.mono (le n)) (a_cons (s_fld 4 rfl rfl (s_var 0)) (a_cons (s_fld 12 rfl rfl (s_var 0)) a_nil))))))
theorem ok_number_of {n : Nat} (F : Fx w K mg base) (ih : Ih w K mg base n) : Fn prg w K mg base (Gw K) (3 * (n + 1) + 3) (He.ga K "number_of") (fam (n + 1) 24) := by
  obtain ⟨fd, FD⟩ := F.d_number_of
  have nd : (["word", "body", "sign"] : List Str).Nodup := sc_number_of.nd
  refine ⟨⟨fd, ["word"], ?_, FD.bindsN fun _ _ _ _ _ _ us hl => match us, hl with | [_], _ => rfl⟩, FD.kp⟩
  exact fn_def (k := 3 * n + 5) (N := ["word", "body", "sign"]) (b := b_number_of (fam n)) FD sc_number_of fun cdv A outer s H E hr => (sb_cons (ss_set 1 nd rfl (by first | exact .inl rfl | exact .inr rfl) (s_if (t_cmp (o_eq rfl hr.units) (s_slice rfl (s_var 0) p_none (p_some s_int)) (s_str rfl (okS_by rfl)) rfl) (s_slice rfl (s_var 0) (p_some s_int) p_none) (s_var 0))) (sb_cons (ss_if (L2.PW.pt (w_or (t_cmp (o_eq rfl hr.units) (s_var 1) (s_str rfl (okS_by rfl)) rfl) (w_or (t_cmp (o_gt) (s_callB (c_len rfl) rfl F.n_len bt_len (a_cons (s_var 1) a_nil)) (s_gint rfl F.i_MOST_DIGITS.choose_spec) rfl) (w_or1 (t_not (t_val (s_callB (c_all rfl) rfl F.n_all bt_all (a_cons (s_lc (own := [("sign", 2)]) fu rfl rfl nd (by decide) (i_seq rfl (s_var 1)) (blkOk_by rfl) (fun _ _ _ _ _ => tg_one nd rfl (by first | exact .inl rfl | exact .inr rfl)) (fun _ _ _ _ _ => t_yes _) (fun _ _ _ _ _ => (s_cmp (o_inA rfl (units1 hr)) (s_var 2) (s_gstr rfl (okS_by rfl) rfl F.s_DIGITS.choose_spec) rfl))) a_nil)))))))) (sb_one (ss_ret s_non)) sb_nil) (sb_cons (ss_if (L2.PW.pt (w_and (t_cmp (o_eq rfl hr.units) (s_ix rfl (units1 hr) (s_var 1) s_int) (s_str rfl (okS_by rfl)) rfl) (w_and1 (t_cmp (o_ne rfl hr.units) (s_var 0) (s_str rfl (okS_by rfl)) rfl)))) (sb_one (ss_ret s_non)) sb_nil) (sb_one (ss_ret (s_callTy (c_int) rfl F.n_int bt_int (a_cons (s_var 0) a_nil)))))))
theorem ok_plain_of {n : Nat} (F : Fx w K mg base) (ih : Ih w K mg base n) : Fn prg w K mg base (Gw K) (3 * (n + 1) + 3) (He.ga K "plain_of") (fam (n + 1) 25) := by
  obtain ⟨fd, FD⟩ := F.d_plain_of
  have nd : (["word", "number"] : List Str).Nodup := sc_plain_of.nd
  refine ⟨⟨fd, ["word"], ?_, FD.bindsN fun _ _ _ _ _ _ us hl => match us, hl with | [_], _ => rfl⟩, FD.kp⟩
  exact fn_def (k := 3 * n + 5) (N := ["word", "number"]) (b := b_plain_of (fam n)) FD sc_plain_of fun cdv A outer s H E hr => (sb_cons (ss_if (t_cmp (o_eq rfl hr.units) (s_var 0) (s_gstr rfl (okS_by rfl) rfl F.s_NOTHING.choose_spec) rfl) (sb_one (ss_ret (s_tup (a_cons s_non a_nil)))) sb_nil) (sb_cons (ss_if (t_val (s_call (takes_of rfl rfl rfl rfl) rfl F.m_is_word ih.is_word (hr.mono (le n)) (a_cons (s_var 0) a_nil))) (sb_one (ss_ret (s_tup (a_cons (s_var 0) a_nil)))) sb_nil) (sb_cons (ss_set 1 nd rfl (by first | exact .inl rfl | exact .inr rfl) (s_call (takes_of rfl rfl rfl rfl) rfl F.m_number_of ih.number_of (hr.mono (le n)) (a_cons (s_var 0) a_nil))) (sb_one (ss_ret (s_if (t_cmp (o_isN) (s_var 1) s_non rfl) (s_tup a_nil) (s_tup (a_cons (s_var 1) a_nil))))))))
theorem ok_Reading_init {n : Nat} (F : Fx w K mg base) (ih : Ih w K mg base n) : Fn prg w K mg base (Gw K) (3 * (n + 1) + 3) (He.ma K (He.ga K "Reading") "__init__") (fam (n + 1) 26) := by
  obtain ⟨fd, FD⟩ := F.d_Reading_init
  have nd : (["self", "words", "line", "first"] : List Str).Nodup := sc_Reading_init.nd
  refine ⟨⟨fd, ["self", "words", "line", "first"], ?_, FD.bindsN fun _ _ _ _ _ _ us hl => match us, hl with | [_, _, _, _], _ => rfl⟩, FD.kp⟩
  exact fn_def (k := 3 * n + 5) (N := ["self", "words", "line", "first"]) (b := b_Reading_init (fam n)) FD sc_Reading_init fun cdv A outer s H E hr => (sb_cons (ss_fld 13 rfl rfl (noA_cons rfl F.na_Reading_words (noA_nil _)) (s_var 0) (s_var 1)) (sb_cons (ss_fld 3 rfl rfl (noA_cons rfl F.na_Reading_line (noA_nil _)) (s_var 0) (s_var 2)) (sb_cons (ss_fld 14 rfl rfl (noA_cons rfl F.na_Reading_at (noA_nil _)) (s_var 0) (s_var 3)) (sb_one (ss_fld 15 rfl rfl (noA_cons rfl F.na_Reading_begun (noA_nil _)) (s_var 0) (s_lst a_nil))))))
theorem ok_Reading_stop {n : Nat} (F : Fx w K mg base) (ih : Ih w K mg base n) : Fn prg w K mg base (Gw K) (3 * (n + 1) + 3) (He.ma K (He.ga K "Reading") "stop") (fam (n + 1) 27) := by
  obtain ⟨fd, FD⟩ := F.d_Reading_stop
  have nd : (["self"] : List Str).Nodup := sc_Reading_stop.nd
  refine ⟨⟨fd, ["self"], ?_, FD.bindsN fun _ _ _ _ _ _ us hl => match us, hl with | [_], _ => rfl⟩, FD.kp⟩
  exact fn_def (k := 3 * n + 5) (N := ["self"]) (b := b_Reading_stop (fam n)) FD sc_Reading_stop fun cdv A outer s H E hr => (sb_one (ss_raise rfl rfl (takes_of rfl rfl rfl rfl) rfl (by simp) rfl F.ox_BadText F.sx_BadText F.no_BadText F.ini_BadText F.tyi_BadText ((xi_BadText F n).choose_spec.1) (hr.mono (lr n)) (xi_BadText F n).choose_spec.2 rfl F.m_BadText (a_cons (s_fld 3 rfl rfl (s_var 0)) (a_cons (s_fld 14 rfl rfl (s_var 0)) a_nil)) LamX.takes0))
theorem ok_Reading_begin {n : Nat} (F : Fx w K mg base) (ih : Ih w K mg base n) : Fn prg w K mg base (Gw K) (3 * (n + 1) + 3) (He.ma K (He.ga K "Reading") "begin") (fam (n + 1) 28) := by
  obtain ⟨fd, FD⟩ := F.d_Reading_begin
  have nd : (["self"] : List Str).Nodup := sc_Reading_begin.nd
  refine ⟨⟨fd, ["self"], ?_, FD.bindsN fun _ _ _ _ _ _ us hl => match us, hl with | [_], _ => rfl⟩, FD.kp⟩
  exact fn_def (k := 3 * n + 5) (N := ["self"]) (b := b_Reading_begin (fam n)) FD sc_Reading_begin fun cdv A outer s H E hr => (sb_cons (ss_if (t_cmp (o_eq rfl hr.units) (s_callB (c_len rfl) rfl F.n_len bt_len (a_cons (s_fld 15 rfl rfl (s_var 0)) a_nil)) (s_gint rfl F.i_MOST_DEEP.choose_spec) rfl) (sb_one (ss_expr (s_meth0 rfl (takes_of rfl rfl rfl rfl) rfl F.c_Reading F.me_Reading_stop ih.Reading_stop (hr.mono (le n)) (s_var 0)))) sb_nil) (sb_cons (ss_if (t_cmp (o_eq rfl hr.units) (s_ix rfl (units1 hr) (s_fld 13 rfl rfl (s_var 0)) (s_fld 14 rfl rfl (s_var 0))) (s_str rfl (okS_by rfl)) rfl) (sb_one (ss_expr (s_bm ty_lst (m_append) PySem.F.plainAttrs_list PySem.F.slot_list_append PySem.F.type_list_append (s_fld 15 rfl rfl (s_var 0)) (a_cons (s_make rfl (takes_of rfl rfl rfl rfl) rfl F.m_Opened rfl F.c_Opened F.mk_Opened ih.Opened_init (hr.mono (lm n)) (a_cons s_non a_nil)) a_nil)))) (sb_cons (ss_fldaug 14 i_add rfl rfl (noA_cons rfl F.na_Reading_at (noA_nil _)) (s_var 0) s_int) (sb_cons (ss_if (L2.PW.pt (w_or (t_cmp (o_eq rfl hr.units) (s_fld 14 rfl rfl (s_var 0)) (s_callB (c_len rfl) rfl F.n_len bt_len (a_cons (s_fld 13 rfl rfl (s_var 0)) a_nil)) rfl) (w_or1 (t_ninK F.k_SIZES (s_ix rfl (units1 hr) (s_fld 13 rfl rfl (s_var 0)) (s_fld 14 rfl rfl (s_var 0))) rfl F.m_SIZES)))) (sb_one (ss_expr (s_meth0 rfl (takes_of rfl rfl rfl rfl) rfl F.c_Reading F.me_Reading_stop ih.Reading_stop (hr.mono (le n)) (s_var 0)))) sb_nil) (sb_one (ss_expr (s_bm ty_lst (m_append) PySem.F.plainAttrs_list PySem.F.slot_list_append PySem.F.type_list_append (s_fld 15 rfl rfl (s_var 0)) (a_cons (s_make rfl (takes_of rfl rfl rfl rfl) rfl F.m_Opened rfl F.c_Opened F.mk_Opened ih.Opened_init (hr.mono (lm n)) (a_cons (s_ix rfl (units1 hr) (s_fld 13 rfl rfl (s_var 0)) (s_fld 14 rfl rfl (s_var 0))) a_nil)) a_nil))))))) (sb_one (ss_fldaug 14 i_add rfl rfl (noA_cons rfl F.na_Reading_at (noA_nil _)) (s_var 0) s_int))))
theorem ok_Reading_put {n : Nat} (F : Fx w K mg base) (ih : Ih w K mg base n) : Fn prg w K mg base (Gw K) (3 * (n + 1) + 3) (He.ma K (He.ga K "Reading") "put") (fam (n + 1) 29) := by
  obtain ⟨fd, FD⟩ := F.d_Reading_put
  have nd : (["self", "value"] : List Str).Nodup := sc_Reading_put.nd
  refine ⟨⟨fd, ["self", "value"], ?_, FD.bindsN fun _ _ _ _ _ _ us hl => match us, hl with | [_, _], _ => rfl⟩, FD.kp⟩
  exact fn_def (k := 3 * n + 5) (N := ["self", "value"]) (b := b_Reading_put (fam n)) FD sc_Reading_put fun cdv A outer s H E hr => (sb_cons (ss_if (t_val (s_meth0 rfl (takes_of rfl rfl rfl rfl) rfl F.c_Opened F.me_Opened_is_full ih.Opened_is_full (hr.mono (le n)) (s_ix rfl (units1 hr) (s_fld 15 rfl rfl (s_var 0)) (s_neg s_int)))) (sb_one (ss_expr (s_meth0 rfl (takes_of rfl rfl rfl rfl) rfl F.c_Reading F.me_Reading_stop ih.Reading_stop (hr.mono (le n)) (s_var 0)))) sb_nil) (sb_cons (ss_expr (s_bm ty_lst (m_append) PySem.F.plainAttrs_list PySem.F.slot_list_append PySem.F.type_list_append (s_fld 12 rfl rfl (s_ix rfl (units1 hr) (s_fld 15 rfl rfl (s_var 0)) (s_neg s_int))) (a_cons (s_var 1) a_nil))) (sb_one (ss_fldaug 14 i_add rfl rfl (noA_cons rfl F.na_Reading_at (noA_nil _)) (s_var 0) s_int))))
theorem ok_Reading_end {n : Nat} (F : Fx w K mg base) (ih : Ih w K mg base n) : Fn prg w K mg base (Gw K) (3 * (n + 1) + 3) (He.ma K (He.ga K "Reading") "end") (fam (n + 1) 30) := by
  obtain ⟨fd, FD⟩ := F.d_Reading_end
  have nd : (["self", "last"] : List Str).Nodup := sc_Reading_end.nd
  refine ⟨⟨fd, ["self"], ?_, FD.bindsN fun _ _ _ _ _ _ us hl => match us, hl with | [_], _ => rfl⟩, FD.kp⟩
  exact fn_def (k := 3 * n + 5) (N := ["self", "last"]) (b := b_Reading_end (fam n)) FD sc_Reading_end fun cdv A outer s H E hr => (sb_cons (ss_set 1 nd rfl (by first | exact .inl rfl | exact .inr rfl) (s_ix rfl (units1 hr) (s_fld 15 rfl rfl (s_var 0)) (s_neg s_int))) (sb_cons (ss_if (L2.PW.pt (w_or (t_cmp (o_ne rfl hr.units) (s_ix rfl (units1 hr) (s_fld 13 rfl rfl (s_var 0)) (s_fld 14 rfl rfl (s_var 0))) (s_if (t_cmp (o_isN) (s_fld 4 rfl rfl (s_var 1)) s_non rfl) (s_str rfl (okS_by rfl)) (s_str rfl (okS_by rfl))) rfl) (w_or1 (L2.PW.pt (w_and (t_cmp (o_notN) (s_fld 4 rfl rfl (s_var 1)) s_non rfl) (w_and1 (t_not (t_val (s_meth0 rfl (takes_of rfl rfl rfl rfl) rfl F.c_Opened F.me_Opened_is_full ih.Opened_is_full (hr.mono (le n)) (s_var 1)))))))))) (sb_one (ss_expr (s_meth0 rfl (takes_of rfl rfl rfl rfl) rfl F.c_Reading F.me_Reading_stop ih.Reading_stop (hr.mono (le n)) (s_var 0)))) sb_nil) (sb_cons (ss_expr (s_bm0 ty_lst (m_popF) PySem.F.plainAttrs_list PySem.F.slot_list_pop PySem.F.type_list_pop (s_fld 15 rfl rfl (s_var 0)))) (sb_cons (ss_if (t_cmp (o_eq rfl hr.units) (s_fld 15 rfl rfl (s_var 0)) (s_lst a_nil) rfl) (sb_cons (ss_fldaug 14 i_add rfl rfl (noA_cons rfl F.na_Reading_at (noA_nil _)) (s_var 0) s_int) (sb_one (ss_ret (s_meth0 rfl (takes_of rfl rfl rfl rfl) rfl F.c_Opened F.me_Opened_made ih.Opened_made (hr.mono (le n)) (s_var 1))))) sb_nil) (sb_cons (ss_expr (s_meth rfl (takes_of rfl rfl rfl rfl) rfl F.c_Reading F.me_Reading_put ih.Reading_put (hr.mono (le n)) (s_var 0) (a_cons (s_meth0 rfl (takes_of rfl rfl rfl rfl) rfl F.c_Opened F.me_Opened_made ih.Opened_made (hr.mono (le n)) (s_var 1)) a_nil))) (sb_one (ss_ret s_non)))))))
theorem ok_Reading_whole {n : Nat} (F : Fx w K mg base) (ih : Ih w K mg base n) : Fn prg w K mg base (Gw K) (3 * (n + 1) + 3) (He.ma K (He.ga K "Reading") "whole") (fam (n + 1) 31) := by
  obtain ⟨fd, FD⟩ := F.d_Reading_whole
  have nd : (["self", "word", "found", "told"] : List Str).Nodup := sc_Reading_whole.nd
  refine ⟨⟨fd, ["self"], ?_, FD.bindsN fun _ _ _ _ _ _ us hl => match us, hl with | [_], _ => rfl⟩, FD.kp⟩
  exact fn_def (k := 3 * n + 5) (N := ["self", "word", "found", "told"]) (b := b_Reading_whole (fam n)) FD sc_Reading_whole fun cdv A outer s H E hr => (sb_cons (ss_if (L2.PW.pt (w_or (t_cmp (o_eq rfl hr.units) (s_fld 14 rfl rfl (s_var 0)) (s_callB (c_len rfl) rfl F.n_len bt_len (a_cons (s_fld 13 rfl rfl (s_var 0)) a_nil)) rfl) (w_or1 (t_cmp (o_ne rfl hr.units) (s_ix rfl (units1 hr) (s_fld 13 rfl rfl (s_var 0)) (s_fld 14 rfl rfl (s_var 0))) (s_str rfl (okS_by rfl)) rfl)))) (sb_one (ss_expr (s_meth0 rfl (takes_of rfl rfl rfl rfl) rfl F.c_Reading F.me_Reading_stop ih.Reading_stop (hr.mono (le n)) (s_var 0)))) sb_nil) (sb_cons (ss_expr (s_meth0 rfl (takes_of rfl rfl rfl rfl) rfl F.c_Reading F.me_Reading_begin ih.Reading_begin (hr.mono (le n)) (s_var 0))) (sb_cons (ss_while fu (passes_of rfl) (t_cmp (o_lt) (s_fld 14 rfl rfl (s_var 0)) (s_callB (c_len rfl) rfl F.n_len bt_len (a_cons (s_fld 13 rfl rfl (s_var 0)) a_nil)) rfl) (sb_cons (ss_par 1 2 rfl nd rfl rfl (by decide) rfl rfl (a_cons (s_ix rfl (units1 hr) (s_fld 13 rfl rfl (s_var 0)) (s_fld 14 rfl rfl (s_var 0))) (a_cons s_non a_nil))) (sb_cons (ss_if (t_cmp (o_inA rfl (units1 hr)) (s_var 1) (s_tup (a_cons (s_str rfl (okS_by rfl)) (a_cons (s_str rfl (okS_by rfl)) a_nil))) rfl) (sb_cons (ss_if (t_val (s_meth0 rfl (takes_of rfl rfl rfl rfl) rfl F.c_Opened F.me_Opened_is_full ih.Opened_is_full (hr.mono (le n)) (s_ix rfl (units1 hr) (s_fld 15 rfl rfl (s_var 0)) (s_neg s_int)))) (sb_one (ss_expr (s_meth0 rfl (takes_of rfl rfl rfl rfl) rfl F.c_Reading F.me_Reading_stop ih.Reading_stop (hr.mono (le n)) (s_var 0)))) sb_nil) (sb_one (ss_expr (s_meth0 rfl (takes_of rfl rfl rfl rfl) rfl F.c_Reading F.me_Reading_begin ih.Reading_begin (hr.mono (le n)) (s_var 0))))) (sb_one (ss_if (t_cmp (o_inA rfl (units1 hr)) (s_var 1) (s_tup (a_cons (s_str rfl (okS_by rfl)) (a_cons (s_str rfl (okS_by rfl)) a_nil))) rfl) (sb_one (ss_set 2 nd rfl (by first | exact .inl rfl | exact .inr rfl) (s_meth0 rfl (takes_of rfl rfl rfl rfl) rfl F.c_Reading F.me_Reading_end ih.Reading_end (hr.mono (le n)) (s_var 0)))) (sb_cons (ss_set 3 nd rfl (by first | exact .inl rfl | exact .inr rfl) (s_call (takes_of rfl rfl rfl rfl) rfl F.m_plain_of ih.plain_of (hr.mono (le n)) (a_cons (s_var 1) a_nil))) (sb_cons (ss_if (t_cmp (o_eq rfl hr.units) (s_var 3) (s_tup a_nil) rfl) (sb_one (ss_expr (s_meth0 rfl (takes_of rfl rfl rfl rfl) rfl F.c_Reading F.me_Reading_stop ih.Reading_stop (hr.mono (le n)) (s_var 0)))) sb_nil) (sb_one (ss_expr (s_meth rfl (takes_of rfl rfl rfl rfl) rfl F.c_Reading F.me_Reading_put ih.Reading_put (hr.mono (le n)) (s_var 0) (a_cons (s_ix rfl (units1 hr) (s_var 3) s_int) a_nil))))))))) (sb_one (ss_if (t_cmp (o_notN) (s_var 2) s_non rfl) (sb_cons (ss_if (t_cmp (o_lt) (s_fld 14 rfl rfl (s_var 0)) (s_callB (c_len rfl) rfl F.n_len bt_len (a_cons (s_fld 13 rfl rfl (s_var 0)) a_nil)) rfl) (sb_one (ss_expr (s_meth0 rfl (takes_of rfl rfl rfl rfl) rfl F.c_Reading F.me_Reading_stop ih.Reading_stop (hr.mono (le n)) (s_var 0)))) sb_nil) (sb_one (ss_ret (s_var 2)))) sb_nil))))) (sb_one (ss_ret (s_meth0 rfl (takes_of rfl rfl rfl rfl) rfl F.c_Reading F.me_Reading_stop ih.Reading_stop (hr.mono (le n)) (s_var 0)))))))
theorem ok_read_paper {n : Nat} (F : Fx w K mg base) (ih : Ih w K mg base n) : Fn prg w K mg base (Gw K) (3 * (n + 1) + 3) (He.ga K "read_paper") (fam (n + 1) 32) := by
  obtain ⟨fd, FD⟩ := F.d_read_paper
  have nd : (["text"] : List Str).Nodup := sc_read_paper.nd
  refine ⟨⟨fd, ["text"], ?_, FD.bindsN fun _ _ _ _ _ _ us hl => match us, hl with | [_], _ => rfl⟩, FD.kp⟩
  exact fn_def (k := 3 * n + 5) (N := ["text"]) (b := b_read_paper (fam n)) FD sc_read_paper fun cdv A outer s H E hr => (sb_cons (ss_if (t_not (t_val (s_isi1 rfl F.isi rfl F.n_isinstance (s_var 0) (c_bi .str (fun _ z => nomatch z) rfl F.n_str bt_str)))) (sb_one (ss_raise rfl rfl (takes_of rfl rfl rfl rfl) rfl (by simp) rfl F.ox_BadValue F.sx_BadValue F.no_BadValue F.ini_BadValue F.tyi_BadValue ((xi_PartError F n).choose_spec.1) (hr.mono (lr n)) (xi_PartError F n).choose_spec.2 rfl F.m_BadValue (a_cons (s_str rfl (okS_by rfl)) a_nil) LamX.takes0)) sb_nil) (sb_one (ss_ret (s_meth0 rfl (takes_of rfl rfl rfl rfl) rfl F.c_Reading F.me_Reading_whole ih.Reading_whole (hr.mono (le n)) (s_make rfl (takes_of rfl rfl rfl rfl) rfl F.m_Reading rfl F.c_Reading F.mk_Reading ih.Reading_init (hr.mono (lm n)) (a_cons (s_bm ty_str (m_split) PySem.F.plainAttrs_str PySem.F.slot_str_split PySem.F.type_str_split (s_var 0) (a_cons (s_str rfl (okS_by rfl)) a_nil)) (a_cons s_int (a_cons s_int a_nil))))))))
theorem ok__law_well {n : Nat} (F : Fx w K mg base) (ih : Ih w K mg base n) : Fn prg w K mg base (Gw K) (3 * (n + 1) + 3) (He.ga K "_law_well") (fam (n + 1) 33) := by
  obtain ⟨fd, FD⟩ := F.d__law_well
  have nd : (["script", "one", "at"] : List Str).Nodup := sc__law_well.nd
  refine ⟨⟨fd, ["script"], ?_, FD.bindsN fun _ _ _ _ _ _ us hl => match us, hl with | [_], _ => rfl⟩, FD.kp⟩
  exact fn_def (k := 3 * n + 5) (N := ["script", "one", "at"]) (b := b__law_well (fam n)) FD sc__law_well fun cdv A outer s H E hr => (sb_one (ss_ret (s_disp (d_cons (s_str rfl (okS_by rfl)) (s_lc (own := [("one", 1)]) fu rfl rfl nd (by decide) (i_seq rfl (s_var 0)) (blkOk_by rfl) (fun _ _ _ _ _ => tg_one nd rfl (by first | exact .inl rfl | exact .inr rfl)) (fun _ _ _ _ _ => t_yes _) (fun _ _ _ _ _ => (s_callTy (c_int) rfl F.n_int bt_int (a_cons (s_var 1) a_nil)))) (d_cons (s_str rfl (okS_by rfl)) s_int (d_cons (s_str rfl (okS_by rfl)) (s_bin (o_add rfl) s_int (s_callB (c_sum rfl) rfl F.n_sum bt_sum (a_cons (s_lc (own := [("at", 2), ("one", 1)]) fu rfl rfl nd (by decide) (i_enum rfl rfl F.n_enumerate (a_cons (s_var 0) a_nil)) (blkOk_by rfl) (fun _ _ _ _ _ => tg_many rfl (tgs_cons nd rfl (by first | exact .inl rfl | exact .inr rfl) (tgs_cons nd rfl (by first | exact .inl rfl | exact .inr rfl) tgs_nil))) (fun _ _ _ _ _ => t_yes _) (fun _ _ _ _ _ => (s_bin (o_mul) (s_bin (o_add rfl) (s_var 2) s_int) (s_var 1)))) a_nil))) d_nil))))))
theorem ok__law_draw {n : Nat} (F : Fx w K mg base) (ih : Ih w K mg base n) : Fn prg w K mg base (Gw K) (3 * (n + 1) + 3) (He.ga K "_law_draw") (fam (n + 1) 34) := by
  obtain ⟨fd, FD⟩ := F.d__law_draw
  have nd : (["well", "many"] : List Str).Nodup := sc__law_draw.nd
  refine ⟨⟨fd, ["well", "many"], ?_, FD.bindsN fun _ _ _ _ _ _ us hl => match us, hl with | [_, _], _ => rfl⟩, FD.kp⟩
  exact fn_def (k := 3 * n + 5) (N := ["well", "many"]) (b := b__law_draw (fam n)) FD sc__law_draw fun cdv A outer s H E hr => (sb_cons (ss_if (t_cmp (o_lt) (s_var 1) s_int rfl) (sb_one (ss_ret s_int)) sb_nil) (sb_cons (ss_asg (s_bin (o_add rfl) (s_ix rfl (units1 hr) (s_var 0) (s_str rfl (okS_by rfl))) s_int) (g_sub (units1 hr) (s_var 0) (s_str rfl (okS_by rfl)) (fun _ => rfl))) (sb_cons (ss_if (t_cmp (o_le) (s_ix rfl (units1 hr) (s_var 0) (s_str rfl (okS_by rfl))) (s_callB (c_len rfl) rfl F.n_len bt_len (a_cons (s_ix rfl (units1 hr) (s_var 0) (s_str rfl (okS_by rfl))) a_nil)) rfl) (sb_one (ss_ret (s_bin (o_mod) (s_callTy (c_int) rfl F.n_int bt_int (a_cons (s_ix rfl (units1 hr) (s_ix rfl (units1 hr) (s_var 0) (s_str rfl (okS_by rfl))) (s_bin (o_sub) (s_ix rfl (units1 hr) (s_var 0) (s_str rfl (okS_by rfl))) s_int)) a_nil)) (s_var 1)))) sb_nil) (sb_cons (ss_asg (s_bin (o_mod) (s_bin (o_add rfl) (s_bin (o_add rfl) (s_bin (o_mul) (s_ix rfl (units1 hr) (s_var 0) (s_str rfl (okS_by rfl))) s_int) s_int) (s_bin (o_mul) s_int (s_ix rfl (units1 hr) (s_var 0) (s_str rfl (okS_by rfl))))) s_int) (g_sub (units1 hr) (s_var 0) (s_str rfl (okS_by rfl)) (fun _ => rfl))) (sb_one (ss_ret (s_bin (o_mod) (s_bin (o_fdiv) (s_ix rfl (units1 hr) (s_var 0) (s_str rfl (okS_by rfl))) s_int) (s_var 1))))))))
theorem ok__law_one {n : Nat} (F : Fx w K mg base) (ih : Ih w K mg base n) : Fn prg w K mg base (Gw K) (3 * (n + 1) + 3) (He.ga K "_law_one") (fam (n + 1) 35) := by
  obtain ⟨fd, FD⟩ := F.d__law_one
  have nd : (["well", "some"] : List Str).Nodup := sc__law_one.nd
  refine ⟨⟨fd, ["well", "some"], ?_, FD.bindsN fun _ _ _ _ _ _ us hl => match us, hl with | [_, _], _ => rfl⟩, FD.kp⟩
  exact fn_def (k := 3 * n + 5) (N := ["well", "some"]) (b := b__law_one (fam n)) FD sc__law_one fun cdv A outer s H E hr => (sb_one (ss_ret (s_ix rfl (units1 hr) (s_var 1) (s_call (takes_of rfl rfl rfl rfl) rfl F.m__law_draw ih._law_draw (hr.mono (le n)) (a_cons (s_var 0) (a_cons (s_callB (c_len rfl) rfl F.n_len bt_len (a_cons (s_var 1) a_nil)) a_nil))))))
theorem ok__law_sizes {n : Nat} (F : Fx w K mg base) (ih : Ih w K mg base n) : Fn prg w K mg base (Gw K) (3 * (n + 1) + 3) (He.ga K "_law_sizes") (fam (n + 1) 36) := by
  obtain ⟨fd, FD⟩ := F.d__law_sizes
  have nd : ([] : List Str).Nodup := sc__law_sizes.nd
  refine ⟨⟨fd, [], ?_, FD.bindsN fun _ _ _ _ _ _ us hl => match us, hl with | [], _ => rfl⟩, FD.kp⟩
  exact fn_def (k := 3 * n + 5) (N := []) (b := b__law_sizes (fam n)) FD sc__law_sizes fun cdv A outer s H E hr => (sb_one (ss_ret (s_disp (d_cons (s_str rfl (okS_by rfl)) s_int (d_cons (s_str rfl (okS_by rfl)) s_int (d_cons (s_str rfl (okS_by rfl)) s_int (d_cons (s_str rfl (okS_by rfl)) s_int (d_cons (s_str rfl (okS_by rfl)) s_int (d_cons (s_str rfl (okS_by rfl)) s_int (d_cons (s_str rfl (okS_by rfl)) s_int (d_cons (s_str rfl (okS_by rfl)) s_int (d_cons (s_str rfl (okS_by rfl)) s_int (d_cons (s_str rfl (okS_by rfl)) s_int (d_cons (s_str rfl (okS_by rfl)) s_int (d_cons (s_str rfl (okS_by rfl)) s_int (d_cons (s_str rfl (okS_by rfl)) s_int d_nil))))))))))))))))
theorem ok__law_is_plain {n : Nat} (F : Fx w K mg base) (ih : Ih w K mg base n) : Fn prg w K mg base (Gw K) (3 * (n + 1) + 3) (He.ga K "_law_is_plain") (fam (n + 1) 37) := by
  obtain ⟨fd, FD⟩ := F.d__law_is_plain
  have nd : (["word", "body", "sign"] : List Str).Nodup := sc__law_is_plain.nd
  refine ⟨⟨fd, ["word"], ?_, FD.bindsN fun _ _ _ _ _ _ us hl => match us, hl with | [_], _ => rfl⟩, FD.kp⟩
  exact fn_def (k := 3 * n + 5) (N := ["word", "body", "sign"]) (b := b__law_is_plain (fam n)) FD sc__law_is_plain fun cdv A outer s H E hr => (sb_cons (ss_if (L2.PW.pt (w_or (t_cmp (o_eq rfl hr.units) (s_var 0) (s_str rfl (okS_by rfl)) rfl) (w_or1 (L2.PW.pt (w_and (t_cmp (o_ne rfl hr.units) (s_slice rfl (s_var 0) p_none (p_some s_int)) (s_str rfl (okS_by rfl)) rfl) (w_and (t_cmp (o_inA rfl (units1 hr)) (s_ix rfl (units1 hr) (s_var 0) s_int) (s_str rfl (okS_by rfl)) rfl) (w_and1 (t_cmp (o_le) (s_callB (c_len rfl) rfl F.n_len bt_len (a_cons (s_var 0) a_nil)) s_int rfl)))))))) (sb_one (ss_ret (s_and (s_cmp (o_eq rfl hr.units) (s_lc (own := [("sign", 2)]) fu rfl rfl nd (by decide) (i_seq rfl (s_var 0)) (blkOk_by rfl) (fun _ _ _ _ _ => tg_one nd rfl (by first | exact .inl rfl | exact .inr rfl)) (fun _ _ _ _ _ => t_if1 (t_cmp (o_notInA rfl (units1 hr)) (s_var 2) (s_str rfl (okS_by rfl)) rfl)) (fun _ _ _ _ _ => (s_var 2))) (s_lst a_nil) rfl) (s_one (s_or (s_cmp (o_eq rfl hr.units) (s_var 0) (s_str rfl (okS_by rfl)) rfl) (s_one (s_cmp (o_notInA rfl (units1 hr)) (s_str rfl (okS_by rfl)) (s_var 0) rfl))))))) sb_nil) (sb_cons (ss_set 1 nd rfl (by first | exact .inl rfl | exact .inr rfl) (s_if (t_cmp (o_eq rfl hr.units) (s_slice rfl (s_var 0) p_none (p_some s_int)) (s_str rfl (okS_by rfl)) rfl) (s_slice rfl (s_var 0) (p_some s_int) p_none) (s_var 0))) (sb_cons (ss_if (L2.PW.pt (w_or (t_cmp (o_eq rfl hr.units) (s_var 1) (s_str rfl (okS_by rfl)) rfl) (w_or (t_cmp (o_gt) (s_callB (c_len rfl) rfl F.n_len bt_len (a_cons (s_var 1) a_nil)) s_int rfl) (w_or1 (t_cmp (o_ne rfl hr.units) (s_lc (own := [("sign", 2)]) fu rfl rfl nd (by decide) (i_seq rfl (s_var 1)) (blkOk_by rfl) (fun _ _ _ _ _ => tg_one nd rfl (by first | exact .inl rfl | exact .inr rfl)) (fun _ _ _ _ _ => t_if1 (t_cmp (o_notInA rfl (units1 hr)) (s_var 2) (s_str rfl (okS_by rfl)) rfl)) (fun _ _ _ _ _ => (s_var 2))) (s_lst a_nil) rfl))))) (sb_one (ss_ret s_bl)) sb_nil) (sb_one (ss_ret (s_or (s_cmp (o_eq rfl hr.units) (s_var 0) (s_str rfl (okS_by rfl)) rfl) (s_one (s_cmp (o_ne rfl hr.units) (s_ix rfl (units1 hr) (s_var 1) s_int) (s_str rfl (okS_by rfl)) rfl))))))))
theorem ok__law_fault {n : Nat} (F : Fx w K mg base) (ih : Ih w K mg base n) : Fn prg w K mg base (Gw K) (3 * (n + 1) + 3) (He.ga K "_law_fault") (fam (n + 1) 38) := by
  obtain ⟨fd, FD⟩ := F.d__law_fault
  have nd : (["words", "sizes", "line", "at", "word", "is_good"] : List Str).Nodup := sc__law_fault.nd
  refine ⟨⟨fd, ["words"], ?_, FD.bindsN fun _ _ _ _ _ _ us hl => match us, hl with | [_], _ => rfl⟩, FD.kp⟩
  exact fn_def (k := 3 * n + 5) (N := ["words", "sizes", "line", "at", "word", "is_good"]) (b := b__law_fault (fam n)) FD sc__law_fault fun cdv A outer s H E hr => (sb_cons (ss_par 1 2 rfl nd rfl rfl (by decide) rfl rfl (a_cons (s_call0 (takes_of rfl rfl rfl rfl) rfl F.m__law_sizes ih._law_sizes (hr.mono (le n))) (a_cons (s_lst a_nil) a_nil))) (sb_cons (ss_forI fu (passes_of rfl) rfl (i_enum rfl rfl F.n_enumerate (a_cons (s_var 0) a_nil)) (g_tup rfl rfl (gs_cons (g_name nd rfl (by first | exact .inl rfl | exact .inr rfl)) (gs_cons (g_name nd rfl (by first | exact .inl rfl | exact .inr rfl)) gs_nil))) (sb_cons (ss_if (L2.PW.pt (w_and (t_cmp (o_eq rfl hr.units) (s_var 2) (s_lst a_nil) rfl) (w_and1 (t_cmp (o_gt) (s_var 3) s_int rfl)))) (sb_one (ss_ret (s_var 3))) sb_nil) (sb_one (ss_if (L2.PW.pt (w_or (t_cmp (o_eq rfl hr.units) (s_var 3) s_int rfl) (w_or1 (t_cmp (o_eq rfl hr.units) (s_ix rfl (units1 hr) (s_var 2) (s_neg s_int)) (s_str rfl (okS_by rfl)) rfl)))) (sb_cons (ss_set 5 nd rfl (by first | exact .inl rfl | exact .inr rfl) (s_if (t_cmp (o_eq rfl hr.units) (s_var 3) s_int rfl) (s_cmp (o_eq rfl hr.units) (s_var 4) (s_str rfl (okS_by rfl)) rfl) (s_cmp (o_inA rfl (units1 hr)) (s_var 4) (s_var 1) rfl))) (sb_cons (ss_if (t_not (t_val (s_var 5))) (sb_one (ss_ret (s_var 3))) sb_nil) (sb_one (ss_set 2 nd rfl (by first | exact .inl rfl | exact .inr rfl) (s_if (t_cmp (o_eq rfl hr.units) (s_var 3) s_int rfl) (s_lst (a_cons (s_str rfl (okS_by rfl)) a_nil)) (s_bin (o_add rfl) (s_slice rfl (s_var 2) p_none (p_some (s_neg s_int))) (s_lst (a_cons (s_ix rfl (units1 hr) (s_var 1) (s_var 4)) a_nil)))))))) (sb_one (ss_if (L2.PW.pt (w_or (t_cmp (o_eq rfl hr.units) (s_var 4) (s_str rfl (okS_by rfl)) rfl) (w_or1 (t_cmp (o_eq rfl hr.units) (s_var 4) (s_str rfl (okS_by rfl)) rfl)))) (sb_cons (ss_if (t_cmp (o_ne rfl hr.units) (s_ix rfl (units1 hr) (s_var 2) (s_neg s_int)) (s_if (t_cmp (o_eq rfl hr.units) (s_var 4) (s_str rfl (okS_by rfl)) rfl) s_non s_int) rfl) (sb_one (ss_ret (s_var 3))) sb_nil) (sb_one (ss_expr (s_bm0 ty_lst (m_popF) PySem.F.plainAttrs_list PySem.F.slot_list_pop PySem.F.type_list_pop (s_var 2))))) (sb_cons (ss_if (L2.PW.pt (w_or (t_cmp (o_eq rfl hr.units) (s_ix rfl (units1 hr) (s_var 2) (s_neg s_int)) s_int rfl) (w_or1 (L2.PW.pt (w_and (t_cmp (o_notInA rfl (units1 hr)) (s_var 4) (s_tup (a_cons (s_str rfl (okS_by rfl)) (a_cons (s_str rfl (okS_by rfl)) a_nil))) rfl) (w_and1 (t_not (t_val (s_call (takes_of rfl rfl rfl rfl) rfl F.m__law_is_plain ih._law_is_plain (hr.mono (le n)) (a_cons (s_var 4) a_nil)))))))))) (sb_one (ss_ret (s_var 3))) sb_nil) (sb_cons (ss_asg (s_if (t_cmp (o_isN) (s_ix rfl (units1 hr) (s_var 2) (s_neg s_int)) s_non rfl) s_non (s_bin (o_sub) (s_ix rfl (units1 hr) (s_var 2) (s_neg s_int)) s_int)) (g_sub (units1 hr) (s_var 2) (s_neg s_int) (fun _ => rfl))) (sb_one (ss_set 2 nd rfl (by first | exact .inl rfl | exact .inr rfl) (s_bin (o_add rfl) (s_var 2) (s_if (t_cmp (o_eq rfl hr.units) (s_var 4) (s_str rfl (okS_by rfl)) rfl) (s_lst (a_cons s_non a_nil)) (s_if (t_cmp (o_eq rfl hr.units) (s_var 4) (s_str rfl (okS_by rfl)) rfl) (s_lst (a_cons (s_str rfl (okS_by rfl)) a_nil)) (s_lst a_nil)))))))))))))) (sb_one (ss_ret (s_if (t_cmp (o_ne rfl hr.units) (s_var 2) (s_lst a_nil) rfl) (s_callB (c_len rfl) rfl F.n_len bt_len (a_cons (s_var 0) a_nil)) s_non)))))
theorem ok__law_words {n : Nat} (F : Fx w K mg base) (ih : Ih w K mg base n) : Fn prg w K mg base (Gw K) (3 * (n + 1) + 3) (He.ga K "_law_words") (fam (n + 1) 39) := by
  obtain ⟨fd, FD⟩ := F.d__law_words
  have nd : (["well", "deep", "way", "some", "turn"] : List Str).Nodup := sc__law_words.nd
  refine ⟨⟨fd, ["well", "deep"], ?_, FD.bindsN fun _ _ _ _ _ _ us hl => match us, hl with | [_, _], _ => rfl⟩, FD.kp⟩
  exact fn_def (k := 3 * n + 5) (N := ["well", "deep", "way", "some", "turn"]) (b := b__law_words (fam n)) FD sc__law_words fun cdv A outer s H E hr => (sb_cons (ss_set 2 nd rfl (by first | exact .inl rfl | exact .inr rfl) (s_call (takes_of rfl rfl rfl rfl) rfl F.m__law_draw ih._law_draw (hr.mono (le n)) (a_cons (s_var 0) (a_cons (s_if (t_cmp (o_gt) (s_var 1) s_int rfl) s_int s_int) a_nil)))) (sb_cons (ss_if (t_cmp (o_lt) (s_var 2) s_int rfl) (sb_one (ss_ret (s_lst (a_cons (s_call (takes_of rfl rfl rfl rfl) rfl F.m__law_one ih._law_one (hr.mono (le n)) (a_cons (s_var 0) (a_cons (s_lst (a_cons (s_str rfl (okS_by rfl)) (a_cons (s_str rfl (okS_by rfl)) (a_cons (s_str rfl (okS_by rfl)) (a_cons (s_str rfl (okS_by rfl)) (a_cons (s_str rfl (okS_by rfl)) (a_cons (s_str rfl (okS_by rfl)) a_nil))))))) a_nil))) a_nil)))) sb_nil) (sb_cons (ss_setLc (own := [("turn", 4)]) fu 3 rfl rfl nd rfl rfl (by decide) (i_range1 rfl F.n_range (a_cons (s_call (takes_of rfl rfl rfl rfl) rfl F.m__law_draw ih._law_draw (hr.mono (le n)) (a_cons (s_var 0) (a_cons s_int a_nil))) a_nil)) (blkOk_by rfl) (fun _ _ _ _ _ => tg_one nd rfl (by first | exact .inl rfl | exact .inr rfl)) (fun _ _ _ _ _ => t_yes _) (fun _ _ _ _ _ => (s_call LamX.takes0 rfl F.m__law_words ih._law_words (hr.mono (le n)) (a_cons (s_var 0) (a_cons (s_bin (o_sub) (s_var 1) s_int) a_nil))))) (sb_one (ss_ret (s_if (t_cmp (o_eq rfl hr.units) (s_var 2) s_int rfl) (s_call (takes_of rfl rfl rfl rfl) rfl F.m__law_paper_words ih._law_paper_words (hr.mono (le n)) (a_cons (s_var 0) (a_cons (s_bin (o_sub) (s_var 1) s_int) a_nil))) (s_bin (o_add rfl) (s_bin (o_add rfl) (s_lst (a_cons (s_str rfl (okS_by rfl)) a_nil)) (s_callB (c_sum rfl) rfl F.n_sum bt_sum (a_cons (s_var 3) (a_cons (s_lst a_nil) a_nil)))) (s_lst (a_cons (s_str rfl (okS_by rfl)) a_nil)))))))))
theorem ok__law_paper_words {n : Nat} (F : Fx w K mg base) (ih : Ih w K mg base n) : Fn prg w K mg base (Gw K) (3 * (n + 1) + 3) (He.ga K "_law_paper_words") (fam (n + 1) 40) := by
  obtain ⟨fd, FD⟩ := F.d__law_paper_words
  have nd : (["well", "deep", "sizes", "word", "part"] : List Str).Nodup := sc__law_paper_words.nd
  refine ⟨⟨fd, ["well", "deep"], ?_, FD.bindsN fun _ _ _ _ _ _ us hl => match us, hl with | [_, _], _ => rfl⟩, FD.kp⟩
  exact fn_def (k := 3 * n + 5) (N := ["well", "deep", "sizes", "word", "part"]) (b := b__law_paper_words (fam n)) FD sc__law_paper_words fun cdv A outer s H E hr => (sb_cons (ss_set 2 nd rfl (by first | exact .inl rfl | exact .inr rfl) (s_call0 (takes_of rfl rfl rfl rfl) rfl F.m__law_sizes ih._law_sizes (hr.mono (le n)))) (sb_cons (ss_set 3 nd rfl (by first | exact .inl rfl | exact .inr rfl) (s_call (takes_of rfl rfl rfl rfl) rfl F.m__law_one ih._law_one (hr.mono (le n)) (a_cons (s_var 0) (a_cons (s_callB (c_sorted) rfl F.n_sorted bt_sorted (a_cons (s_callTy (c_list rfl rfl) rfl F.n_list bt_list (a_cons (s_var 2) a_nil)) a_nil)) a_nil)))) (sb_one (ss_ret (s_bin (o_add rfl) (s_bin (o_add rfl) (s_lst (a_cons (s_str rfl (okS_by rfl)) (a_cons (s_var 3) a_nil))) (s_callB (c_sum rfl) rfl F.n_sum bt_sum (a_cons (s_lc (own := [("part", 4)]) fu rfl rfl nd (by decide) (i_range1 rfl F.n_range (a_cons (s_ix rfl (units1 hr) (s_var 2) (s_var 3)) a_nil)) (blkOk_by rfl) (fun _ _ _ _ _ => tg_one nd rfl (by first | exact .inl rfl | exact .inr rfl)) (fun _ _ _ _ _ => t_yes _) (fun _ _ _ _ _ => (s_call LamX.takes0 rfl F.m__law_words ih._law_words (hr.mono (le n)) (a_cons (s_var 0) (a_cons (s_var 1) a_nil))))) (a_cons (s_lst a_nil) a_nil)))) (s_lst (a_cons (s_str rfl (okS_by rfl)) a_nil)))))))
theorem ok__law_deep_right {n : Nat} (F : Fx w K mg base) (ih : Ih w K mg base n) : Fn prg w K mg base (Gw K) (3 * (n + 1) + 3) (He.ga K "_law_deep_right") (fam (n + 1) 41) := by
  obtain ⟨fd, FD, hcd⟩ := F.d__law_deep_right
  have nd : (["well", "many", "twice", "tuples", "papers", "words", "deep", "due", "text", "heard"] : List Str).Nodup := sc__law_deep_right.nd
  obtain ⟨fdg, FG⟩ := F.d__law_said
  have bSaid : Binds K fdg ["ask"] [] := FG.bindsN fun _ _ _ _ _ _ us hl => match us, hl with | [_], _ => rfl
  refine ⟨⟨fd, ["well"], ?_, FD.bindsN fun _ _ _ _ _ _ us hl => match us, hl with | [_], _ => rfl⟩, FD.kp⟩
  exact fn_defC (k := 3 * n + 5) (N := ["well", "many", "twice", "tuples", "papers", "words", "deep", "due", "text", "heard"]) (b := b__law_deep_right (fam n)) FD hcd sc__law_deep_right fun A outer s H E hr => (sb_cons (ss_par 1 2 rfl nd rfl rfl (by decide) rfl rfl (a_cons (s_call (takes_of rfl rfl rfl rfl) rfl F.m__law_one ih._law_one (hr.mono (le n)) (a_cons (s_var 0) (a_cons (s_lst (a_cons s_int (a_cons s_int (a_cons s_int (a_cons s_int (a_cons s_int (a_cons s_int (a_cons s_int a_nil)))))))) a_nil))) (a_cons (s_call (takes_of rfl rfl rfl rfl) rfl F.m__law_one ih._law_one (hr.mono (le n)) (a_cons (s_var 0) (a_cons (s_lst (a_cons s_int (a_cons s_int (a_cons s_int (a_cons s_int (a_cons s_int a_nil)))))) a_nil))) a_nil))) (sb_cons (ss_set 3 nd rfl (by first | exact .inl rfl | exact .inr rfl) (s_bin (o_add rfl) (s_bin (o_add rfl) (s_bin (o_add rfl) (s_lst (a_cons (s_str rfl (okS_by rfl)) (a_cons (s_str rfl (okS_by rfl)) a_nil))) (s_bin (o_mul) (s_lst (a_cons (s_str rfl (okS_by rfl)) a_nil)) (s_var 1))) (s_bin (o_mul) (s_lst (a_cons (s_str rfl (okS_by rfl)) a_nil)) (s_var 1))) (s_lst (a_cons (s_str rfl (okS_by rfl)) a_nil)))) (sb_cons (ss_set 4 nd rfl (by first | exact .inl rfl | exact .inr rfl) (s_bin (o_add rfl) (s_bin (o_add rfl) (s_bin (o_mul) (s_lst (a_cons (s_str rfl (okS_by rfl)) (a_cons (s_str rfl (okS_by rfl)) a_nil))) (s_var 2)) (s_lst (a_cons (s_str rfl (okS_by rfl)) a_nil))) (s_bin (o_mul) (s_lst (a_cons (s_str rfl (okS_by rfl)) a_nil)) (s_var 2)))) (sb_cons (ss_forI fu (passes_of rfl) rfl (i_seq rfl (s_tup (a_cons (s_tup (a_cons (s_var 3) (a_cons (s_bin (o_add rfl) (s_var 1) s_int) (a_cons s_int a_nil)))) (a_cons (s_tup (a_cons (s_var 4) (a_cons (s_var 2) (a_cons s_int a_nil)))) a_nil)))) (g_tup rfl rfl (gs_cons (g_name nd rfl (by first | exact .inl rfl | exact .inr rfl)) (gs_cons (g_name nd rfl (by first | exact .inl rfl | exact .inr rfl)) (gs_cons (g_name nd rfl (by first | exact .inl rfl | exact .inr rfl)) gs_nil)))) (sb_cons (ss_set 8 nd rfl (by first | exact .inl rfl | exact .inr rfl) (s_bm ty_str (m_join rfl) PySem.F.plainAttrs_str PySem.F.slot_str_join PySem.F.type_str_join (s_str rfl (okS_by rfl)) (a_cons (s_var 5) a_nil))) (sb_cons (ss_set 9 nd rfl (by first | exact .inl rfl | exact .inr rfl) (s_said FG bSaid sc__law_said F.saidN F.saidT rfl F.m__law_said F.tb__law_deep_right rfl F.tm__law_deep_right F.tu__law_deep_right (hr.mono (le5 n)) (LamX.lamS_by rfl) rfl (fun _ _ _ _ _ => rfl) (fun A outer s H E f c' hr => (s_call (takes_of rfl rfl rfl rfl) rfl F.m_read_paper ih.read_paper (hr.mono (le0 n)) (a_cons (s_var 8) a_nil))))) (sb_one (ss_if (L2.PW.pt (w_or (t_cmp (o_ne rfl hr.units) (s_var 9) (s_if (t_cmp (o_le) (s_var 6) s_int rfl) s_non (s_tup (a_cons (s_str rfl (okS_by rfl)) (a_cons s_int (a_cons (s_var 7) a_nil))))) rfl) (w_or1 (L2.PW.pt (w_and (t_cmp (o_isN) (s_var 9) s_non rfl) (w_and1 (t_cmp (o_ne rfl hr.units) (s_call (takes_of rfl rfl rfl rfl) rfl F.m_paper_text ih.paper_text (hr.mono (le n)) (a_cons (s_call (takes_of rfl rfl rfl rfl) rfl F.m_read_paper ih.read_paper (hr.mono (le n)) (a_cons (s_var 8) a_nil)) a_nil)) (s_var 8) rfl))))))) (sb_one (ss_ret s_bl)) sb_nil))))) (sb_one (ss_ret s_bl))))))
theorem okD_law {n : Nat} (F : Fx w K mg base) (ih : Ih w K mg base n) {fd : FuncData} (FD : FunD K "law" "law" (defArgs (top 69)) (defBody (top 69)) (defScope (top 69)) [] [] (He.ga K "law") fd) (hcd : fd.code = .ref (He.cT K ("law", none)).1) : FnOk prg w K mg base (L2.CX prg w) (3 * (n + 1) + 3) (He.ga K "law") fd ["script"] (spM (Gw K) (fam (n + 1) 42)) := by
  have nd : (["script", "well", "turn", "words", "at", "way", "odd", "text", "due", "heard"] : List Str).Nodup := sc_law.nd
  obtain ⟨fdg, FG⟩ := F.d__law_said
  have bSaid : Binds K fdg ["ask"] [] := FG.bindsN fun _ _ _ _ _ _ us hl => match us, hl with | [_], _ => rfl
  exact fn_defC (k := 3 * n + 5) (N := ["script", "well", "turn", "words", "at", "way", "odd", "text", "due", "heard"]) (b := b_law (fam n)) FD hcd sc_law fun A outer s H E hr => (sb_cons (ss_set 1 nd rfl (by first | exact .inl rfl | exact .inr rfl) (s_call (takes_of rfl rfl rfl rfl) rfl F.m__law_well ih._law_well (hr.mono (le n)) (a_cons (s_var 0) a_nil))) (sb_cons (ss_if (t_not (t_val (s_call (takes_of rfl rfl rfl rfl) rfl F.m__law_deep_right ih._law_deep_right (hr.mono (le n)) (a_cons (s_var 1) a_nil)))) (sb_one (ss_ret s_bl)) sb_nil) (sb_cons (ss_forI fu (passes_of rfl) rfl (i_range1 rfl F.n_range (a_cons s_int a_nil)) (g_name nd rfl (by first | exact .inl rfl | exact .inr rfl)) (sb_cons (ss_set 3 nd rfl (by first | exact .inl rfl | exact .inr rfl) (s_call (takes_of rfl rfl rfl rfl) rfl F.m__law_paper_words ih._law_paper_words (hr.mono (le n)) (a_cons (s_var 1) (a_cons s_int a_nil)))) (sb_cons (ss_par 4 5 rfl nd rfl rfl (by decide) rfl rfl (a_cons (s_call (takes_of rfl rfl rfl rfl) rfl F.m__law_draw ih._law_draw (hr.mono (le n)) (a_cons (s_var 1) (a_cons (s_callB (c_len rfl) rfl F.n_len bt_len (a_cons (s_var 3) a_nil)) a_nil))) (a_cons (s_call (takes_of rfl rfl rfl rfl) rfl F.m__law_draw ih._law_draw (hr.mono (le n)) (a_cons (s_var 1) (a_cons s_int a_nil))) a_nil))) (sb_cons (ss_set 6 nd rfl (by first | exact .inl rfl | exact .inr rfl) (s_call (takes_of rfl rfl rfl rfl) rfl F.m__law_one ih._law_one (hr.mono (le n)) (a_cons (s_var 1) (a_cons (s_lst (a_cons (s_str rfl (okS_by rfl)) (a_cons (s_str rfl (okS_by rfl)) (a_cons (s_str rfl (okS_by rfl)) (a_cons (s_str rfl (okS_by rfl)) (a_cons (s_str rfl (okS_by rfl)) (a_cons (s_str rfl (okS_by rfl)) (a_cons (s_str rfl (okS_by rfl)) (a_cons (s_str rfl (okS_by rfl)) (a_cons (s_str rfl (okS_by rfl)) (a_cons (s_str rfl (okS_by rfl)) (a_cons (s_str rfl (okS_by rfl)) (a_cons (s_str rfl (okS_by rfl)) (a_cons (s_str rfl (okS_by rfl)) (a_cons (s_str rfl (okS_by rfl)) (a_cons (s_str rfl (okS_by rfl)) (a_cons (s_str rfl (okS_by rfl)) (a_cons (s_bin (o_mul) (s_str rfl (okS_by rfl)) s_int) (a_cons (s_bin (o_mul) (s_str rfl (okS_by rfl)) s_int) (a_cons (s_bin (o_mul) (s_str rfl (okS_by rfl)) s_int) (a_cons (s_bin (o_mul) (s_str rfl (okS_by rfl)) s_int) (a_cons (s_str rfl (okS_by rfl)) a_nil)))))))))))))))))))))) a_nil)))) (sb_cons (ss_if (t_cmp (o_eq rfl hr.units) (s_var 5) s_int rfl) (sb_one (ss_set 3 nd rfl (by first | exact .inl rfl | exact .inr rfl) (s_bin (o_add rfl) (s_slice rfl (s_var 3) p_none (p_some (s_var 4))) (s_slice rfl (s_var 3) (p_some (s_bin (o_add rfl) (s_var 4) s_int)) p_none)))) (sb_one (ss_if (t_cmp (o_eq rfl hr.units) (s_var 5) s_int rfl) (sb_one (ss_set 3 nd rfl (by first | exact .inl rfl | exact .inr rfl) (s_bin (o_add rfl) (s_bin (o_add rfl) (s_slice rfl (s_var 3) p_none (p_some (s_var 4))) (s_lst (a_cons (s_var 6) a_nil))) (s_slice rfl (s_var 3) (p_some (s_var 4)) p_none)))) (sb_one (ss_if (t_cmp (o_eq rfl hr.units) (s_var 5) s_int rfl) (sb_one (ss_set 3 nd rfl (by first | exact .inl rfl | exact .inr rfl) (s_bin (o_add rfl) (s_bin (o_add rfl) (s_slice rfl (s_var 3) p_none (p_some (s_var 4))) (s_lst (a_cons (s_var 6) a_nil))) (s_slice rfl (s_var 3) (p_some (s_bin (o_add rfl) (s_var 4) s_int)) p_none)))) (sb_one (ss_if (t_cmp (o_eq rfl hr.units) (s_var 5) s_int rfl) (sb_one (ss_set 3 nd rfl (by first | exact .inl rfl | exact .inr rfl) (s_slice rfl (s_var 3) p_none (p_some (s_var 4))))) (sb_one (ss_if (t_cmp (o_eq rfl hr.units) (s_var 5) s_int rfl) (sb_one (ss_set 3 nd rfl (by first | exact .inl rfl | exact .inr rfl) (s_bin (o_add rfl) (s_var 3) (s_lst (a_cons (s_var 6) a_nil))))) sb_nil))))))))) (sb_cons (ss_set 3 nd rfl (by first | exact .inl rfl | exact .inr rfl) (s_if (t_cmp (o_ne rfl hr.units) (s_var 3) (s_lst a_nil) rfl) (s_var 3) (s_lst (a_cons (s_str rfl (okS_by rfl)) a_nil)))) (sb_cons (ss_asg (s_tup (a_cons (s_bm ty_str (m_join rfl) PySem.F.plainAttrs_str PySem.F.slot_str_join PySem.F.type_str_join (s_str rfl (okS_by rfl)) (a_cons (s_var 3) a_nil)) (a_cons (s_call (takes_of rfl rfl rfl rfl) rfl F.m__law_fault ih._law_fault (hr.mono (le n)) (a_cons (s_var 3) a_nil)) a_nil))) (g_tup rfl rfl (gs_cons (g_name nd rfl (by first | exact .inl rfl | exact .inr rfl)) (gs_cons (g_name nd rfl (by first | exact .inl rfl | exact .inr rfl)) gs_nil)))) (sb_cons (ss_set 9 nd rfl (by first | exact .inl rfl | exact .inr rfl) (s_said FG bSaid sc__law_said F.saidN F.saidT rfl F.m__law_said F.tb_law rfl F.tm_law F.tu_law (hr.mono (le5 n)) (LamX.lamS_by rfl) rfl (fun _ _ _ _ _ => rfl) (fun A outer s H E f c' hr => (s_call (takes_of rfl rfl rfl rfl) rfl F.m_read_paper ih.read_paper (hr.mono (le0 n)) (a_cons (s_var 7) a_nil))))) (sb_one (ss_if (L2.PW.pt (w_or (t_cmp (o_ne rfl hr.units) (s_var 9) (s_if (t_cmp (o_notN) (s_var 8) s_non rfl) (s_tup (a_cons (s_str rfl (okS_by rfl)) (a_cons s_int (a_cons (s_var 8) a_nil)))) s_non) rfl) (w_or1 (L2.PW.pt (w_and (t_cmp (o_isN) (s_var 8) s_non rfl) (w_and1 (t_cmp (o_ne rfl hr.units) (s_call (takes_of rfl rfl rfl rfl) rfl F.m_paper_text ih.paper_text (hr.mono (le n)) (a_cons (s_call (takes_of rfl rfl rfl rfl) rfl F.m_read_paper ih.read_paper (hr.mono (le n)) (a_cons (s_var 7) a_nil)) a_nil)) (s_var 7) rfl))))))) (sb_one (ss_ret s_bl)) sb_nil)))))))))) (sb_one (ss_ret s_bl)))))
theorem ok_law {n : Nat} (F : Fx w K mg base) (ih : Ih w K mg base n) : Fn prg w K mg base (Gw K) (3 * (n + 1) + 3) (He.ga K "law") (fam (n + 1) 42) := by
  obtain ⟨fd, FD, hcd⟩ := F.d_law
  exact ⟨⟨fd, ["script"], okD_law F ih FD hcd, FD.bindsN fun _ _ _ _ _ _ us hl => match us, hl with | [_], _ => rfl⟩, FD.kp⟩
theorem ih_all (F : Fx w K mg base) : ∀ n, Ih w K mg base n
  | 0 => by
    have h0 : Fn prg w K mg base (Gw K) 3 (He.ga K "is_integer") (fam 0 0) := by
      obtain ⟨fd, FD⟩ := F.d_is_integer
      exact fn_no (ps := ["value"]) FD (FD.bindsN fun _ _ _ _ _ _ us hl => match us, hl with | [_], _ => rfl)
    have h1 : Fn prg w K mg base (Gw K) 3 (He.ga K "kept") (fam 0 1) := by
      obtain ⟨fd, FD⟩ := F.d_kept
      exact fn_no (ps := ["value"]) FD (FD.bindsN fun _ _ _ _ _ _ us hl => match us, hl with | [_], _ => rfl)
    have h2 : FnS prg w K mg base (Gw K) 3 (He.ma K (He.ga K "Paper") "__init__") (starF 1 (fam 0 2)) := fnS_starNo
    have h3 : Fn prg w K mg base (Gw K) 3 (He.ma K (He.ga K "Form") "__init__") (fam 0 3) := by
      obtain ⟨_, _, fd, F1, b, kp⟩ := F.d_Form_init
      exact fn_no' b kp
    have h4 : Fn prg w K mg base (Gw K) 3 (He.ma K (He.ga K "Alike") "__init__") (fam 0 4) := by
      obtain ⟨_, _, fd, F1, b, kp⟩ := F.d_Alike_init
      exact fn_no' b kp
    have h5 : Fn prg w K mg base (Gw K) 3 (He.ma K (He.ga K "Unlike") "__init__") (fam 0 5) := by
      obtain ⟨_, _, fd, F1, b, kp⟩ := F.d_Unlike_init
      exact fn_no' b kp
    have h6 : Fn prg w K mg base (Gw K) 3 (He.ma K (He.ga K "Enough") "__init__") (fam 0 6) := by
      obtain ⟨_, _, fd, F1, b, kp⟩ := F.d_Enough_init
      exact fn_no' b kp
    have h7 : Fn prg w K mg base (Gw K) 3 (He.ma K (He.ga K "Misses") "__init__") (fam 0 7) := by
      obtain ⟨_, _, fd, F1, b, kp⟩ := F.d_Misses_init
      exact fn_no' b kp
    have h8 : Fn prg w K mg base (Gw K) 3 (He.ma K (He.ga K "Matters") "__init__") (fam 0 8) := by
      obtain ⟨_, _, fd, F1, b, kp⟩ := F.d_Matters_init
      exact fn_no' b kp
    have h9 : Fn prg w K mg base (Gw K) 3 (He.ma K (He.ga K "Mends") "__init__") (fam 0 9) := by
      obtain ⟨_, _, fd, F1, b, kp⟩ := F.d_Mends_init
      exact fn_no' b kp
    have h10 : Fn prg w K mg base (Gw K) 3 (He.ma K (He.ga K "Unmended") "__init__") (fam 0 10) := by
      obtain ⟨_, _, fd, F1, b, kp⟩ := F.d_Unmended_init
      exact fn_no' b kp
    have h11 : Fn prg w K mg base (Gw K) 3 (He.ma K (He.ga K "Spares") "__init__") (fam 0 11) := by
      obtain ⟨_, _, fd, F1, b, kp⟩ := F.d_Spares_init
      exact fn_no' b kp
    have h12 : Fn prg w K mg base (Gw K) 3 (He.ma K (He.ga K "Total") "__init__") (fam 0 12) := by
      obtain ⟨_, _, fd, F1, b, kp⟩ := F.d_Total_init
      exact fn_no' b kp
    have h13 : Fn prg w K mg base (Gw K) 3 (He.ma K (He.ga K "Untrue") "__init__") (fam 0 13) := by
      obtain ⟨_, _, fd, F1, b, kp⟩ := F.d_Untrue_init
      exact fn_no' b kp
    have h14 : Fn prg w K mg base (Gw K) 3 (He.ma K (He.ga K "Passed") "__init__") (fam 0 14) := by
      obtain ⟨_, _, fd, F1, b, kp⟩ := F.d_Passed_init
      exact fn_no' b kp
    have h15 : Fn prg w K mg base (Gw K) 3 (He.ma K (He.ga K "Failed") "__init__") (fam 0 15) := by
      obtain ⟨_, _, fd, F1, b, kp⟩ := F.d_Failed_init
      exact fn_no' b kp
    have h16 : Fn prg w K mg base (Gw K) 3 (He.ga K "is_word") (fam 0 16) := by
      obtain ⟨fd, FD⟩ := F.d_is_word
      exact fn_no (ps := ["value"]) FD (FD.bindsN fun _ _ _ _ _ _ us hl => match us, hl with | [_], _ => rfl)
    have h17 : Fn prg w K mg base (Gw K) 3 (He.ga K "is_kind") (fam 0 17) := by
      obtain ⟨fd, FD⟩ := F.d_is_kind
      exact fn_no (ps := ["value"]) FD (FD.bindsN fun _ _ _ _ _ _ us hl => match us, hl with | [_], _ => rfl)
    have h18 : Fn prg w K mg base (Gw K) 3 (He.ga K "words_of") (fam 0 18) := by
      obtain ⟨fd, FD⟩ := F.d_words_of
      exact fn_no (ps := ["value", "deep"]) FD (FD.bindsN fun _ _ _ _ _ _ us hl => match us, hl with | [_, _], _ => rfl)
    have h19 : Fn prg w K mg base (Gw K) 3 (He.ga K "paper_text") (fam 0 19) := by
      obtain ⟨fd, FD⟩ := F.d_paper_text
      exact fn_no (ps := ["paper"]) FD (FD.bindsN fun _ _ _ _ _ _ us hl => match us, hl with | [_], _ => rfl)
    have h20 : Fn prg w K mg base (Gw K) 3 (He.ga K "made_of") (fam 0 20) := by
      obtain ⟨fd, FD⟩ := F.d_made_of
      exact fn_no (ps := ["word", "told"]) FD (FD.bindsN fun _ _ _ _ _ _ us hl => match us, hl with | [_, _], _ => rfl)
    have h21 : Fn prg w K mg base (Gw K) 3 (He.ma K (He.ga K "Opened") "__init__") (fam 0 21) := by
      obtain ⟨fd, FD⟩ := F.d_Opened_init
      exact fn_no (ps := ["self", "word"]) FD (FD.bindsN fun _ _ _ _ _ _ us hl => match us, hl with | [_, _], _ => rfl)
    have h22 : Fn prg w K mg base (Gw K) 3 (He.ma K (He.ga K "Opened") "is_full") (fam 0 22) := by
      obtain ⟨fd, FD⟩ := F.d_Opened_is_full
      exact fn_no (ps := ["self"]) FD (FD.bindsN fun _ _ _ _ _ _ us hl => match us, hl with | [_], _ => rfl)
    have h23 : Fn prg w K mg base (Gw K) 3 (He.ma K (He.ga K "Opened") "made") (fam 0 23) := by
      obtain ⟨fd, FD⟩ := F.d_Opened_made
      exact fn_no (ps := ["self"]) FD (FD.bindsN fun _ _ _ _ _ _ us hl => match us, hl with | [_], _ => rfl)
    have h24 : Fn prg w K mg base (Gw K) 3 (He.ga K "number_of") (fam 0 24) := by
      obtain ⟨fd, FD⟩ := F.d_number_of
      exact fn_no (ps := ["word"]) FD (FD.bindsN fun _ _ _ _ _ _ us hl => match us, hl with | [_], _ => rfl)
    have h25 : Fn prg w K mg base (Gw K) 3 (He.ga K "plain_of") (fam 0 25) := by
      obtain ⟨fd, FD⟩ := F.d_plain_of
      exact fn_no (ps := ["word"]) FD (FD.bindsN fun _ _ _ _ _ _ us hl => match us, hl with | [_], _ => rfl)
    have h26 : Fn prg w K mg base (Gw K) 3 (He.ma K (He.ga K "Reading") "__init__") (fam 0 26) := by
      obtain ⟨fd, FD⟩ := F.d_Reading_init
      exact fn_no (ps := ["self", "words", "line", "first"]) FD (FD.bindsN fun _ _ _ _ _ _ us hl => match us, hl with | [_, _, _, _], _ => rfl)
    have h27 : Fn prg w K mg base (Gw K) 3 (He.ma K (He.ga K "Reading") "stop") (fam 0 27) := by
      obtain ⟨fd, FD⟩ := F.d_Reading_stop
      exact fn_no (ps := ["self"]) FD (FD.bindsN fun _ _ _ _ _ _ us hl => match us, hl with | [_], _ => rfl)
    have h28 : Fn prg w K mg base (Gw K) 3 (He.ma K (He.ga K "Reading") "begin") (fam 0 28) := by
      obtain ⟨fd, FD⟩ := F.d_Reading_begin
      exact fn_no (ps := ["self"]) FD (FD.bindsN fun _ _ _ _ _ _ us hl => match us, hl with | [_], _ => rfl)
    have h29 : Fn prg w K mg base (Gw K) 3 (He.ma K (He.ga K "Reading") "put") (fam 0 29) := by
      obtain ⟨fd, FD⟩ := F.d_Reading_put
      exact fn_no (ps := ["self", "value"]) FD (FD.bindsN fun _ _ _ _ _ _ us hl => match us, hl with | [_, _], _ => rfl)
    have h30 : Fn prg w K mg base (Gw K) 3 (He.ma K (He.ga K "Reading") "end") (fam 0 30) := by
      obtain ⟨fd, FD⟩ := F.d_Reading_end
      exact fn_no (ps := ["self"]) FD (FD.bindsN fun _ _ _ _ _ _ us hl => match us, hl with | [_], _ => rfl)
    have h31 : Fn prg w K mg base (Gw K) 3 (He.ma K (He.ga K "Reading") "whole") (fam 0 31) := by
      obtain ⟨fd, FD⟩ := F.d_Reading_whole
      exact fn_no (ps := ["self"]) FD (FD.bindsN fun _ _ _ _ _ _ us hl => match us, hl with | [_], _ => rfl)
    have h32 : Fn prg w K mg base (Gw K) 3 (He.ga K "read_paper") (fam 0 32) := by
      obtain ⟨fd, FD⟩ := F.d_read_paper
      exact fn_no (ps := ["text"]) FD (FD.bindsN fun _ _ _ _ _ _ us hl => match us, hl with | [_], _ => rfl)
    have h33 : Fn prg w K mg base (Gw K) 3 (He.ga K "_law_well") (fam 0 33) := by
      obtain ⟨fd, FD⟩ := F.d__law_well
      exact fn_no (ps := ["script"]) FD (FD.bindsN fun _ _ _ _ _ _ us hl => match us, hl with | [_], _ => rfl)
    have h34 : Fn prg w K mg base (Gw K) 3 (He.ga K "_law_draw") (fam 0 34) := by
      obtain ⟨fd, FD⟩ := F.d__law_draw
      exact fn_no (ps := ["well", "many"]) FD (FD.bindsN fun _ _ _ _ _ _ us hl => match us, hl with | [_, _], _ => rfl)
    have h35 : Fn prg w K mg base (Gw K) 3 (He.ga K "_law_one") (fam 0 35) := by
      obtain ⟨fd, FD⟩ := F.d__law_one
      exact fn_no (ps := ["well", "some"]) FD (FD.bindsN fun _ _ _ _ _ _ us hl => match us, hl with | [_, _], _ => rfl)
    have h36 : Fn prg w K mg base (Gw K) 3 (He.ga K "_law_sizes") (fam 0 36) := by
      obtain ⟨fd, FD⟩ := F.d__law_sizes
      exact fn_no (ps := []) FD (FD.bindsN fun _ _ _ _ _ _ us hl => match us, hl with | [], _ => rfl)
    have h37 : Fn prg w K mg base (Gw K) 3 (He.ga K "_law_is_plain") (fam 0 37) := by
      obtain ⟨fd, FD⟩ := F.d__law_is_plain
      exact fn_no (ps := ["word"]) FD (FD.bindsN fun _ _ _ _ _ _ us hl => match us, hl with | [_], _ => rfl)
    have h38 : Fn prg w K mg base (Gw K) 3 (He.ga K "_law_fault") (fam 0 38) := by
      obtain ⟨fd, FD⟩ := F.d__law_fault
      exact fn_no (ps := ["words"]) FD (FD.bindsN fun _ _ _ _ _ _ us hl => match us, hl with | [_], _ => rfl)
    have h39 : Fn prg w K mg base (Gw K) 3 (He.ga K "_law_words") (fam 0 39) := by
      obtain ⟨fd, FD⟩ := F.d__law_words
      exact fn_no (ps := ["well", "deep"]) FD (FD.bindsN fun _ _ _ _ _ _ us hl => match us, hl with | [_, _], _ => rfl)
    have h40 : Fn prg w K mg base (Gw K) 3 (He.ga K "_law_paper_words") (fam 0 40) := by
      obtain ⟨fd, FD⟩ := F.d__law_paper_words
      exact fn_no (ps := ["well", "deep"]) FD (FD.bindsN fun _ _ _ _ _ _ us hl => match us, hl with | [_, _], _ => rfl)
    have h41 : Fn prg w K mg base (Gw K) 3 (He.ga K "_law_deep_right") (fam 0 41) := by
      obtain ⟨fd, FD, _⟩ := F.d__law_deep_right
      exact fn_no (ps := ["well"]) FD (FD.bindsN fun _ _ _ _ _ _ us hl => match us, hl with | [_], _ => rfl)
    have h42 : Fn prg w K mg base (Gw K) 3 (He.ga K "law") (fam 0 42) := by
      obtain ⟨fd, FD, _⟩ := F.d_law
      exact fn_no (ps := ["script"]) FD (FD.bindsN fun _ _ _ _ _ _ us hl => match us, hl with | [_], _ => rfl)
    exact ⟨h0, h1, h2, h3, h4, h5, h6, h7, h8, h9, h10, h11, h12, h13, h14, h15, h16, h17, h18, h19, h20, h21, h22, h23, h24, h25, h26, h27, h28, h29, h30, h31, h32, h33, h34, h35, h36, h37, h38, h39, h40, h41, h42⟩
  | n + 1 => by
    have ih := ih_all F n
    exact ⟨ok_is_integer F ih, ok_kept F ih, ok_Paper_init F ih, ok_Form_init F ih, ok_Alike_init F ih, ok_Unlike_init F ih, ok_Enough_init F ih, ok_Misses_init F ih, ok_Matters_init F ih, ok_Mends_init F ih, ok_Unmended_init F ih, ok_Spares_init F ih, ok_Total_init F ih, ok_Untrue_init F ih, ok_Passed_init F ih, ok_Failed_init F ih, ok_is_word F ih, ok_is_kind F ih, ok_words_of F ih, ok_paper_text F ih, ok_made_of F ih, ok_Opened_init F ih, ok_Opened_is_full F ih, ok_Opened_made F ih, ok_number_of F ih, ok_plain_of F ih, ok_Reading_init F ih, ok_Reading_stop F ih, ok_Reading_begin F ih, ok_Reading_put F ih, ok_Reading_end F ih, ok_Reading_whole F ih, ok_read_paper F ih, ok__law_well F ih, ok__law_draw F ih, ok__law_one F ih, ok__law_sizes F ih, ok__law_is_plain F ih, ok__law_fault F ih, ok__law_words F ih, ok__law_paper_words F ih, ok__law_deep_right F ih, ok_law F ih⟩
end
end K89
set_option Elab.async false
set_option linter.all false
set_option maxRecDepth 100000
set_option maxHeartbeats 0
/-! The head's facts, printed by gen_law.py. -/
namespace K89
open PySem PySem.Spec PyProof.Rows L2 Sm
open PySem.W (ksEnv ksFn)
def D_is_integer : He.DefD := ⟨("is_integer", none), "is_integer", "is_integer", defArgs (top 1), defBody (top 1), defScope (top 1), [], []⟩
def D_kept : He.DefD := ⟨("kept", none), "kept", "kept", defArgs (top 15), defBody (top 15), defScope (top 15), [], []⟩
def D_Paper_init : He.DefD := ⟨("Paper", some "__init__"), "__init__", "Paper.__init__", defArgs (meth 16 0), defBody (meth 16 0), defScope (meth 16 0), [], []⟩
def D_is_word : He.DefD := ⟨("is_word", none), "is_word", "is_word", defArgs (top 48), defBody (top 48), defScope (top 48), [], []⟩
def D_is_kind : He.DefD := ⟨("is_kind", none), "is_kind", "is_kind", defArgs (top 49), defBody (top 49), defScope (top 49), [], []⟩
def D_words_of : He.DefD := ⟨("words_of", none), "words_of", "words_of", defArgs (top 50), defBody (top 50), defScope (top 50), [], []⟩
def D_paper_text : He.DefD := ⟨("paper_text", none), "paper_text", "paper_text", defArgs (top 51), defBody (top 51), defScope (top 51), [], []⟩
def D_made_of : He.DefD := ⟨("made_of", none), "made_of", "made_of", defArgs (top 52), defBody (top 52), defScope (top 52), [], []⟩
def D_Opened_init : He.DefD := ⟨("Opened", some "__init__"), "__init__", "Opened.__init__", defArgs (meth 53 0), defBody (meth 53 0), defScope (meth 53 0), [], []⟩
def D_Opened_is_full : He.DefD := ⟨("Opened", some "is_full"), "is_full", "Opened.is_full", defArgs (meth 53 1), defBody (meth 53 1), defScope (meth 53 1), [], []⟩
def D_Opened_made : He.DefD := ⟨("Opened", some "made"), "made", "Opened.made", defArgs (meth 53 2), defBody (meth 53 2), defScope (meth 53 2), [], []⟩
def D_number_of : He.DefD := ⟨("number_of", none), "number_of", "number_of", defArgs (top 54), defBody (top 54), defScope (top 54), [], []⟩
def D_plain_of : He.DefD := ⟨("plain_of", none), "plain_of", "plain_of", defArgs (top 55), defBody (top 55), defScope (top 55), [], []⟩
def D_Reading_init : He.DefD := ⟨("Reading", some "__init__"), "__init__", "Reading.__init__", defArgs (meth 56 0), defBody (meth 56 0), defScope (meth 56 0), [], []⟩
def D_Reading_stop : He.DefD := ⟨("Reading", some "stop"), "stop", "Reading.stop", defArgs (meth 56 1), defBody (meth 56 1), defScope (meth 56 1), [], []⟩
def D_Reading_begin : He.DefD := ⟨("Reading", some "begin"), "begin", "Reading.begin", defArgs (meth 56 2), defBody (meth 56 2), defScope (meth 56 2), [], []⟩
def D_Reading_put : He.DefD := ⟨("Reading", some "put"), "put", "Reading.put", defArgs (meth 56 3), defBody (meth 56 3), defScope (meth 56 3), [], []⟩
def D_Reading_end : He.DefD := ⟨("Reading", some "end"), "end", "Reading.end", defArgs (meth 56 4), defBody (meth 56 4), defScope (meth 56 4), [], []⟩
def D_Reading_whole : He.DefD := ⟨("Reading", some "whole"), "whole", "Reading.whole", defArgs (meth 56 5), defBody (meth 56 5), defScope (meth 56 5), [], []⟩
def D_read_paper : He.DefD := ⟨("read_paper", none), "read_paper", "read_paper", defArgs (top 57), defBody (top 57), defScope (top 57), [], []⟩
def D__law_well : He.DefD := ⟨("_law_well", none), "_law_well", "_law_well", defArgs (top 59), defBody (top 59), defScope (top 59), [], []⟩
def D__law_draw : He.DefD := ⟨("_law_draw", none), "_law_draw", "_law_draw", defArgs (top 60), defBody (top 60), defScope (top 60), [], []⟩
def D__law_one : He.DefD := ⟨("_law_one", none), "_law_one", "_law_one", defArgs (top 61), defBody (top 61), defScope (top 61), [], []⟩
def D__law_said : He.DefD := ⟨("_law_said", none), "_law_said", "_law_said", defArgs (top 62), defBody (top 62), defScope (top 62), [], []⟩
def D__law_sizes : He.DefD := ⟨("_law_sizes", none), "_law_sizes", "_law_sizes", defArgs (top 63), defBody (top 63), defScope (top 63), [], []⟩
def D__law_is_plain : He.DefD := ⟨("_law_is_plain", none), "_law_is_plain", "_law_is_plain", defArgs (top 64), defBody (top 64), defScope (top 64), [], []⟩
def D__law_fault : He.DefD := ⟨("_law_fault", none), "_law_fault", "_law_fault", defArgs (top 65), defBody (top 65), defScope (top 65), [], []⟩
def D__law_words : He.DefD := ⟨("_law_words", none), "_law_words", "_law_words", defArgs (top 66), defBody (top 66), defScope (top 66), [], []⟩
def D__law_paper_words : He.DefD := ⟨("_law_paper_words", none), "_law_paper_words", "_law_paper_words", defArgs (top 67), defBody (top 67), defScope (top 67), [], []⟩
def D__law_deep_right : He.DefD := ⟨("_law_deep_right", none), "_law_deep_right", "_law_deep_right", defArgs (top 68), defBody (top 68), defScope (top 68), [], []⟩
def D_law : He.DefD := ⟨("law", none), "law", "law", defArgs (top 69), defBody (top 69), defScope (top 69), [], []⟩
def Q_PartError_init : SupDf := ⟨("PartError", some "__init__"), "__init__", "PartError.__init__", defArgs (meth 4 0), defBody (meth 4 0), defScope (meth 4 0), "PartError"⟩
def Q_NoName_init : SupDf := ⟨("NoName", some "__init__"), "__init__", "NoName.__init__", defArgs (meth 8 0), defBody (meth 8 0), defScope (meth 8 0), "NoName"⟩
def Q_Misfit_init : SupDf := ⟨("Misfit", some "__init__"), "__init__", "Misfit.__init__", defArgs (meth 9 0), defBody (meth 9 0), defScope (meth 9 0), "Misfit"⟩
def Q_BadText_init : SupDf := ⟨("BadText", some "__init__"), "__init__", "BadText.__init__", defArgs (meth 10 0), defBody (meth 10 0), defScope (meth 10 0), "BadText"⟩
def Q_BadCommand_init : SupDf := ⟨("BadCommand", some "__init__"), "__init__", "BadCommand.__init__", defArgs (meth 11 0), defBody (meth 11 0), defScope (meth 11 0), "BadCommand"⟩
def Q_TooMany_init : SupDf := ⟨("TooMany", some "__init__"), "__init__", "TooMany.__init__", defArgs (meth 13 0), defBody (meth 13 0), defScope (meth 13 0), "TooMany"⟩
def Q_Form_init : SupDf := ⟨("Form", some "__init__"), "__init__", "Form.__init__", defArgs (meth 19 0), defBody (meth 19 0), defScope (meth 19 0), "Form"⟩
def Q_Alike_init : SupDf := ⟨("Alike", some "__init__"), "__init__", "Alike.__init__", defArgs (meth 21 0), defBody (meth 21 0), defScope (meth 21 0), "Alike"⟩
def Q_Unlike_init : SupDf := ⟨("Unlike", some "__init__"), "__init__", "Unlike.__init__", defArgs (meth 22 0), defBody (meth 22 0), defScope (meth 22 0), "Unlike"⟩
def Q_Enough_init : SupDf := ⟨("Enough", some "__init__"), "__init__", "Enough.__init__", defArgs (meth 24 0), defBody (meth 24 0), defScope (meth 24 0), "Enough"⟩
def Q_Misses_init : SupDf := ⟨("Misses", some "__init__"), "__init__", "Misses.__init__", defArgs (meth 25 0), defBody (meth 25 0), defScope (meth 25 0), "Misses"⟩
def Q_Matters_init : SupDf := ⟨("Matters", some "__init__"), "__init__", "Matters.__init__", defArgs (meth 27 0), defBody (meth 27 0), defScope (meth 27 0), "Matters"⟩
def Q_Mends_init : SupDf := ⟨("Mends", some "__init__"), "__init__", "Mends.__init__", defArgs (meth 29 0), defBody (meth 29 0), defScope (meth 29 0), "Mends"⟩
def Q_Unmended_init : SupDf := ⟨("Unmended", some "__init__"), "__init__", "Unmended.__init__", defArgs (meth 30 0), defBody (meth 30 0), defScope (meth 30 0), "Unmended"⟩
def Q_Spares_init : SupDf := ⟨("Spares", some "__init__"), "__init__", "Spares.__init__", defArgs (meth 32 0), defBody (meth 32 0), defScope (meth 32 0), "Spares"⟩
def Q_Total_init : SupDf := ⟨("Total", some "__init__"), "__init__", "Total.__init__", defArgs (meth 34 0), defBody (meth 34 0), defScope (meth 34 0), "Total"⟩
def Q_Untrue_init : SupDf := ⟨("Untrue", some "__init__"), "__init__", "Untrue.__init__", defArgs (meth 35 0), defBody (meth 35 0), defScope (meth 35 0), "Untrue"⟩
def Q_Passed_init : SupDf := ⟨("Passed", some "__init__"), "__init__", "Passed.__init__", defArgs (meth 37 0), defBody (meth 37 0), defScope (meth 37 0), "Passed"⟩
def Q_Failed_init : SupDf := ⟨("Failed", some "__init__"), "__init__", "Failed.__init__", defArgs (meth 38 0), defBody (meth 38 0), defScope (meth 38 0), "Failed"⟩
def fn : List He.DefD := [D_is_integer, D_kept, D_Paper_init, D_is_word, D_is_kind, D_words_of, D_paper_text, D_made_of, D_Opened_init, D_Opened_is_full, D_Opened_made, D_number_of, D_plain_of, D_Reading_init, D_Reading_stop, D_Reading_begin, D_Reading_put, D_Reading_end, D_Reading_whole, D_read_paper, D__law_well, D__law_draw, D__law_one, D__law_said, D__law_sizes, D__law_is_plain, D__law_fault, D__law_words, D__law_paper_words, D__law_deep_right, D_law]
def sd : List SupDf := [Q_PartError_init, Q_NoName_init, Q_Misfit_init, Q_BadText_init, Q_BadCommand_init, Q_TooMany_init, Q_Form_init, Q_Alike_init, Q_Unlike_init, Q_Enough_init, Q_Misses_init, Q_Matters_init, Q_Mends_init, Q_Unmended_init, Q_Spares_init, Q_Total_init, Q_Untrue_init, Q_Passed_init, Q_Failed_init]
def fa : List He.Fa := [.free "super", .glo "SheetError", .glo "TooMany", .glo "BadCommand", .glo "NoName", .glo "Misfit", .glo "Nothing", .glo "law", .free "int", .free "isinstance", .free "bool", .free "list", .free "tuple", .glo "kept", .free "type", .noat "Failed" "word", .noat "Passed" "word", .noat "Untrue" "word", .noat "Total" "word", .noat "Spares" "word", .noat "Unmended" "word", .noat "Mends" "word", .noat "Matters" "word", .noat "Misses" "word", .noat "Enough" "word", .noat "Unlike" "word", .noat "Alike" "word", .noat "Form" "word", .noat "Failed" "parts", .noat "Passed" "parts", .noat "Untrue" "parts", .noat "Total" "parts", .noat "Spares" "parts", .noat "Unmended" "parts", .noat "Mends" "parts", .noat "Matters" "parts", .noat "Misses" "parts", .noat "Enough" "parts", .noat "Unlike" "parts", .noat "Alike" "parts", .noat "Form" "parts", .noat "Form" "terms", .noat "Form" "needs", .noat "Alike" "form", .noat "Unlike" "script", .noat "Enough" "rows", .noat "Misses" "script", .noat "Misses" "target", .noat "Misses" "source", .noat "Matters" "idle", .noat "Matters" "rows", .noat "Mends" "rows", .noat "Unmended" "script", .noat "Spares" "lots", .noat "Total" "form", .noat "Untrue" "rows", .noat "Passed" "scripts", .noat "Failed" "script", .free "str", .free "len", .int "MOST_SIGNS" 100, .str "LETTERS" "abcdefghijklmnopqrstuvwxyz", .str "SIGNS" "abcdefghijklmnopqrstuvwxyz0123456789.", .free "all", .glo "Paper", .glo "SIZES", .str "NOTHING" "-", .glo "is_integer", .free "abs", .int "MOST_DIGITS" 400, .glo "is_word", .glo "words_of", .glo "is_kind", .int "MOST_DEEP" 20, .glo "BadValue", .glo "Alike", .cls "Alike", .mkr "Alike", .glo "Unlike", .cls "Unlike", .mkr "Unlike", .glo "Passed", .cls "Passed", .mkr "Passed", .glo "Failed", .cls "Failed", .mkr "Failed", .glo "Total", .cls "Total", .mkr "Total", .glo "Untrue", .cls "Untrue", .mkr "Untrue", .glo "Mends", .cls "Mends", .mkr "Mends", .glo "Unmended", .cls "Unmended", .mkr "Unmended", .glo "Spares", .cls "Spares", .mkr "Spares", .glo "Enough", .cls "Enough", .mkr "Enough", .glo "Misses", .cls "Misses", .mkr "Misses", .glo "Form", .cls "Form", .mkr "Form", .glo "Matters", .cls "Matters", .mkr "Matters", .noat "Opened" "word", .noat "Opened" "told", .glo "made_of", .str "DIGITS" "0123456789", .glo "number_of", .noat "Reading" "words", .noat "Reading" "line", .noat "Reading" "at", .noat "Reading" "begun", .glo "BadText", .cls "Reading", .meth "Reading" "stop", .glo "Opened", .cls "Opened", .mkr "Opened", .meth "Opened" "is_full", .meth "Opened" "made", .meth "Reading" "put", .meth "Reading" "begin", .meth "Reading" "end", .glo "plain_of", .glo "Reading", .mkr "Reading", .meth "Reading" "whole", .free "enumerate", .free "sum", .glo "_law_draw", .glo "_law_sizes", .glo "_law_is_plain", .glo "_law_one", .free "range", .glo "_law_words", .glo "_law_paper_words", .free "sorted", .glo "read_paper", .glo "_law_said", .glo "paper_text", .glo "_law_well", .glo "_law_deep_right", .glo "_law_fault"]
def ts : List He.Tab := [(fun K => He.ga K "SIZES", l_SIZES.map fun p => S p.1)]
def tf : List He.Defn := [("_law_deep_right", none), ("law", none)]
def exs (K : PySem.W.Frag) : List Bool := [He.eqO (PySem.W.nsIn K cStatics "thirdparty.any") (some none),
  Q_PartError_init.ok (prg.main.file : Str) K,
  Q_NoName_init.ok (prg.main.file : Str) K,
  Q_Misfit_init.ok (prg.main.file : Str) K,
  Q_BadText_init.ok (prg.main.file : Str) K,
  Q_BadCommand_init.ok (prg.main.file : Str) K,
  Q_TooMany_init.ok (prg.main.file : Str) K,
  Q_Form_init.ok (prg.main.file : Str) K,
  Q_Alike_init.ok (prg.main.file : Str) K,
  Q_Unlike_init.ok (prg.main.file : Str) K,
  Q_Enough_init.ok (prg.main.file : Str) K,
  Q_Misses_init.ok (prg.main.file : Str) K,
  Q_Matters_init.ok (prg.main.file : Str) K,
  Q_Mends_init.ok (prg.main.file : Str) K,
  Q_Unmended_init.ok (prg.main.file : Str) K,
  Q_Spares_init.ok (prg.main.file : Str) K,
  Q_Total_init.ok (prg.main.file : Str) K,
  Q_Untrue_init.ok (prg.main.file : Str) K,
  Q_Passed_init.ok (prg.main.file : Str) K,
  Q_Failed_init.ok (prg.main.file : Str) K,
  isiB (Gw K) isiC isiD isiT,
  nmsB (Gw K) nmsT,
  He.valsB K (He.ga K "SIZES") (l_SIZES.map fun p => (S p.1, .int p.2)),
  oexB K (He.ga K "BadValue"),
  supXB K (He.ga K "BadValue") (He.ga K "PartError"),
  noneB K (He.ga K "BadValue") ["part"],
  He.eqO (PySem.W.findIn K (.ref (He.ga K "BadValue")) "__init__") (some (some (.ref (He.ma K (He.ga K "PartError") "__init__")))),
  decide (PySem.W.typeIn K (.ref (He.ma K (He.ga K "PartError") "__init__")) = some (.type "function")),
  oexB K (He.ga K "BadText"),
  supXB K (He.ga K "BadText") (He.ga K "BadText"),
  noneB K (He.ga K "BadText") ["line", "word"],
  He.eqO (PySem.W.findIn K (.ref (He.ga K "BadText")) "__init__") (some (some (.ref (He.ma K (He.ga K "BadText") "__init__")))),
  decide (PySem.W.typeIn K (.ref (He.ma K (He.ga K "BadText") "__init__")) = some (.type "function")),
  saidB K (Gw K) (saidA K) saidR,
  supMB K (He.ga K "Form") (He.ga K "Form") "__init__" (He.ma K (He.ga K "Paper") "__init__"),
  supMB K (He.ga K "Alike") (He.ga K "Alike") "__init__" (He.ma K (He.ga K "Paper") "__init__"),
  supMB K (He.ga K "Unlike") (He.ga K "Unlike") "__init__" (He.ma K (He.ga K "Paper") "__init__"),
  supMB K (He.ga K "Enough") (He.ga K "Enough") "__init__" (He.ma K (He.ga K "Paper") "__init__"),
  supMB K (He.ga K "Misses") (He.ga K "Misses") "__init__" (He.ma K (He.ga K "Paper") "__init__"),
  supMB K (He.ga K "Matters") (He.ga K "Matters") "__init__" (He.ma K (He.ga K "Paper") "__init__"),
  supMB K (He.ga K "Mends") (He.ga K "Mends") "__init__" (He.ma K (He.ga K "Paper") "__init__"),
  supMB K (He.ga K "Unmended") (He.ga K "Unmended") "__init__" (He.ma K (He.ga K "Paper") "__init__"),
  supMB K (He.ga K "Spares") (He.ga K "Spares") "__init__" (He.ma K (He.ga K "Paper") "__init__"),
  supMB K (He.ga K "Total") (He.ga K "Total") "__init__" (He.ma K (He.ga K "Paper") "__init__"),
  supMB K (He.ga K "Untrue") (He.ga K "Untrue") "__init__" (He.ma K (He.ga K "Paper") "__init__"),
  supMB K (He.ga K "Passed") (He.ga K "Passed") "__init__" (He.ma K (He.ga K "Paper") "__init__"),
  supMB K (He.ga K "Failed") (He.ga K "Failed") "__init__" (He.ma K (He.ga K "Paper") "__init__"),
  !(Nat.beq (He.cT K ("_law_deep_right", none)).2 (He.cT K ("law", none)).2)]
def ex (K : PySem.W.Frag) : Bool := (exs K).all id
section
variable {w : World} {K : PySem.W.Frag} {h : Heap} {mg : Str → Option Value} {base : Heap}
theorem fx_of (KX : K.In h) (G : h.Ns mainGlobals mg) (c : SaysS fa fn ts tf ex sd w h K) (TB : ∀ p ∈ tf, LamX.TabB base mg (He.cT K p).1 (He.cT K p).2) : Fx w K mg base := by
  have X0 : (exs K).all id = true := c.x.more
  have hsup : mg "super" = none := He.free_ok KX G (c.x.t.d.fact 0 (f := .free "super") rfl)
  have h_d_is_integer : ∃ fd : FuncData, FunD K "is_integer" "is_integer" (defArgs (top 1)) (defBody (top 1)) (defScope (top 1)) [] [] (He.ga K "is_integer") fd := by
    obtain ⟨fd, FD⟩ := c.x.t.d.def_ 0 (d := D_is_integer) rfl
    exact ⟨fd, FD⟩
  have h_d_PartError_init : ∃ (cda cc : Addr) (fd : FuncData), SupF prg K mg "__init__" "PartError.__init__" (defArgs (meth 4 0)) (defBody (meth 4 0)) (defScope (meth 4 0)) ["self", "part"] ["self", "part"] (He.ma K (He.ga K "PartError") "__init__") cda cc (He.ga K "PartError") fd ∧ Binds K fd ["self", "part"] [] ∧ PySem.W.keepIn K (.ref (He.ma K (He.ga K "PartError") "__init__")) = true := by
    obtain ⟨cda, cc, fd, F1, hd, kp⟩ := sup_of (d := Q_PartError_init) (c.at_ 0) (ex_at X0 1) sc_PartError_init ⟨_, rfl, rfl⟩ (by decide +kernel) hsup (He.eqO_ok (ex_at X0 0))
    exact ⟨cda, cc, fd, F1, sup_binds F1 hd fun _ _ _ _ _ us hl => match us, hl with | [_, _], _ => rfl, kp⟩
  have h_d_NoName_init : ∃ (cda cc : Addr) (fd : FuncData), SupF prg K mg "__init__" "NoName.__init__" (defArgs (meth 8 0)) (defBody (meth 8 0)) (defScope (meth 8 0)) ["self", "name"] ["self", "name"] (He.ma K (He.ga K "NoName") "__init__") cda cc (He.ga K "NoName") fd ∧ Binds K fd ["self", "name"] [] ∧ PySem.W.keepIn K (.ref (He.ma K (He.ga K "NoName") "__init__")) = true := by
    obtain ⟨cda, cc, fd, F1, hd, kp⟩ := sup_of (d := Q_NoName_init) (c.at_ 1) (ex_at X0 2) sc_NoName_init ⟨_, rfl, rfl⟩ (by decide +kernel) hsup (He.eqO_ok (ex_at X0 0))
    exact ⟨cda, cc, fd, F1, sup_binds F1 hd fun _ _ _ _ _ us hl => match us, hl with | [_, _], _ => rfl, kp⟩
  have h_d_Misfit_init : ∃ (cda cc : Addr) (fd : FuncData), SupF prg K mg "__init__" "Misfit.__init__" (defArgs (meth 9 0)) (defBody (meth 9 0)) (defScope (meth 9 0)) ["self", "what"] ["self", "what"] (He.ma K (He.ga K "Misfit") "__init__") cda cc (He.ga K "Misfit") fd ∧ Binds K fd ["self", "what"] [] ∧ PySem.W.keepIn K (.ref (He.ma K (He.ga K "Misfit") "__init__")) = true := by
    obtain ⟨cda, cc, fd, F1, hd, kp⟩ := sup_of (d := Q_Misfit_init) (c.at_ 2) (ex_at X0 3) sc_Misfit_init ⟨_, rfl, rfl⟩ (by decide +kernel) hsup (He.eqO_ok (ex_at X0 0))
    exact ⟨cda, cc, fd, F1, sup_binds F1 hd fun _ _ _ _ _ us hl => match us, hl with | [_, _], _ => rfl, kp⟩
  have h_d_BadText_init : ∃ (cda cc : Addr) (fd : FuncData), SupF prg K mg "__init__" "BadText.__init__" (defArgs (meth 10 0)) (defBody (meth 10 0)) (defScope (meth 10 0)) ["self", "line", "word"] ["self", "line", "word"] (He.ma K (He.ga K "BadText") "__init__") cda cc (He.ga K "BadText") fd ∧ Binds K fd ["self", "line", "word"] [] ∧ PySem.W.keepIn K (.ref (He.ma K (He.ga K "BadText") "__init__")) = true := by
    obtain ⟨cda, cc, fd, F1, hd, kp⟩ := sup_of (d := Q_BadText_init) (c.at_ 3) (ex_at X0 4) sc_BadText_init ⟨_, rfl, rfl⟩ (by decide +kernel) hsup (He.eqO_ok (ex_at X0 0))
    exact ⟨cda, cc, fd, F1, sup_binds F1 hd fun _ _ _ _ _ us hl => match us, hl with | [_, _, _], _ => rfl, kp⟩
  have h_d_BadCommand_init : ∃ (cda cc : Addr) (fd : FuncData), SupF prg K mg "__init__" "BadCommand.__init__" (defArgs (meth 11 0)) (defBody (meth 11 0)) (defScope (meth 11 0)) ["self", "word"] ["self", "word"] (He.ma K (He.ga K "BadCommand") "__init__") cda cc (He.ga K "BadCommand") fd ∧ Binds K fd ["self", "word"] [] ∧ PySem.W.keepIn K (.ref (He.ma K (He.ga K "BadCommand") "__init__")) = true := by
    obtain ⟨cda, cc, fd, F1, hd, kp⟩ := sup_of (d := Q_BadCommand_init) (c.at_ 4) (ex_at X0 5) sc_BadCommand_init ⟨_, rfl, rfl⟩ (by decide +kernel) hsup (He.eqO_ok (ex_at X0 0))
    exact ⟨cda, cc, fd, F1, sup_binds F1 hd fun _ _ _ _ _ us hl => match us, hl with | [_, _], _ => rfl, kp⟩
  have h_d_TooMany_init : ∃ (cda cc : Addr) (fd : FuncData), SupF prg K mg "__init__" "TooMany.__init__" (defArgs (meth 13 0)) (defBody (meth 13 0)) (defScope (meth 13 0)) ["self", "what", "most"] ["self", "what", "most"] (He.ma K (He.ga K "TooMany") "__init__") cda cc (He.ga K "TooMany") fd ∧ Binds K fd ["self", "what", "most"] [] ∧ PySem.W.keepIn K (.ref (He.ma K (He.ga K "TooMany") "__init__")) = true := by
    obtain ⟨cda, cc, fd, F1, hd, kp⟩ := sup_of (d := Q_TooMany_init) (c.at_ 5) (ex_at X0 6) sc_TooMany_init ⟨_, rfl, rfl⟩ (by decide +kernel) hsup (He.eqO_ok (ex_at X0 0))
    exact ⟨cda, cc, fd, F1, sup_binds F1 hd fun _ _ _ _ _ us hl => match us, hl with | [_, _, _], _ => rfl, kp⟩
  have h_d_kept : ∃ fd : FuncData, FunD K "kept" "kept" (defArgs (top 15)) (defBody (top 15)) (defScope (top 15)) [] [] (He.ga K "kept") fd := by
    obtain ⟨fd, FD⟩ := c.x.t.d.def_ 1 (d := D_kept) rfl
    exact ⟨fd, FD⟩
  have h_d_Paper_init : ∃ fd : FuncData, FunD K "__init__" "Paper.__init__" (defArgs (meth 16 0)) (defBody (meth 16 0)) (defScope (meth 16 0)) [] [] (He.ma K (He.ga K "Paper") "__init__") fd := by
    obtain ⟨fd, FD⟩ := c.x.t.d.def_ 2 (d := D_Paper_init) rfl
    exact ⟨fd, FD⟩
  have h_d_Form_init : ∃ (cda cc : Addr) (fd : FuncData), SupF prg K mg "__init__" "Form.__init__" (defArgs (meth 19 0)) (defBody (meth 19 0)) (defScope (meth 19 0)) ["self", "needs", "terms"] ["self", "needs", "terms"] (He.ma K (He.ga K "Form") "__init__") cda cc (He.ga K "Form") fd ∧ Binds K fd ["self", "needs", "terms"] [] ∧ PySem.W.keepIn K (.ref (He.ma K (He.ga K "Form") "__init__")) = true := by
    obtain ⟨cda, cc, fd, F1, hd, kp⟩ := sup_of (d := Q_Form_init) (c.at_ 6) (ex_at X0 7) sc_Form_init ⟨_, rfl, rfl⟩ (by decide +kernel) hsup (He.eqO_ok (ex_at X0 0))
    exact ⟨cda, cc, fd, F1, sup_binds F1 hd fun _ _ _ _ _ us hl => match us, hl with | [_, _, _], _ => rfl, kp⟩
  have h_d_Alike_init : ∃ (cda cc : Addr) (fd : FuncData), SupF prg K mg "__init__" "Alike.__init__" (defArgs (meth 21 0)) (defBody (meth 21 0)) (defScope (meth 21 0)) ["self", "form"] ["self", "form"] (He.ma K (He.ga K "Alike") "__init__") cda cc (He.ga K "Alike") fd ∧ Binds K fd ["self", "form"] [] ∧ PySem.W.keepIn K (.ref (He.ma K (He.ga K "Alike") "__init__")) = true := by
    obtain ⟨cda, cc, fd, F1, hd, kp⟩ := sup_of (d := Q_Alike_init) (c.at_ 7) (ex_at X0 8) sc_Alike_init ⟨_, rfl, rfl⟩ (by decide +kernel) hsup (He.eqO_ok (ex_at X0 0))
    exact ⟨cda, cc, fd, F1, sup_binds F1 hd fun _ _ _ _ _ us hl => match us, hl with | [_, _], _ => rfl, kp⟩
  have h_d_Unlike_init : ∃ (cda cc : Addr) (fd : FuncData), SupF prg K mg "__init__" "Unlike.__init__" (defArgs (meth 22 0)) (defBody (meth 22 0)) (defScope (meth 22 0)) ["self", "script"] ["self", "script"] (He.ma K (He.ga K "Unlike") "__init__") cda cc (He.ga K "Unlike") fd ∧ Binds K fd ["self", "script"] [] ∧ PySem.W.keepIn K (.ref (He.ma K (He.ga K "Unlike") "__init__")) = true := by
    obtain ⟨cda, cc, fd, F1, hd, kp⟩ := sup_of (d := Q_Unlike_init) (c.at_ 8) (ex_at X0 9) sc_Unlike_init ⟨_, rfl, rfl⟩ (by decide +kernel) hsup (He.eqO_ok (ex_at X0 0))
    exact ⟨cda, cc, fd, F1, sup_binds F1 hd fun _ _ _ _ _ us hl => match us, hl with | [_, _], _ => rfl, kp⟩
  have h_d_Enough_init : ∃ (cda cc : Addr) (fd : FuncData), SupF prg K mg "__init__" "Enough.__init__" (defArgs (meth 24 0)) (defBody (meth 24 0)) (defScope (meth 24 0)) ["self", "rows"] ["self", "rows"] (He.ma K (He.ga K "Enough") "__init__") cda cc (He.ga K "Enough") fd ∧ Binds K fd ["self", "rows"] [] ∧ PySem.W.keepIn K (.ref (He.ma K (He.ga K "Enough") "__init__")) = true := by
    obtain ⟨cda, cc, fd, F1, hd, kp⟩ := sup_of (d := Q_Enough_init) (c.at_ 9) (ex_at X0 10) sc_Enough_init ⟨_, rfl, rfl⟩ (by decide +kernel) hsup (He.eqO_ok (ex_at X0 0))
    exact ⟨cda, cc, fd, F1, sup_binds F1 hd fun _ _ _ _ _ us hl => match us, hl with | [_, _], _ => rfl, kp⟩
  have h_d_Misses_init : ∃ (cda cc : Addr) (fd : FuncData), SupF prg K mg "__init__" "Misses.__init__" (defArgs (meth 25 0)) (defBody (meth 25 0)) (defScope (meth 25 0)) ["self", "source", "target", "script"] ["self", "source", "target", "script"] (He.ma K (He.ga K "Misses") "__init__") cda cc (He.ga K "Misses") fd ∧ Binds K fd ["self", "source", "target", "script"] [] ∧ PySem.W.keepIn K (.ref (He.ma K (He.ga K "Misses") "__init__")) = true := by
    obtain ⟨cda, cc, fd, F1, hd, kp⟩ := sup_of (d := Q_Misses_init) (c.at_ 10) (ex_at X0 11) sc_Misses_init ⟨_, rfl, rfl⟩ (by decide +kernel) hsup (He.eqO_ok (ex_at X0 0))
    exact ⟨cda, cc, fd, F1, sup_binds F1 hd fun _ _ _ _ _ us hl => match us, hl with | [_, _, _, _], _ => rfl, kp⟩
  have h_d_Matters_init : ∃ (cda cc : Addr) (fd : FuncData), SupF prg K mg "__init__" "Matters.__init__" (defArgs (meth 27 0)) (defBody (meth 27 0)) (defScope (meth 27 0)) ["self", "rows", "idle"] ["self", "rows", "idle"] (He.ma K (He.ga K "Matters") "__init__") cda cc (He.ga K "Matters") fd ∧ Binds K fd ["self", "rows", "idle"] [] ∧ PySem.W.keepIn K (.ref (He.ma K (He.ga K "Matters") "__init__")) = true := by
    obtain ⟨cda, cc, fd, F1, hd, kp⟩ := sup_of (d := Q_Matters_init) (c.at_ 11) (ex_at X0 12) sc_Matters_init ⟨_, rfl, rfl⟩ (by decide +kernel) hsup (He.eqO_ok (ex_at X0 0))
    exact ⟨cda, cc, fd, F1, sup_binds F1 hd fun _ _ _ _ _ us hl => match us, hl with | [_, _, _], _ => rfl, kp⟩
  have h_d_Mends_init : ∃ (cda cc : Addr) (fd : FuncData), SupF prg K mg "__init__" "Mends.__init__" (defArgs (meth 29 0)) (defBody (meth 29 0)) (defScope (meth 29 0)) ["self", "rows"] ["self", "rows"] (He.ma K (He.ga K "Mends") "__init__") cda cc (He.ga K "Mends") fd ∧ Binds K fd ["self", "rows"] [] ∧ PySem.W.keepIn K (.ref (He.ma K (He.ga K "Mends") "__init__")) = true := by
    obtain ⟨cda, cc, fd, F1, hd, kp⟩ := sup_of (d := Q_Mends_init) (c.at_ 12) (ex_at X0 13) sc_Mends_init ⟨_, rfl, rfl⟩ (by decide +kernel) hsup (He.eqO_ok (ex_at X0 0))
    exact ⟨cda, cc, fd, F1, sup_binds F1 hd fun _ _ _ _ _ us hl => match us, hl with | [_, _], _ => rfl, kp⟩
  have h_d_Unmended_init : ∃ (cda cc : Addr) (fd : FuncData), SupF prg K mg "__init__" "Unmended.__init__" (defArgs (meth 30 0)) (defBody (meth 30 0)) (defScope (meth 30 0)) ["self", "script"] ["self", "script"] (He.ma K (He.ga K "Unmended") "__init__") cda cc (He.ga K "Unmended") fd ∧ Binds K fd ["self", "script"] [] ∧ PySem.W.keepIn K (.ref (He.ma K (He.ga K "Unmended") "__init__")) = true := by
    obtain ⟨cda, cc, fd, F1, hd, kp⟩ := sup_of (d := Q_Unmended_init) (c.at_ 13) (ex_at X0 14) sc_Unmended_init ⟨_, rfl, rfl⟩ (by decide +kernel) hsup (He.eqO_ok (ex_at X0 0))
    exact ⟨cda, cc, fd, F1, sup_binds F1 hd fun _ _ _ _ _ us hl => match us, hl with | [_, _], _ => rfl, kp⟩
  have h_d_Spares_init : ∃ (cda cc : Addr) (fd : FuncData), SupF prg K mg "__init__" "Spares.__init__" (defArgs (meth 32 0)) (defBody (meth 32 0)) (defScope (meth 32 0)) ["self", "lots"] ["self", "lots"] (He.ma K (He.ga K "Spares") "__init__") cda cc (He.ga K "Spares") fd ∧ Binds K fd ["self", "lots"] [] ∧ PySem.W.keepIn K (.ref (He.ma K (He.ga K "Spares") "__init__")) = true := by
    obtain ⟨cda, cc, fd, F1, hd, kp⟩ := sup_of (d := Q_Spares_init) (c.at_ 14) (ex_at X0 15) sc_Spares_init ⟨_, rfl, rfl⟩ (by decide +kernel) hsup (He.eqO_ok (ex_at X0 0))
    exact ⟨cda, cc, fd, F1, sup_binds F1 hd fun _ _ _ _ _ us hl => match us, hl with | [_, _], _ => rfl, kp⟩
  have h_d_Total_init : ∃ (cda cc : Addr) (fd : FuncData), SupF prg K mg "__init__" "Total.__init__" (defArgs (meth 34 0)) (defBody (meth 34 0)) (defScope (meth 34 0)) ["self", "form"] ["self", "form"] (He.ma K (He.ga K "Total") "__init__") cda cc (He.ga K "Total") fd ∧ Binds K fd ["self", "form"] [] ∧ PySem.W.keepIn K (.ref (He.ma K (He.ga K "Total") "__init__")) = true := by
    obtain ⟨cda, cc, fd, F1, hd, kp⟩ := sup_of (d := Q_Total_init) (c.at_ 15) (ex_at X0 16) sc_Total_init ⟨_, rfl, rfl⟩ (by decide +kernel) hsup (He.eqO_ok (ex_at X0 0))
    exact ⟨cda, cc, fd, F1, sup_binds F1 hd fun _ _ _ _ _ us hl => match us, hl with | [_, _], _ => rfl, kp⟩
  have h_d_Untrue_init : ∃ (cda cc : Addr) (fd : FuncData), SupF prg K mg "__init__" "Untrue.__init__" (defArgs (meth 35 0)) (defBody (meth 35 0)) (defScope (meth 35 0)) ["self", "rows"] ["self", "rows"] (He.ma K (He.ga K "Untrue") "__init__") cda cc (He.ga K "Untrue") fd ∧ Binds K fd ["self", "rows"] [] ∧ PySem.W.keepIn K (.ref (He.ma K (He.ga K "Untrue") "__init__")) = true := by
    obtain ⟨cda, cc, fd, F1, hd, kp⟩ := sup_of (d := Q_Untrue_init) (c.at_ 16) (ex_at X0 17) sc_Untrue_init ⟨_, rfl, rfl⟩ (by decide +kernel) hsup (He.eqO_ok (ex_at X0 0))
    exact ⟨cda, cc, fd, F1, sup_binds F1 hd fun _ _ _ _ _ us hl => match us, hl with | [_, _], _ => rfl, kp⟩
  have h_d_Passed_init : ∃ (cda cc : Addr) (fd : FuncData), SupF prg K mg "__init__" "Passed.__init__" (defArgs (meth 37 0)) (defBody (meth 37 0)) (defScope (meth 37 0)) ["self", "scripts"] ["self", "scripts"] (He.ma K (He.ga K "Passed") "__init__") cda cc (He.ga K "Passed") fd ∧ Binds K fd ["self", "scripts"] [] ∧ PySem.W.keepIn K (.ref (He.ma K (He.ga K "Passed") "__init__")) = true := by
    obtain ⟨cda, cc, fd, F1, hd, kp⟩ := sup_of (d := Q_Passed_init) (c.at_ 17) (ex_at X0 18) sc_Passed_init ⟨_, rfl, rfl⟩ (by decide +kernel) hsup (He.eqO_ok (ex_at X0 0))
    exact ⟨cda, cc, fd, F1, sup_binds F1 hd fun _ _ _ _ _ us hl => match us, hl with | [_, _], _ => rfl, kp⟩
  have h_d_Failed_init : ∃ (cda cc : Addr) (fd : FuncData), SupF prg K mg "__init__" "Failed.__init__" (defArgs (meth 38 0)) (defBody (meth 38 0)) (defScope (meth 38 0)) ["self", "script"] ["self", "script"] (He.ma K (He.ga K "Failed") "__init__") cda cc (He.ga K "Failed") fd ∧ Binds K fd ["self", "script"] [] ∧ PySem.W.keepIn K (.ref (He.ma K (He.ga K "Failed") "__init__")) = true := by
    obtain ⟨cda, cc, fd, F1, hd, kp⟩ := sup_of (d := Q_Failed_init) (c.at_ 18) (ex_at X0 19) sc_Failed_init ⟨_, rfl, rfl⟩ (by decide +kernel) hsup (He.eqO_ok (ex_at X0 0))
    exact ⟨cda, cc, fd, F1, sup_binds F1 hd fun _ _ _ _ _ us hl => match us, hl with | [_, _], _ => rfl, kp⟩
  have h_d_is_word : ∃ fd : FuncData, FunD K "is_word" "is_word" (defArgs (top 48)) (defBody (top 48)) (defScope (top 48)) [] [] (He.ga K "is_word") fd := by
    obtain ⟨fd, FD⟩ := c.x.t.d.def_ 3 (d := D_is_word) rfl
    exact ⟨fd, FD⟩
  have h_d_is_kind : ∃ fd : FuncData, FunD K "is_kind" "is_kind" (defArgs (top 49)) (defBody (top 49)) (defScope (top 49)) [] [] (He.ga K "is_kind") fd := by
    obtain ⟨fd, FD⟩ := c.x.t.d.def_ 4 (d := D_is_kind) rfl
    exact ⟨fd, FD⟩
  have h_d_words_of : ∃ fd : FuncData, FunD K "words_of" "words_of" (defArgs (top 50)) (defBody (top 50)) (defScope (top 50)) [] [] (He.ga K "words_of") fd := by
    obtain ⟨fd, FD⟩ := c.x.t.d.def_ 5 (d := D_words_of) rfl
    exact ⟨fd, FD⟩
  have h_d_paper_text : ∃ fd : FuncData, FunD K "paper_text" "paper_text" (defArgs (top 51)) (defBody (top 51)) (defScope (top 51)) [] [] (He.ga K "paper_text") fd := by
    obtain ⟨fd, FD⟩ := c.x.t.d.def_ 6 (d := D_paper_text) rfl
    exact ⟨fd, FD⟩
  have h_d_made_of : ∃ fd : FuncData, FunD K "made_of" "made_of" (defArgs (top 52)) (defBody (top 52)) (defScope (top 52)) [] [] (He.ga K "made_of") fd := by
    obtain ⟨fd, FD⟩ := c.x.t.d.def_ 7 (d := D_made_of) rfl
    exact ⟨fd, FD⟩
  have h_d_Opened_init : ∃ fd : FuncData, FunD K "__init__" "Opened.__init__" (defArgs (meth 53 0)) (defBody (meth 53 0)) (defScope (meth 53 0)) [] [] (He.ma K (He.ga K "Opened") "__init__") fd := by
    obtain ⟨fd, FD⟩ := c.x.t.d.def_ 8 (d := D_Opened_init) rfl
    exact ⟨fd, FD⟩
  have h_d_Opened_is_full : ∃ fd : FuncData, FunD K "is_full" "Opened.is_full" (defArgs (meth 53 1)) (defBody (meth 53 1)) (defScope (meth 53 1)) [] [] (He.ma K (He.ga K "Opened") "is_full") fd := by
    obtain ⟨fd, FD⟩ := c.x.t.d.def_ 9 (d := D_Opened_is_full) rfl
    exact ⟨fd, FD⟩
  have h_d_Opened_made : ∃ fd : FuncData, FunD K "made" "Opened.made" (defArgs (meth 53 2)) (defBody (meth 53 2)) (defScope (meth 53 2)) [] [] (He.ma K (He.ga K "Opened") "made") fd := by
    obtain ⟨fd, FD⟩ := c.x.t.d.def_ 10 (d := D_Opened_made) rfl
    exact ⟨fd, FD⟩
  have h_d_number_of : ∃ fd : FuncData, FunD K "number_of" "number_of" (defArgs (top 54)) (defBody (top 54)) (defScope (top 54)) [] [] (He.ga K "number_of") fd := by
    obtain ⟨fd, FD⟩ := c.x.t.d.def_ 11 (d := D_number_of) rfl
    exact ⟨fd, FD⟩
  have h_d_plain_of : ∃ fd : FuncData, FunD K "plain_of" "plain_of" (defArgs (top 55)) (defBody (top 55)) (defScope (top 55)) [] [] (He.ga K "plain_of") fd := by
    obtain ⟨fd, FD⟩ := c.x.t.d.def_ 12 (d := D_plain_of) rfl
    exact ⟨fd, FD⟩
  have h_d_Reading_init : ∃ fd : FuncData, FunD K "__init__" "Reading.__init__" (defArgs (meth 56 0)) (defBody (meth 56 0)) (defScope (meth 56 0)) [] [] (He.ma K (He.ga K "Reading") "__init__") fd := by
    obtain ⟨fd, FD⟩ := c.x.t.d.def_ 13 (d := D_Reading_init) rfl
    exact ⟨fd, FD⟩
  have h_d_Reading_stop : ∃ fd : FuncData, FunD K "stop" "Reading.stop" (defArgs (meth 56 1)) (defBody (meth 56 1)) (defScope (meth 56 1)) [] [] (He.ma K (He.ga K "Reading") "stop") fd := by
    obtain ⟨fd, FD⟩ := c.x.t.d.def_ 14 (d := D_Reading_stop) rfl
    exact ⟨fd, FD⟩
  have h_d_Reading_begin : ∃ fd : FuncData, FunD K "begin" "Reading.begin" (defArgs (meth 56 2)) (defBody (meth 56 2)) (defScope (meth 56 2)) [] [] (He.ma K (He.ga K "Reading") "begin") fd := by
    obtain ⟨fd, FD⟩ := c.x.t.d.def_ 15 (d := D_Reading_begin) rfl
    exact ⟨fd, FD⟩
  have h_d_Reading_put : ∃ fd : FuncData, FunD K "put" "Reading.put" (defArgs (meth 56 3)) (defBody (meth 56 3)) (defScope (meth 56 3)) [] [] (He.ma K (He.ga K "Reading") "put") fd := by
    obtain ⟨fd, FD⟩ := c.x.t.d.def_ 16 (d := D_Reading_put) rfl
    exact ⟨fd, FD⟩
  have h_d_Reading_end : ∃ fd : FuncData, FunD K "end" "Reading.end" (defArgs (meth 56 4)) (defBody (meth 56 4)) (defScope (meth 56 4)) [] [] (He.ma K (He.ga K "Reading") "end") fd := by
    obtain ⟨fd, FD⟩ := c.x.t.d.def_ 17 (d := D_Reading_end) rfl
    exact ⟨fd, FD⟩
  have h_d_Reading_whole : ∃ fd : FuncData, FunD K "whole" "Reading.whole" (defArgs (meth 56 5)) (defBody (meth 56 5)) (defScope (meth 56 5)) [] [] (He.ma K (He.ga K "Reading") "whole") fd := by
    obtain ⟨fd, FD⟩ := c.x.t.d.def_ 18 (d := D_Reading_whole) rfl
    exact ⟨fd, FD⟩
  have h_d_read_paper : ∃ fd : FuncData, FunD K "read_paper" "read_paper" (defArgs (top 57)) (defBody (top 57)) (defScope (top 57)) [] [] (He.ga K "read_paper") fd := by
    obtain ⟨fd, FD⟩ := c.x.t.d.def_ 19 (d := D_read_paper) rfl
    exact ⟨fd, FD⟩
  have h_d__law_well : ∃ fd : FuncData, FunD K "_law_well" "_law_well" (defArgs (top 59)) (defBody (top 59)) (defScope (top 59)) [] [] (He.ga K "_law_well") fd := by
    obtain ⟨fd, FD⟩ := c.x.t.d.def_ 20 (d := D__law_well) rfl
    exact ⟨fd, FD⟩
  have h_d__law_draw : ∃ fd : FuncData, FunD K "_law_draw" "_law_draw" (defArgs (top 60)) (defBody (top 60)) (defScope (top 60)) [] [] (He.ga K "_law_draw") fd := by
    obtain ⟨fd, FD⟩ := c.x.t.d.def_ 21 (d := D__law_draw) rfl
    exact ⟨fd, FD⟩
  have h_d__law_one : ∃ fd : FuncData, FunD K "_law_one" "_law_one" (defArgs (top 61)) (defBody (top 61)) (defScope (top 61)) [] [] (He.ga K "_law_one") fd := by
    obtain ⟨fd, FD⟩ := c.x.t.d.def_ 22 (d := D__law_one) rfl
    exact ⟨fd, FD⟩
  have h_d__law_said : ∃ fd : FuncData, FunD K "_law_said" "_law_said" (defArgs (top 62)) (defBody (top 62)) (defScope (top 62)) [] [] (He.ga K "_law_said") fd := by
    obtain ⟨fd, FD⟩ := c.x.t.d.def_ 23 (d := D__law_said) rfl
    exact ⟨fd, FD⟩
  have h_d__law_sizes : ∃ fd : FuncData, FunD K "_law_sizes" "_law_sizes" (defArgs (top 63)) (defBody (top 63)) (defScope (top 63)) [] [] (He.ga K "_law_sizes") fd := by
    obtain ⟨fd, FD⟩ := c.x.t.d.def_ 24 (d := D__law_sizes) rfl
    exact ⟨fd, FD⟩
  have h_d__law_is_plain : ∃ fd : FuncData, FunD K "_law_is_plain" "_law_is_plain" (defArgs (top 64)) (defBody (top 64)) (defScope (top 64)) [] [] (He.ga K "_law_is_plain") fd := by
    obtain ⟨fd, FD⟩ := c.x.t.d.def_ 25 (d := D__law_is_plain) rfl
    exact ⟨fd, FD⟩
  have h_d__law_fault : ∃ fd : FuncData, FunD K "_law_fault" "_law_fault" (defArgs (top 65)) (defBody (top 65)) (defScope (top 65)) [] [] (He.ga K "_law_fault") fd := by
    obtain ⟨fd, FD⟩ := c.x.t.d.def_ 26 (d := D__law_fault) rfl
    exact ⟨fd, FD⟩
  have h_d__law_words : ∃ fd : FuncData, FunD K "_law_words" "_law_words" (defArgs (top 66)) (defBody (top 66)) (defScope (top 66)) [] [] (He.ga K "_law_words") fd := by
    obtain ⟨fd, FD⟩ := c.x.t.d.def_ 27 (d := D__law_words) rfl
    exact ⟨fd, FD⟩
  have h_d__law_paper_words : ∃ fd : FuncData, FunD K "_law_paper_words" "_law_paper_words" (defArgs (top 67)) (defBody (top 67)) (defScope (top 67)) [] [] (He.ga K "_law_paper_words") fd := by
    obtain ⟨fd, FD⟩ := c.x.t.d.def_ 28 (d := D__law_paper_words) rfl
    exact ⟨fd, FD⟩
  have h_d__law_deep_right : ∃ fd : FuncData, FunD K "_law_deep_right" "_law_deep_right" (defArgs (top 68)) (defBody (top 68)) (defScope (top 68)) [] [] (He.ga K "_law_deep_right") fd ∧ fd.code = .ref (He.cT K ("_law_deep_right", none)).1 := by
    obtain ⟨fd, FD⟩ := c.x.t.d.def_ 29 (d := D__law_deep_right) rfl
    exact ⟨fd, FD, funD_code FD⟩
  have h_d_law : ∃ fd : FuncData, FunD K "law" "law" (defArgs (top 69)) (defBody (top 69)) (defScope (top 69)) [] [] (He.ga K "law") fd ∧ fd.code = .ref (He.cT K ("law", none)).1 := by
    obtain ⟨fd, FD⟩ := c.x.t.d.def_ 30 (d := D_law) rfl
    exact ⟨fd, FD, funD_code FD⟩
  have g_SheetError : mg "SheetError" = some (.ref (He.ga K "SheetError")) := He.glo_ok KX G (c.x.t.d.fact 1 (f := .glo "SheetError") rfl)
  have g_TooMany : mg "TooMany" = some (.ref (He.ga K "TooMany")) := He.glo_ok KX G (c.x.t.d.fact 2 (f := .glo "TooMany") rfl)
  have g_BadText : mg "BadText" = some (.ref (He.ga K "BadText")) := He.glo_ok KX G (c.x.t.d.fact 123 (f := .glo "BadText") rfl)
  have g_BadCommand : mg "BadCommand" = some (.ref (He.ga K "BadCommand")) := He.glo_ok KX G (c.x.t.d.fact 3 (f := .glo "BadCommand") rfl)
  have g_NoName : mg "NoName" = some (.ref (He.ga K "NoName")) := He.glo_ok KX G (c.x.t.d.fact 4 (f := .glo "NoName") rfl)
  have g_Misfit : mg "Misfit" = some (.ref (He.ga K "Misfit")) := He.glo_ok KX G (c.x.t.d.fact 5 (f := .glo "Misfit") rfl)
  have g_Nothing : mg "Nothing" = some (.ref (He.ga K "Nothing")) := He.glo_ok KX G (c.x.t.d.fact 6 (f := .glo "Nothing") rfl)
  have g_isi : mg "isinstance" = none := He.free_ok KX G (c.x.t.d.fact 9 (f := .free "isinstance") rfl)
  have h_m_law := He.glo_ok KX G (c.x.t.d.fact 7 (f := .glo "law") rfl)
  have h_n_int := He.free_ok KX G (c.x.t.d.fact 8 (f := .free "int") rfl)
  have h_isi : IsiF (Gw K) isiC isiD isiS := isiB_ok (ex_at X0 20)
  have h_n_isinstance := He.free_ok KX G (c.x.t.d.fact 9 (f := .free "isinstance") rfl)
  have h_n_bool := He.free_ok KX G (c.x.t.d.fact 10 (f := .free "bool") rfl)
  have h_n_list := He.free_ok KX G (c.x.t.d.fact 11 (f := .free "list") rfl)
  have h_n_tuple := He.free_ok KX G (c.x.t.d.fact 12 (f := .free "tuple") rfl)
  have h_m_kept := He.glo_ok KX G (c.x.t.d.fact 13 (f := .glo "kept") rfl)
  have h_nms : Nms (Gw K) nms := nmsB_ok (ex_at X0 21)
  have h_n_type := He.free_ok KX G (c.x.t.d.fact 14 (f := .free "type") rfl)
  have h_na_Failed_word := He.noat_ok (c.x.t.d.fact 15 (f := .noat "Failed" "word") rfl)
  have h_na_Passed_word := He.noat_ok (c.x.t.d.fact 16 (f := .noat "Passed" "word") rfl)
  have h_na_Untrue_word := He.noat_ok (c.x.t.d.fact 17 (f := .noat "Untrue" "word") rfl)
  have h_na_Total_word := He.noat_ok (c.x.t.d.fact 18 (f := .noat "Total" "word") rfl)
  have h_na_Spares_word := He.noat_ok (c.x.t.d.fact 19 (f := .noat "Spares" "word") rfl)
  have h_na_Unmended_word := He.noat_ok (c.x.t.d.fact 20 (f := .noat "Unmended" "word") rfl)
  have h_na_Mends_word := He.noat_ok (c.x.t.d.fact 21 (f := .noat "Mends" "word") rfl)
  have h_na_Matters_word := He.noat_ok (c.x.t.d.fact 22 (f := .noat "Matters" "word") rfl)
  have h_na_Misses_word := He.noat_ok (c.x.t.d.fact 23 (f := .noat "Misses" "word") rfl)
  have h_na_Enough_word := He.noat_ok (c.x.t.d.fact 24 (f := .noat "Enough" "word") rfl)
  have h_na_Unlike_word := He.noat_ok (c.x.t.d.fact 25 (f := .noat "Unlike" "word") rfl)
  have h_na_Alike_word := He.noat_ok (c.x.t.d.fact 26 (f := .noat "Alike" "word") rfl)
  have h_na_Form_word := He.noat_ok (c.x.t.d.fact 27 (f := .noat "Form" "word") rfl)
  have h_na_Failed_parts := He.noat_ok (c.x.t.d.fact 28 (f := .noat "Failed" "parts") rfl)
  have h_na_Passed_parts := He.noat_ok (c.x.t.d.fact 29 (f := .noat "Passed" "parts") rfl)
  have h_na_Untrue_parts := He.noat_ok (c.x.t.d.fact 30 (f := .noat "Untrue" "parts") rfl)
  have h_na_Total_parts := He.noat_ok (c.x.t.d.fact 31 (f := .noat "Total" "parts") rfl)
  have h_na_Spares_parts := He.noat_ok (c.x.t.d.fact 32 (f := .noat "Spares" "parts") rfl)
  have h_na_Unmended_parts := He.noat_ok (c.x.t.d.fact 33 (f := .noat "Unmended" "parts") rfl)
  have h_na_Mends_parts := He.noat_ok (c.x.t.d.fact 34 (f := .noat "Mends" "parts") rfl)
  have h_na_Matters_parts := He.noat_ok (c.x.t.d.fact 35 (f := .noat "Matters" "parts") rfl)
  have h_na_Misses_parts := He.noat_ok (c.x.t.d.fact 36 (f := .noat "Misses" "parts") rfl)
  have h_na_Enough_parts := He.noat_ok (c.x.t.d.fact 37 (f := .noat "Enough" "parts") rfl)
  have h_na_Unlike_parts := He.noat_ok (c.x.t.d.fact 38 (f := .noat "Unlike" "parts") rfl)
  have h_na_Alike_parts := He.noat_ok (c.x.t.d.fact 39 (f := .noat "Alike" "parts") rfl)
  have h_na_Form_parts := He.noat_ok (c.x.t.d.fact 40 (f := .noat "Form" "parts") rfl)
  have h_na_Form_terms := He.noat_ok (c.x.t.d.fact 41 (f := .noat "Form" "terms") rfl)
  have h_na_Form_needs := He.noat_ok (c.x.t.d.fact 42 (f := .noat "Form" "needs") rfl)
  have h_na_Alike_form := He.noat_ok (c.x.t.d.fact 43 (f := .noat "Alike" "form") rfl)
  have h_na_Unlike_script := He.noat_ok (c.x.t.d.fact 44 (f := .noat "Unlike" "script") rfl)
  have h_na_Enough_rows := He.noat_ok (c.x.t.d.fact 45 (f := .noat "Enough" "rows") rfl)
  have h_na_Misses_script := He.noat_ok (c.x.t.d.fact 46 (f := .noat "Misses" "script") rfl)
  have h_na_Misses_target := He.noat_ok (c.x.t.d.fact 47 (f := .noat "Misses" "target") rfl)
  have h_na_Misses_source := He.noat_ok (c.x.t.d.fact 48 (f := .noat "Misses" "source") rfl)
  have h_na_Matters_idle := He.noat_ok (c.x.t.d.fact 49 (f := .noat "Matters" "idle") rfl)
  have h_na_Matters_rows := He.noat_ok (c.x.t.d.fact 50 (f := .noat "Matters" "rows") rfl)
  have h_na_Mends_rows := He.noat_ok (c.x.t.d.fact 51 (f := .noat "Mends" "rows") rfl)
  have h_na_Unmended_script := He.noat_ok (c.x.t.d.fact 52 (f := .noat "Unmended" "script") rfl)
  have h_na_Spares_lots := He.noat_ok (c.x.t.d.fact 53 (f := .noat "Spares" "lots") rfl)
  have h_na_Total_form := He.noat_ok (c.x.t.d.fact 54 (f := .noat "Total" "form") rfl)
  have h_na_Untrue_rows := He.noat_ok (c.x.t.d.fact 55 (f := .noat "Untrue" "rows") rfl)
  have h_na_Passed_scripts := He.noat_ok (c.x.t.d.fact 56 (f := .noat "Passed" "scripts") rfl)
  have h_na_Failed_script := He.noat_ok (c.x.t.d.fact 57 (f := .noat "Failed" "script") rfl)
  have h_n_str := He.free_ok KX G (c.x.t.d.fact 58 (f := .free "str") rfl)
  have h_n_len := He.free_ok KX G (c.x.t.d.fact 59 (f := .free "len") rfl)
  have h_i_MOST_SIGNS := He.int_ok KX G (c.x.t.d.fact 60 (f := .int "MOST_SIGNS" 100) rfl)
  have h_s_LETTERS := He.str_ok KX G (c.x.t.d.fact 61 (f := .str "LETTERS" "abcdefghijklmnopqrstuvwxyz") rfl)
  have h_s_SIGNS := He.str_ok KX G (c.x.t.d.fact 62 (f := .str "SIGNS" "abcdefghijklmnopqrstuvwxyz0123456789.") rfl)
  have h_n_all := He.free_ok KX G (c.x.t.d.fact 63 (f := .free "all") rfl)
  have h_m_Paper := He.glo_ok KX G (c.x.t.d.fact 64 (f := .glo "Paper") rfl)
  have h_k_SIZES : MDct K w (He.ga K "SIZES") l_SIZES := mdct_of (He.SaysT_at c.x.t 0) (ex_at X0 22)
  have h_m_SIZES := He.glo_ok KX G (c.x.t.d.fact 65 (f := .glo "SIZES") rfl)
  have h_s_NOTHING := He.str_ok KX G (c.x.t.d.fact 66 (f := .str "NOTHING" "-") rfl)
  have h_m_is_integer := He.glo_ok KX G (c.x.t.d.fact 67 (f := .glo "is_integer") rfl)
  have h_n_abs := He.free_ok KX G (c.x.t.d.fact 68 (f := .free "abs") rfl)
  have h_i_MOST_DIGITS := He.int_ok KX G (c.x.t.d.fact 69 (f := .int "MOST_DIGITS" 400) rfl)
  have h_m_is_word := He.glo_ok KX G (c.x.t.d.fact 70 (f := .glo "is_word") rfl)
  have h_m_words_of := He.glo_ok KX G (c.x.t.d.fact 71 (f := .glo "words_of") rfl)
  have h_m_is_kind := He.glo_ok KX G (c.x.t.d.fact 72 (f := .glo "is_kind") rfl)
  have h_i_MOST_DEEP := He.int_ok KX G (c.x.t.d.fact 73 (f := .int "MOST_DEEP" 20) rfl)
  have h_ox_BadValue : OexC K (He.ga K "BadValue") := oexB_ok (ex_at X0 23)
  have h_sx_BadValue : SupX K (He.ga K "BadValue") (He.ga K "PartError") := supXB_ok (ex_at X0 24)
  have h_no_BadValue := noneB_ok (ex_at X0 25)
  have h_ini_BadValue := He.eqO_ok (ex_at X0 26)
  have h_tyi_BadValue : PySem.W.typeIn K (.ref (He.ma K (He.ga K "PartError") "__init__")) = some (.type "function") := of_decide_eq_true (ex_at X0 27)
  have h_m_BadValue := He.glo_ok KX G (c.x.t.d.fact 74 (f := .glo "BadValue") rfl)
  have h_m_Alike := He.glo_ok KX G (c.x.t.d.fact 75 (f := .glo "Alike") rfl)
  have h_c_Alike := He.cls_ok (c.x.t.d.fact 76 (f := .cls "Alike") rfl)
  have h_mk_Alike := He.mkr_ok (c.x.t.d.fact 77 (f := .mkr "Alike") rfl)
  have h_m_Unlike := He.glo_ok KX G (c.x.t.d.fact 78 (f := .glo "Unlike") rfl)
  have h_c_Unlike := He.cls_ok (c.x.t.d.fact 79 (f := .cls "Unlike") rfl)
  have h_mk_Unlike := He.mkr_ok (c.x.t.d.fact 80 (f := .mkr "Unlike") rfl)
  have h_m_Passed := He.glo_ok KX G (c.x.t.d.fact 81 (f := .glo "Passed") rfl)
  have h_c_Passed := He.cls_ok (c.x.t.d.fact 82 (f := .cls "Passed") rfl)
  have h_mk_Passed := He.mkr_ok (c.x.t.d.fact 83 (f := .mkr "Passed") rfl)
  have h_m_Failed := He.glo_ok KX G (c.x.t.d.fact 84 (f := .glo "Failed") rfl)
  have h_c_Failed := He.cls_ok (c.x.t.d.fact 85 (f := .cls "Failed") rfl)
  have h_mk_Failed := He.mkr_ok (c.x.t.d.fact 86 (f := .mkr "Failed") rfl)
  have h_m_Total := He.glo_ok KX G (c.x.t.d.fact 87 (f := .glo "Total") rfl)
  have h_c_Total := He.cls_ok (c.x.t.d.fact 88 (f := .cls "Total") rfl)
  have h_mk_Total := He.mkr_ok (c.x.t.d.fact 89 (f := .mkr "Total") rfl)
  have h_m_Untrue := He.glo_ok KX G (c.x.t.d.fact 90 (f := .glo "Untrue") rfl)
  have h_c_Untrue := He.cls_ok (c.x.t.d.fact 91 (f := .cls "Untrue") rfl)
  have h_mk_Untrue := He.mkr_ok (c.x.t.d.fact 92 (f := .mkr "Untrue") rfl)
  have h_m_Mends := He.glo_ok KX G (c.x.t.d.fact 93 (f := .glo "Mends") rfl)
  have h_c_Mends := He.cls_ok (c.x.t.d.fact 94 (f := .cls "Mends") rfl)
  have h_mk_Mends := He.mkr_ok (c.x.t.d.fact 95 (f := .mkr "Mends") rfl)
  have h_m_Unmended := He.glo_ok KX G (c.x.t.d.fact 96 (f := .glo "Unmended") rfl)
  have h_c_Unmended := He.cls_ok (c.x.t.d.fact 97 (f := .cls "Unmended") rfl)
  have h_mk_Unmended := He.mkr_ok (c.x.t.d.fact 98 (f := .mkr "Unmended") rfl)
  have h_m_Spares := He.glo_ok KX G (c.x.t.d.fact 99 (f := .glo "Spares") rfl)
  have h_c_Spares := He.cls_ok (c.x.t.d.fact 100 (f := .cls "Spares") rfl)
  have h_mk_Spares := He.mkr_ok (c.x.t.d.fact 101 (f := .mkr "Spares") rfl)
  have h_m_Enough := He.glo_ok KX G (c.x.t.d.fact 102 (f := .glo "Enough") rfl)
  have h_c_Enough := He.cls_ok (c.x.t.d.fact 103 (f := .cls "Enough") rfl)
  have h_mk_Enough := He.mkr_ok (c.x.t.d.fact 104 (f := .mkr "Enough") rfl)
  have h_m_Misses := He.glo_ok KX G (c.x.t.d.fact 105 (f := .glo "Misses") rfl)
  have h_c_Misses := He.cls_ok (c.x.t.d.fact 106 (f := .cls "Misses") rfl)
  have h_mk_Misses := He.mkr_ok (c.x.t.d.fact 107 (f := .mkr "Misses") rfl)
  have h_m_Form := He.glo_ok KX G (c.x.t.d.fact 108 (f := .glo "Form") rfl)
  have h_c_Form := He.cls_ok (c.x.t.d.fact 109 (f := .cls "Form") rfl)
  have h_mk_Form := He.mkr_ok (c.x.t.d.fact 110 (f := .mkr "Form") rfl)
  have h_m_Matters := He.glo_ok KX G (c.x.t.d.fact 111 (f := .glo "Matters") rfl)
  have h_c_Matters := He.cls_ok (c.x.t.d.fact 112 (f := .cls "Matters") rfl)
  have h_mk_Matters := He.mkr_ok (c.x.t.d.fact 113 (f := .mkr "Matters") rfl)
  have h_na_Opened_word := He.noat_ok (c.x.t.d.fact 114 (f := .noat "Opened" "word") rfl)
  have h_na_Opened_told := He.noat_ok (c.x.t.d.fact 115 (f := .noat "Opened" "told") rfl)
  have h_m_made_of := He.glo_ok KX G (c.x.t.d.fact 116 (f := .glo "made_of") rfl)
  have h_s_DIGITS := He.str_ok KX G (c.x.t.d.fact 117 (f := .str "DIGITS" "0123456789") rfl)
  have h_m_number_of := He.glo_ok KX G (c.x.t.d.fact 118 (f := .glo "number_of") rfl)
  have h_na_Reading_words := He.noat_ok (c.x.t.d.fact 119 (f := .noat "Reading" "words") rfl)
  have h_na_Reading_line := He.noat_ok (c.x.t.d.fact 120 (f := .noat "Reading" "line") rfl)
  have h_na_Reading_at := He.noat_ok (c.x.t.d.fact 121 (f := .noat "Reading" "at") rfl)
  have h_na_Reading_begun := He.noat_ok (c.x.t.d.fact 122 (f := .noat "Reading" "begun") rfl)
  have h_ox_BadText : OexC K (He.ga K "BadText") := oexB_ok (ex_at X0 28)
  have h_sx_BadText : SupX K (He.ga K "BadText") (He.ga K "BadText") := supXB_ok (ex_at X0 29)
  have h_no_BadText := noneB_ok (ex_at X0 30)
  have h_ini_BadText := He.eqO_ok (ex_at X0 31)
  have h_tyi_BadText : PySem.W.typeIn K (.ref (He.ma K (He.ga K "BadText") "__init__")) = some (.type "function") := of_decide_eq_true (ex_at X0 32)
  have h_m_BadText := He.glo_ok KX G (c.x.t.d.fact 123 (f := .glo "BadText") rfl)
  have h_c_Reading := He.cls_ok (c.x.t.d.fact 124 (f := .cls "Reading") rfl)
  have h_me_Reading_stop := He.meth_ok (c.x.t.d.fact 125 (f := .meth "Reading" "stop") rfl)
  have h_m_Opened := He.glo_ok KX G (c.x.t.d.fact 126 (f := .glo "Opened") rfl)
  have h_c_Opened := He.cls_ok (c.x.t.d.fact 127 (f := .cls "Opened") rfl)
  have h_mk_Opened := He.mkr_ok (c.x.t.d.fact 128 (f := .mkr "Opened") rfl)
  have h_me_Opened_is_full := He.meth_ok (c.x.t.d.fact 129 (f := .meth "Opened" "is_full") rfl)
  have h_me_Opened_made := He.meth_ok (c.x.t.d.fact 130 (f := .meth "Opened" "made") rfl)
  have h_me_Reading_put := He.meth_ok (c.x.t.d.fact 131 (f := .meth "Reading" "put") rfl)
  have h_me_Reading_begin := He.meth_ok (c.x.t.d.fact 132 (f := .meth "Reading" "begin") rfl)
  have h_me_Reading_end := He.meth_ok (c.x.t.d.fact 133 (f := .meth "Reading" "end") rfl)
  have h_m_plain_of := He.glo_ok KX G (c.x.t.d.fact 134 (f := .glo "plain_of") rfl)
  have h_m_Reading := He.glo_ok KX G (c.x.t.d.fact 135 (f := .glo "Reading") rfl)
  have h_mk_Reading := He.mkr_ok (c.x.t.d.fact 136 (f := .mkr "Reading") rfl)
  have h_me_Reading_whole := He.meth_ok (c.x.t.d.fact 137 (f := .meth "Reading" "whole") rfl)
  have h_n_enumerate := He.free_ok KX G (c.x.t.d.fact 138 (f := .free "enumerate") rfl)
  have h_n_sum := He.free_ok KX G (c.x.t.d.fact 139 (f := .free "sum") rfl)
  have h_m__law_draw := He.glo_ok KX G (c.x.t.d.fact 140 (f := .glo "_law_draw") rfl)
  have h_m__law_sizes := He.glo_ok KX G (c.x.t.d.fact 141 (f := .glo "_law_sizes") rfl)
  have h_m__law_is_plain := He.glo_ok KX G (c.x.t.d.fact 142 (f := .glo "_law_is_plain") rfl)
  have h_m__law_one := He.glo_ok KX G (c.x.t.d.fact 143 (f := .glo "_law_one") rfl)
  have h_n_range := He.free_ok KX G (c.x.t.d.fact 144 (f := .free "range") rfl)
  have h_m__law_words := He.glo_ok KX G (c.x.t.d.fact 145 (f := .glo "_law_words") rfl)
  have h_m__law_paper_words := He.glo_ok KX G (c.x.t.d.fact 146 (f := .glo "_law_paper_words") rfl)
  have h_n_sorted := He.free_ok KX G (c.x.t.d.fact 147 (f := .free "sorted") rfl)
  have h_m_read_paper := He.glo_ok KX G (c.x.t.d.fact 148 (f := .glo "read_paper") rfl)
  have h_saidN : SaidN (defScope (top 62)) mg (saidA K) := ⟨by decide +kernel, by decide +kernel, by decide +kernel, by decide +kernel, by decide +kernel, by decide +kernel, by decide +kernel, by decide +kernel, by decide +kernel, by decide +kernel, by decide +kernel, g_isi, g_SheetError, g_TooMany, g_BadText, g_BadCommand, g_NoName, g_Misfit, g_Nothing⟩
  have h_saidT : SaidTb K (Gw K) (saidA K) saidT := saidB_ok (ex_at X0 33)
  have h_m__law_said := He.glo_ok KX G (c.x.t.d.fact 149 (f := .glo "_law_said") rfl)
  have h_tb__law_deep_right := TB ("_law_deep_right", none) (by simp [tf])
  have h_tm__law_deep_right : ((He.cT K ("_law_deep_right", none)).2, lq__law_deep_right) ∈ (Gw K).T := by simp [Gw]
  have h_tu__law_deep_right : ∀ p ∈ (Gw K).T, p.1 = (He.cT K ("_law_deep_right", none)).2 → p.2 = lq__law_deep_right := fun p hp e => by
    simp only [Gw, List.mem_cons, List.not_mem_nil, or_false] at hp
    rcases hp with rfl | rfl
    · rfl
    · exact absurd (e.symm) (tt_ne (ex_at X0 47))
  have h_m_paper_text := He.glo_ok KX G (c.x.t.d.fact 150 (f := .glo "paper_text") rfl)
  have h_m__law_well := He.glo_ok KX G (c.x.t.d.fact 151 (f := .glo "_law_well") rfl)
  have h_m__law_deep_right := He.glo_ok KX G (c.x.t.d.fact 152 (f := .glo "_law_deep_right") rfl)
  have h_m__law_fault := He.glo_ok KX G (c.x.t.d.fact 153 (f := .glo "_law_fault") rfl)
  have h_tb_law := TB ("law", none) (by simp [tf])
  have h_tm_law : ((He.cT K ("law", none)).2, lq_law) ∈ (Gw K).T := by simp [Gw]
  have h_tu_law : ∀ p ∈ (Gw K).T, p.1 = (He.cT K ("law", none)).2 → p.2 = lq_law := fun p hp e => by
    simp only [Gw, List.mem_cons, List.not_mem_nil, or_false] at hp
    rcases hp with rfl | rfl
    · exact absurd (e) (tt_ne (ex_at X0 47))
    · rfl
  have h_su_Form_Form : SupM K (He.ga K "Form") (He.ga K "Form") "__init__" (He.ma K (He.ga K "Paper") "__init__") := supMB_ok (ex_at X0 34)
  have h_su_Alike_Alike : SupM K (He.ga K "Alike") (He.ga K "Alike") "__init__" (He.ma K (He.ga K "Paper") "__init__") := supMB_ok (ex_at X0 35)
  have h_su_Unlike_Unlike : SupM K (He.ga K "Unlike") (He.ga K "Unlike") "__init__" (He.ma K (He.ga K "Paper") "__init__") := supMB_ok (ex_at X0 36)
  have h_su_Enough_Enough : SupM K (He.ga K "Enough") (He.ga K "Enough") "__init__" (He.ma K (He.ga K "Paper") "__init__") := supMB_ok (ex_at X0 37)
  have h_su_Misses_Misses : SupM K (He.ga K "Misses") (He.ga K "Misses") "__init__" (He.ma K (He.ga K "Paper") "__init__") := supMB_ok (ex_at X0 38)
  have h_su_Matters_Matters : SupM K (He.ga K "Matters") (He.ga K "Matters") "__init__" (He.ma K (He.ga K "Paper") "__init__") := supMB_ok (ex_at X0 39)
  have h_su_Mends_Mends : SupM K (He.ga K "Mends") (He.ga K "Mends") "__init__" (He.ma K (He.ga K "Paper") "__init__") := supMB_ok (ex_at X0 40)
  have h_su_Unmended_Unmended : SupM K (He.ga K "Unmended") (He.ga K "Unmended") "__init__" (He.ma K (He.ga K "Paper") "__init__") := supMB_ok (ex_at X0 41)
  have h_su_Spares_Spares : SupM K (He.ga K "Spares") (He.ga K "Spares") "__init__" (He.ma K (He.ga K "Paper") "__init__") := supMB_ok (ex_at X0 42)
  have h_su_Total_Total : SupM K (He.ga K "Total") (He.ga K "Total") "__init__" (He.ma K (He.ga K "Paper") "__init__") := supMB_ok (ex_at X0 43)
  have h_su_Untrue_Untrue : SupM K (He.ga K "Untrue") (He.ga K "Untrue") "__init__" (He.ma K (He.ga K "Paper") "__init__") := supMB_ok (ex_at X0 44)
  have h_su_Passed_Passed : SupM K (He.ga K "Passed") (He.ga K "Passed") "__init__" (He.ma K (He.ga K "Paper") "__init__") := supMB_ok (ex_at X0 45)
  have h_su_Failed_Failed : SupM K (He.ga K "Failed") (He.ga K "Failed") "__init__" (He.ma K (He.ga K "Paper") "__init__") := supMB_ok (ex_at X0 46)
  exact ⟨h_d_is_integer, h_d_PartError_init, h_d_NoName_init, h_d_Misfit_init, h_d_BadText_init, h_d_BadCommand_init, h_d_TooMany_init, h_d_kept, h_d_Paper_init, h_d_Form_init, h_d_Alike_init, h_d_Unlike_init, h_d_Enough_init, h_d_Misses_init, h_d_Matters_init, h_d_Mends_init, h_d_Unmended_init, h_d_Spares_init, h_d_Total_init, h_d_Untrue_init, h_d_Passed_init, h_d_Failed_init, h_d_is_word, h_d_is_kind, h_d_words_of, h_d_paper_text, h_d_made_of, h_d_Opened_init, h_d_Opened_is_full, h_d_Opened_made, h_d_number_of, h_d_plain_of, h_d_Reading_init, h_d_Reading_stop, h_d_Reading_begin, h_d_Reading_put, h_d_Reading_end, h_d_Reading_whole, h_d_read_paper, h_d__law_well, h_d__law_draw, h_d__law_one, h_d__law_said, h_d__law_sizes, h_d__law_is_plain, h_d__law_fault, h_d__law_words, h_d__law_paper_words, h_d__law_deep_right, h_d_law, h_m_law, h_n_int, h_isi, h_n_isinstance, h_n_bool, h_n_list, h_n_tuple, h_m_kept, h_nms, h_n_type, h_na_Failed_word, h_na_Passed_word, h_na_Untrue_word, h_na_Total_word, h_na_Spares_word, h_na_Unmended_word, h_na_Mends_word, h_na_Matters_word, h_na_Misses_word, h_na_Enough_word, h_na_Unlike_word, h_na_Alike_word, h_na_Form_word, h_na_Failed_parts, h_na_Passed_parts, h_na_Untrue_parts, h_na_Total_parts, h_na_Spares_parts, h_na_Unmended_parts, h_na_Mends_parts, h_na_Matters_parts, h_na_Misses_parts, h_na_Enough_parts, h_na_Unlike_parts, h_na_Alike_parts, h_na_Form_parts, h_na_Form_terms, h_na_Form_needs, h_na_Alike_form, h_na_Unlike_script, h_na_Enough_rows, h_na_Misses_script, h_na_Misses_target, h_na_Misses_source, h_na_Matters_idle, h_na_Matters_rows, h_na_Mends_rows, h_na_Unmended_script, h_na_Spares_lots, h_na_Total_form, h_na_Untrue_rows, h_na_Passed_scripts, h_na_Failed_script, h_n_str, h_n_len, h_i_MOST_SIGNS, h_s_LETTERS, h_s_SIGNS, h_n_all, h_m_Paper, h_k_SIZES, h_m_SIZES, h_s_NOTHING, h_m_is_integer, h_n_abs, h_i_MOST_DIGITS, h_m_is_word, h_m_words_of, h_m_is_kind, h_i_MOST_DEEP, h_ox_BadValue, h_sx_BadValue, h_no_BadValue, h_ini_BadValue, h_tyi_BadValue, h_m_BadValue, h_m_Alike, h_c_Alike, h_mk_Alike, h_m_Unlike, h_c_Unlike, h_mk_Unlike, h_m_Passed, h_c_Passed, h_mk_Passed, h_m_Failed, h_c_Failed, h_mk_Failed, h_m_Total, h_c_Total, h_mk_Total, h_m_Untrue, h_c_Untrue, h_mk_Untrue, h_m_Mends, h_c_Mends, h_mk_Mends, h_m_Unmended, h_c_Unmended, h_mk_Unmended, h_m_Spares, h_c_Spares, h_mk_Spares, h_m_Enough, h_c_Enough, h_mk_Enough, h_m_Misses, h_c_Misses, h_mk_Misses, h_m_Form, h_c_Form, h_mk_Form, h_m_Matters, h_c_Matters, h_mk_Matters, h_na_Opened_word, h_na_Opened_told, h_m_made_of, h_s_DIGITS, h_m_number_of, h_na_Reading_words, h_na_Reading_line, h_na_Reading_at, h_na_Reading_begun, h_ox_BadText, h_sx_BadText, h_no_BadText, h_ini_BadText, h_tyi_BadText, h_m_BadText, h_c_Reading, h_me_Reading_stop, h_m_Opened, h_c_Opened, h_mk_Opened, h_me_Opened_is_full, h_me_Opened_made, h_me_Reading_put, h_me_Reading_begin, h_me_Reading_end, h_m_plain_of, h_m_Reading, h_mk_Reading, h_me_Reading_whole, h_n_enumerate, h_n_sum, h_m__law_draw, h_m__law_sizes, h_m__law_is_plain, h_m__law_one, h_n_range, h_m__law_words, h_m__law_paper_words, h_n_sorted, h_m_read_paper, h_saidN, h_saidT, h_m__law_said, h_tb__law_deep_right, h_tm__law_deep_right, h_tu__law_deep_right, h_m_paper_text, h_m__law_well, h_m__law_deep_right, h_m__law_fault, h_tb_law, h_tm_law, h_tu_law, h_su_Form_Form, h_su_Alike_Alike, h_su_Unlike_Unlike, h_su_Enough_Enough, h_su_Misses_Misses, h_su_Matters_Matters, h_su_Mends_Mends, h_su_Unmended_Unmended, h_su_Spares_Spares, h_su_Total_Total, h_su_Untrue_Untrue, h_su_Passed_Passed, h_su_Failed_Failed⟩
end
end K89
set_option Elab.async false
set_option linter.all false
set_option maxRecDepth 100000
set_option maxHeartbeats 0
/-! The top's run. -/
namespace K89
open PySem PySem.Spec PyProof.Rows L2 Sm
abbrev Rw : PySem.W.OpenRow := PySem.W.OpenLaw.row PySem.Challenge.rw_elasticsheets_k89_texts_of_papers_that_c
def asL : List Addr := [2, 3, 6, 4, 21, 31, 53, 65, 77, 89, 110, 131, 152, 173, 185, 206, 213, 244, 265, 286, 307, 328, 349, 370, 391, 412, 433, 454, 475, 496, 517, 538, 541, 546, 553, 558, 565, 572, 603, 612, 619, 671, 682, 687, 694, 701, 708, 715, 720, 727, 732, 737, 744, 751, 0, 20, 30, 52, 64, 76, 88, 109, 130, 151, 172, 184, 205, 212, 243, 264, 285, 306, 327, 348, 369, 390, 411, 432, 453, 474, 495, 516, 537, 545, 552, 557, 564, 571, 602, 611, 618, 670, 681, 686, 693, 700, 707, 714, 719, 726, 731, 736, 743, 750, 15, 16, 17, 18, 19, 29, 32, 50, 51, 63, 75, 87, 107, 108, 128, 129, 149, 150, 170, 171, 183, 203, 204, 209, 210, 211, 227, 234, 241, 242, 245, 246, 262, 263, 283, 284, 304, 305, 325, 326, 346, 347, 367, 368, 388, 389, 409, 410, 430, 431, 451, 452, 472, 473, 493, 494, 514, 515, 535, 536, 542, 543, 544, 547, 548, 549, 550, 551, 554, 555, 556, 559, 560, 561, 562, 563, 566, 567, 568, 569, 570, 586, 593, 600, 601, 604, 605, 608, 609, 610, 613, 614, 615, 616, 617, 633, 640, 647, 654, 661, 668, 669, 672, 673, 676, 677, 678, 679, 680, 683, 684, 685, 688, 689, 690, 691, 692, 695, 696, 697, 698, 699, 702, 703, 704, 705, 706, 709, 710, 711, 712, 713, 716, 717, 718, 721, 722, 723, 724, 725, 728, 729, 730, 733, 734, 735, 738, 739, 740, 741, 742, 745, 746, 747, 748, 749, 49, 38, 106, 95, 127, 116, 148, 137, 169, 158, 202, 191, 226, 233, 240, 261, 282, 271, 303, 292, 324, 313, 345, 334, 366, 355, 387, 376, 408, 397, 429, 418, 450, 439, 471, 460, 492, 481, 513, 502, 534, 523, 585, 592, 599, 632, 639, 646, 653, 660, 667, 44, 45, 46, 47, 48, 101, 102, 103, 104, 105, 122, 123, 124, 125, 126, 143, 144, 145, 146, 147, 164, 165, 166, 167, 168, 197, 198, 199, 200, 201, 221, 222, 223, 224, 225, 228, 229, 230, 231, 232, 235, 236, 237, 238, 239, 256, 257, 258, 259, 260, 277, 278, 279, 280, 281, 298, 299, 300, 301, 302, 319, 320, 321, 322, 323, 340, 341, 342, 343, 344, 361, 362, 363, 364, 365, 382, 383, 384, 385, 386, 403, 404, 405, 406, 407, 424, 425, 426, 427, 428, 445, 446, 447, 448, 449, 466, 467, 468, 469, 470, 487, 488, 489, 490, 491, 508, 509, 510, 511, 512, 529, 530, 531, 532, 533, 580, 581, 582, 583, 584, 587, 588, 589, 590, 591, 594, 595, 596, 597, 598, 627, 628, 629, 630, 631, 634, 635, 636, 637, 638, 641, 642, 643, 644, 645, 648, 649, 650, 651, 652, 655, 656, 657, 658, 659, 662, 663, 664, 665, 666]
abbrev hk : PySem.W.Hook := hookL asL fa fn ts tf ex sd
def ob (s : PySem.W.SharedT) : AlS := obsL asL fa fn ts tf ex sd (HandSHeadRun.getT s)
theorem ob_eq (s : PySem.W.SharedT) : ob s = hk.obs s.abs := obsL_eq (HandSHeadRun.getT_eq s)
def loose : List Str := (["is_integer", "SheetError", "PartError", "BadWorkbook", "BadNumber", "BadValue", "NoName", "Misfit", "BadText", "BadCommand", "Nothing", "TooMany", "kept", "Paper", "Denial", "Form", "Alike", "Unlike", "Enough", "Misses", "Matters", "Mends", "Unmended", "Spares", "Total", "Untrue", "Passed", "Failed", "MOST_DIGITS", "MOST_SIGNS", "MOST_DEEP", "DIGITS", "LETTERS", "SIGNS", "NOTHING", "SIZES", "is_word", "is_kind", "words_of", "paper_text", "made_of", "Opened", "number_of", "plain_of", "Reading", "read_paper", "_law_well", "_law_draw", "_law_one", "_law_said", "_law_sizes", "_law_is_plain", "_law_fault", "_law_words", "_law_paper_words", "_law_deep_right"] : List String).map Str.ofString
theorem run0_0 (w : World) : Part0 Rw (PySem.W.view Rw.prog [69]) 60000 loose (w.withFollow "special-get-raises" false) := by
  intro os
  kernel_rfl
theorem run0_1 (w : World) : PartB Rw 60000 (w.withFollow "special-get-raises" false) asL (fun K => fa.all fun f => f.ok K) := by
  intro os
  kernel_rfl
theorem run0_2 (w : World) : Part3 Rw 60000 (w.withFollow "special-get-raises" false) asL fn ts := by
  intro os
  kernel_rfl
theorem run0_3 (w : World) : Part2 Rw 60000 (w.withFollow "special-get-raises" false) asL tf ex sd := by
  intro os
  kernel_rfl
theorem run1_0 (w : World) : Part0 Rw (PySem.W.view Rw.prog [69]) 60000 loose (w.withFollow "special-get-raises" true) := by
  intro os
  kernel_rfl
theorem run1_1 (w : World) : PartB Rw 60000 (w.withFollow "special-get-raises" true) asL (fun K => fa.all fun f => f.ok K) := by
  intro os
  kernel_rfl
theorem run1_2 (w : World) : Part3 Rw 60000 (w.withFollow "special-get-raises" true) asL fn ts := by
  intro os
  kernel_rfl
theorem run1_3 (w : World) : Part2 Rw 60000 (w.withFollow "special-get-raises" true) asL tf ex sd := by
  intro os
  kernel_rfl
theorem run (w : World) : HandSHeadRun.RunEq Rw (PySem.W.view Rw.prog [69]) hk ob 60000 loose w :=
  PySem.W.byRow2 "special-get-raises" (P := fun w => HandSHeadRun.RunEq Rw (PySem.W.view Rw.prog [69]) hk ob 60000 loose w) (fun w => run_parts (run0_0 w) (run0_1 w) (run0_2 w) (run0_3 w)) (fun w => run_parts (run1_0 w) (run1_1 w) (run1_2 w) (run1_3 w)) w
end K89

set_option Elab.async false
set_option linter.all false
set_option maxRecDepth 100000
set_option maxHeartbeats 4000000
/-! The mirror's steps, as equations. -/
namespace Sm
open PySem PySem.Spec PyProof.Rows L2
/-! ### results -/
def RS.seq (r : RS) (t : SM) : RS := match r with
  | .nx τ1 h1 => t τ1 h1
  | .rt u h1 => .rt u h1
  | .bk τ1 h1 => .bk τ1 h1
  | .ct τ1 h1 => .ct τ1 h1
  | .err e τ1 h1 => .err e τ1 h1
  | .no => .no
def RS.out (r : RS) : R U := match r with
  | .nx _ h1 => .ok .non h1
  | .rt u h1 => .ok u h1
  | .err e _ h1 => .err e h1
  | _ => .no
def R.tst (r : R Bool) (τ : Sl) (s t : SM) : RS := match r with
  | .ok true h => s τ h
  | .ok false h => t τ h
  | .err e h => .err e τ h
  | .no => .no
def R.ite {α : Type} (r : R Bool) (a b : Hs → R α) : R α := match r with
  | .ok true h => a h
  | .ok false h => b h
  | .err e h => .err e h
  | .no => .no
def R.vte {α : Type} (r : R U) (a b : Hs → R α) : R α := match r with
  | .ok (.bl true) h => a h
  | .ok (.bl false) h => b h
  | .ok _ _ => .no
  | .err e h => .err e h
  | .no => .no
def R.bl (r : R U) : R Bool := match r with
  | .ok (.bl b) h => .ok b h
  | .ok _ _ => .no
  | .err e h => .err e h
  | .no => .no
def asgd (o : Option (Sl × Hs)) : RS := match o with
  | some (τ, h) => .nx τ h
  | none => .no
section
variable {α β : Type} {f : α → Hs → R β} {g : α → Hs → RS} {a : α} {h : Hs} {τ : Sl} {e : Ex} {u v : U} {s t : SM} {o : Option U} {r1 r2 : Hs → R α}
@[simp] theorem bind_ok : (R.ok a h).bind f = f a h := rfl
@[simp] theorem bind_err : (R.err e h : R α).bind f = .err e h := rfl
@[simp] theorem bind_no : (R.no : R α).bind f = .no := rfl
@[simp] theorem st_ok : (R.ok a h).st τ g = g a h := rfl
@[simp] theorem st_err : (R.err e h : R α).st τ g = .err e τ h := rfl
@[simp] theorem of_some : R.of (some (a, h)) = .ok a h := rfl
@[simp] theorem of_none : (R.of none : R α) = .no := rfl
@[simp] theorem seq_nx : (RS.nx τ h).seq t = t τ h := rfl
@[simp] theorem seq_rt : (RS.rt u h).seq t = .rt u h := rfl
@[simp] theorem seq_err : (RS.err e τ h).seq t = .err e τ h := rfl
@[simp] theorem out_nx : (RS.nx τ h).out = .ok .non h := rfl
@[simp] theorem out_rt : (RS.rt u h).out = .ok u h := rfl
@[simp] theorem out_err : (RS.err e τ h).out = .err e h := rfl
@[simp] theorem tst_t : (R.ok true h).tst τ s t = s τ h := rfl
@[simp] theorem tst_f : (R.ok false h).tst τ s t = t τ h := rfl
@[simp] theorem tst_e : (R.err e h).tst τ s t = .err e τ h := rfl
@[simp] theorem ite_t : (R.ok true h).ite r1 r2 = r1 h := rfl
@[simp] theorem ite_f : (R.ok false h).ite r1 r2 = r2 h := rfl
@[simp] theorem ite_e : (R.err e h).ite r1 r2 = .err e h := rfl
@[simp] theorem vte_t : (R.ok (.bl true) h).vte r1 r2 = r1 h := rfl
@[simp] theorem vte_f : (R.ok (.bl false) h).vte r1 r2 = r2 h := rfl
@[simp] theorem vte_e : (R.err e h).vte r1 r2 = .err e h := rfl
@[simp] theorem bl_ok {b : Bool} : (R.ok (.bl b) h).bl = .ok b h := rfl
@[simp] theorem bl_err : (R.err e h).bl = .err e h := rfl
@[simp] theorem asgd_some : asgd (some (τ, h)) = .nx τ h := rfl
end
/-! ### expressions -/
section
variable {h h' : Hs} {τ : Sl} {u v w : U} {x0 x1 x2 x3 x4 x5 x6 x7 x8 : Option U} {a b o : EM} {as : AM} {t s : TM} {op : U → U → Hs → Option (U × Hs)} {i j f c : Nat} {fs : List (Nat × U)} {m : FM} {cs : List Nat}
@[simp] theorem var0 : mVar 0 (some u :: τ) h = .ok u h := rfl
@[simp] theorem var1 : mVar 1 (x0 :: some u :: τ) h = .ok u h := rfl
@[simp] theorem var2 : mVar 2 (x0 :: x1 :: some u :: τ) h = .ok u h := rfl
@[simp] theorem var3 : mVar 3 (x0 :: x1 :: x2 :: some u :: τ) h = .ok u h := rfl
@[simp] theorem var4 : mVar 4 (x0 :: x1 :: x2 :: x3 :: some u :: τ) h = .ok u h := rfl
@[simp] theorem var5 : mVar 5 (x0 :: x1 :: x2 :: x3 :: x4 :: some u :: τ) h = .ok u h := rfl
@[simp] theorem var6 : mVar 6 (x0 :: x1 :: x2 :: x3 :: x4 :: x5 :: some u :: τ) h = .ok u h := rfl
@[simp] theorem var7 : mVar 7 (x0 :: x1 :: x2 :: x3 :: x4 :: x5 :: x6 :: some u :: τ) h = .ok u h := rfl
@[simp] theorem var8 : mVar 8 (x0 :: x1 :: x2 :: x3 :: x4 :: x5 :: x6 :: x7 :: some u :: τ) h = .ok u h := rfl
@[simp] theorem var9 : mVar 9 (x0 :: x1 :: x2 :: x3 :: x4 :: x5 :: x6 :: x7 :: x8 :: some u :: τ) h = .ok u h := rfl
@[simp] theorem gN0 : gN 0 u (x0 :: τ) h = some (some u :: τ, h) := rfl
@[simp] theorem gN1 : gN 1 u (x0 :: x1 :: τ) h = some (x0 :: some u :: τ, h) := rfl
@[simp] theorem gN2 : gN 2 u (x0 :: x1 :: x2 :: τ) h = some (x0 :: x1 :: some u :: τ, h) := rfl
@[simp] theorem gN3 : gN 3 u (x0 :: x1 :: x2 :: x3 :: τ) h = some (x0 :: x1 :: x2 :: some u :: τ, h) := rfl
@[simp] theorem gN4 : gN 4 u (x0 :: x1 :: x2 :: x3 :: x4 :: τ) h = some (x0 :: x1 :: x2 :: x3 :: some u :: τ, h) := rfl
@[simp] theorem gN5 : gN 5 u (x0 :: x1 :: x2 :: x3 :: x4 :: x5 :: τ) h = some (x0 :: x1 :: x2 :: x3 :: x4 :: some u :: τ, h) := rfl
@[simp] theorem gN6 : gN 6 u (x0 :: x1 :: x2 :: x3 :: x4 :: x5 :: x6 :: τ) h = some (x0 :: x1 :: x2 :: x3 :: x4 :: x5 :: some u :: τ, h) := rfl
@[simp] theorem gN7 : gN 7 u (x0 :: x1 :: x2 :: x3 :: x4 :: x5 :: x6 :: x7 :: τ) h = some (x0 :: x1 :: x2 :: x3 :: x4 :: x5 :: x6 :: some u :: τ, h) := rfl
@[simp] theorem gN8 : gN 8 u (x0 :: x1 :: x2 :: x3 :: x4 :: x5 :: x6 :: x7 :: x8 :: τ) h = some (x0 :: x1 :: x2 :: x3 :: x4 :: x5 :: x6 :: x7 :: some u :: τ, h) := rfl
@[simp] theorem gN9 {x9 : Option U} : gN 9 u (x0 :: x1 :: x2 :: x3 :: x4 :: x5 :: x6 :: x7 :: x8 :: x9 :: τ) h = some (x0 :: x1 :: x2 :: x3 :: x4 :: x5 :: x6 :: x7 :: x8 :: some u :: τ, h) := rfl
@[simp] theorem e_c : mC u τ h = .ok u h := rfl
@[simp] theorem e_bin : mBin op a b τ h = (a τ h).bind fun x h1 => (b τ h1).bind fun y h2 => .of (op x y h2) := rfl
@[simp] theorem e_T : mT a τ h = (a τ h).bl := by
  show ((a τ h).bind _) = _
  cases a τ h with
  | ok u h1 => cases u <;> rfl
  | _ => rfl
@[simp] theorem e_not : mNot t τ h = (t τ h).bind fun b h1 => .ok (!b) h1 := rfl
@[simp] theorem e_and : mAnd t s τ h = (t τ h).ite (s τ) (fun h1 => .ok false h1) := by
  show ((t τ h).bind _) = _
  cases t τ h with
  | ok u h1 => cases u <;> rfl
  | _ => rfl
@[simp] theorem e_or : mOr t s τ h = (t τ h).ite (fun h1 => .ok true h1) (s τ) := by
  show ((t τ h).bind _) = _
  cases t τ h with
  | ok u h1 => cases u <;> rfl
  | _ => rfl
@[simp] theorem e_V : mV t τ h = (t τ h).bind fun b h1 => .ok (.bl b) h1 := rfl
theorem vte_bind {k1 k2 : Hs → R U} : ((a τ h).bind fun x h1 => match x with
    | .bl true => k1 h1
    | .bl false => k2 h1
    | _ => .no) = (a τ h).vte k1 k2 := by
  cases a τ h with
  | ok u h1 =>
    cases u with
    | bl b => cases b <;> rfl
    | _ => rfl
  | _ => rfl
@[simp] theorem e_andV : mAndV a b τ h = (a τ h).vte (b τ) (fun h1 => .ok (.bl false) h1) := vte_bind
@[simp] theorem e_orV : mOrV a b τ h = (a τ h).vte (fun h1 => .ok (.bl true) h1) (b τ) := vte_bind
@[simp] theorem e_notV : mNotV a τ h = (a τ h).bl.bind fun b h1 => .ok (.bl (!b)) h1 := by
  show ((a τ h).bind _) = _
  cases a τ h with
  | ok u h1 => cases u <;> rfl
  | _ => rfl
@[simp] theorem e_if : mIf t a b τ h = (t τ h).ite (a τ) (b τ) := by
  show ((t τ h).bind _) = _
  cases t τ h with
  | ok u h1 => cases u <;> rfl
  | _ => rfl
@[simp] theorem e_nil : mNil τ h = .ok [] h := rfl
@[simp] theorem e_cons : mCons a as τ h = (a τ h).bind fun x h1 => (as τ h1).bind fun xs h2 => .ok (x :: xs) h2 := rfl
def mkL (xs : List U) (h : Hs) : R U := match fits xs.length with
  | true => .ok (.ref h.n) (h.new (.lst xs))
  | false => .no
def mkT (xs : List U) (h : Hs) : R U := match fits xs.length with
  | true => .ok (.tup xs) h
  | false => .no
theorem fits_of {n : Nat} (hn : n ≤ 16777216) : fits n = true := Nat.ble_eq_true_of_le hn
theorem mkL_ok {xs : List U} (hn : xs.length ≤ 16777216) : mkL xs h = .ok (.ref h.n) (h.new (.lst xs)) := by unfold mkL; rw [fits_of hn]
theorem mkT_ok {xs : List U} (hn : xs.length ≤ 16777216) : mkT xs h = .ok (.tup xs) h := by unfold mkT; rw [fits_of hn]
@[simp] theorem mkL_0 : mkL [] h = .ok (.ref h.n) (h.new (.lst [])) := rfl
@[simp] theorem mkL_1 : mkL [u] h = .ok (.ref h.n) (h.new (.lst [u])) := rfl
@[simp] theorem mkL_2 : mkL [u, v] h = .ok (.ref h.n) (h.new (.lst [u, v])) := rfl
@[simp] theorem mkT_0 : mkT [] h = .ok (.tup []) h := rfl
@[simp] theorem mkT_1 : mkT [u] h = .ok (.tup [u]) h := rfl
@[simp] theorem mkT_2 : mkT [u, v] h = .ok (.tup [u, v]) h := rfl
@[simp] theorem mkT_3 : mkT [u, v, w] h = .ok (.tup [u, v, w]) h := rfl
@[simp] theorem e_lst : mLst as τ h = (as τ h).bind mkL := rfl
@[simp] theorem e_tup : mTup as τ h = (as τ h).bind mkT := rfl
@[simp] theorem e_call : mCall m as τ h = (as τ h).bind m := rfl
@[simp] theorem e_callB {fb : List U → Hs → Option (U × Hs)} : mCallB fb as τ h = (as τ h).bind fun us h1 => .of (fb us h1) := rfl
def getM (c : Nat) (u : U) (h : Hs) (k : Hs → R U) : R U := match u with
  | .ref i => match h.get i with
    | some (.ins c' _) => match Nat.beq c' c with
      | true => k h
      | false => .no
    | _ => .no
  | _ => .no
theorem getM_ok {k : Hs → R U} (e : h.get i = some (.ins c fs)) : getM c (.ref i) h k = k h := by
  simp only [getM, e]
  simp
@[simp] theorem e_meth : mMeth c m o as τ h = (o τ h).bind fun u h1 => getM c u h1 fun h1 => (as τ h1).bind fun us h2 => m (u :: us) h2 := rfl
def made (i : Nat) (r : R U) : R U := match r with
  | .ok .non h => .ok (.ref i) h
  | .ok _ _ => .no
  | .err e h => .err e h
  | .no => .no
@[simp] theorem made_ok : made i (.ok .non h) = .ok (.ref i) h := rfl
@[simp] theorem e_make : mMake c m as τ h = (as τ h).bind fun us h1 => made h1.n (m (.ref h1.n :: us) (h1.new (.ins c []))) := by
  show ((as τ h).bind _) = _
  cases as τ h with
  | ok us h1 =>
    show ((m _ _).bind _) = made _ _
    cases m (.ref h1.n :: us) (h1.new (.ins c [])) with
    | ok u h2 => cases u <;> rfl
    | _ => rfl
  | _ => rfl
def fldU (f : Nat) (u : U) (h : Hs) : R U := match u with
  | .ref i => match h.get i with
    | some (.ins _ fs) => match lkF f fs with
      | some v => .ok v h
      | none => .no
    | _ => .no
  | _ => .no
theorem fldU_ok (e : h.get i = some (.ins c fs)) (q : lkF f fs = some v) : fldU f (.ref i) h = .ok v h := by
  simp only [fldU, e, q]
@[simp] theorem e_fld : mFld f o τ h = (o τ h).bind fun u h1 => fldU f u h1 := rfl
@[simp] theorem e_neg : mNeg a τ h = (a τ h).bind fun u h1 => match u with
  | .int i => .ok (.int (-i)) h1
  | _ => .no := rfl
@[simp] theorem e_slice {lo hi : PM} : mSlice a lo hi τ h = (a τ h).bind fun u h1 => (lo τ h1).bind fun l h2 => (hi τ h2).bind fun r h3 => .of (opSl u l r h3) := rfl
@[simp] theorem e_noP : mNoP τ h = .ok none h := rfl
@[simp] theorem e_part : mPart a τ h = (a τ h).bind fun u h1 => match u with
  | .int i => .ok (some i) h1
  | _ => .no := rfl
def metB (ty : U → Hs → Bool) (u : U) (h : Hs) (r : R U) : R U := match ty u h with
  | true => r
  | false => .no
theorem metB_ok {ty : U → Hs → Bool} {r : R U} (e : ty u h = true) : metB ty u h r = r := by unfold metB; rw [e]
@[simp] theorem metB_str {l : List Nat} {r : R U} : metB isStrU (.str l) h r = r := rfl
theorem metB_lst {xs : List U} {r : R U} (e : h.get i = some (.lst xs)) : metB isLstU (.ref i) h r = r := by
  apply metB_ok
  simp only [isLstU, e]
@[simp] theorem e_metB {ty : U → Hs → Bool} {fb : U → List U → Hs → Option (U × Hs)} : mMetB ty fb o as τ h = (o τ h).bind fun u h1 => metB ty u h1 ((as τ h1).bind fun us h2 => .of (fb u us h2)) := rfl
def inK (l : List (List Nat × Int)) (neg : Bool) (u : U) (h : Hs) : R U := match u with
  | .str z => .ok (.bl (neg != (lookM l z).isSome)) h
  | _ => .no
@[simp] theorem inK_str {l : List (List Nat × Int)} {neg : Bool} {z : List Nat} : inK l neg (.str z) h = .ok (.bl (neg != (lookM l z).isSome)) h := rfl
@[simp] theorem e_inK {l : List (List Nat × Int)} {neg : Bool} : mInK l neg a τ h = (a τ h).bind fun u h1 => inK l neg u h1 := rfl
def ixK (l : List (List Nat × Int)) (u : U) (h : Hs) : R U := match u with
  | .str z => match lookM l z with
    | some i => .ok (.int i) h
    | none => .no
  | _ => .no
theorem ixK_ok {l : List (List Nat × Int)} {z : List Nat} {n : Int} (e : lookM l z = some n) : ixK l (.str z) h = .ok (.int n) h := by
  simp only [ixK, e]
@[simp] theorem e_ixK {l : List (List Nat × Int)} : mIxK l a τ h = (a τ h).bind fun u h1 => ixK l u h1 := rfl
def isiU (cs : List Nat) (sub : Nat → Nat → Option Bool) (cl : List Cl) (u : U) (h1 : Hs) : R U := match kdU u h1 with
  | some k => match (match k with
      | .own c => cs.any (Nat.beq c)
      | _ => true) with
    | true => match anyK sub k cl with
      | some b => .ok (.bl b) h1
      | none => .no
    | false => .no
  | none => .no
@[simp] theorem e_isi {sub : Nat → Nat → Option Bool} {cl : List Cl} : mIsi cs sub cl a τ h = (a τ h).bind fun u h1 => isiU cs sub cl u h1 := rfl
/-! ### statements -/
variable {p q : SM} {g : GM} {gs : GsM}
@[simp] theorem e_seq : mSeq p q τ h = (p τ h).seq q := by
  show (match p τ h with
    | .nx τ1 h1 => q τ1 h1
    | .rt u h1 => .rt u h1
    | .bk τ1 h1 => .bk τ1 h1
    | .ct τ1 h1 => .ct τ1 h1
    | .err e τ1 h1 => .err e τ1 h1
    | .no => .no) = _
  cases p τ h <;> rfl
@[simp] theorem e_nx : mNx τ h = .nx τ h := rfl
@[simp] theorem e_ex : mEx a τ h = (a τ h).st τ fun _ h1 => .nx τ h1 := rfl
@[simp] theorem e_ret : mRet a τ h = (a τ h).st τ fun u h1 => .rt u h1 := rfl
@[simp] theorem e_ifS : mIfS t p q τ h = (t τ h).tst τ p q := by
  show ((t τ h).st τ _) = _
  cases t τ h with
  | ok u h1 => cases u <;> rfl
  | _ => rfl
@[simp] theorem e_asg : mAsg a g τ h = (a τ h).st τ fun u h1 => asgd (g u τ h1) := by
  show ((a τ h).st τ _) = _
  cases a τ h with
  | ok u h1 =>
    show (match g u τ h1 with
      | some (τ2, h2) => RS.nx τ2 h2
      | none => .no) = asgd (g u τ h1)
    cases g u τ h1 <;> rfl
  | _ => rfl
@[simp] theorem e_par : mPar i j as τ h = (as τ h).st τ fun us h1 => match us with
  | [u, w] => .nx ((τ.set i (some u)).set j (some w)) h1
  | _ => .no := rfl
@[simp] theorem gT2 : gT 2 gs (.tup [u, v]) τ h = gs [u, v] τ h := rfl
@[simp] theorem gT3 : gT 3 gs (.tup [u, v, w]) τ h = gs [u, v, w] τ h := rfl
@[simp] theorem e_gNil : gNil [] τ h = some (τ, h) := rfl
def gsB (o : Option (Sl × Hs)) (k : Sl → Hs → Option (Sl × Hs)) : Option (Sl × Hs) := match o with
  | some (τ1, h1) => k τ1 h1
  | none => none
@[simp] theorem gsB_some {k : Sl → Hs → Option (Sl × Hs)} : gsB (some (τ, h)) k = k τ h := rfl
@[simp] theorem e_gCons {us : List U} : gCons g gs (u :: us) τ h = gsB (g u τ h) (gs us) := by
  show (match g u τ h with
    | some (τ1, h1) => gs us τ1 h1
    | none => none) = _
  cases g u τ h <;> rfl
def setF (f : Nat) (cs : List Nat) (u x : U) (τ : Sl) (h : Hs) : RS := match x with
  | .ref i => match putFld f cs h i u with
    | some h3 => .nx τ h3
    | none => .no
  | _ => .no
theorem putFld_ok (e : h.get i = some (.ins c fs)) (hc : cs.any (Nat.beq c) = true) (hl : fs.length < 1000) : putFld f cs h i u = some (h.put i (.ins c (ptF f u fs))) := by
  have : Nat.blt fs.length 1000 = true := by simpa [Nat.blt_eq] using hl
  simp only [putFld, e, hc, this, Bool.and_true]
theorem setF_ok (e : h.get i = some (.ins c fs)) (hc : cs.any (Nat.beq c) = true) (hl : fs.length < 1000) : setF f cs u (.ref i) τ h = .nx τ (h.put i (.ins c (ptF f u fs))) := by
  simp only [setF, putFld_ok e hc hl]
@[simp] theorem e_setF : mSetF f cs o a τ h = (a τ h).st τ fun u h1 => (o τ h1).st τ fun x h2 => setF f cs u x τ h2 := rfl
@[simp] theorem e_raise {fl : List Nat} : mRaise c fl as τ h = (as τ h).st τ fun us h1 => match Nat.beq us.length fl.length && Nat.ble us.length 1000 with
  | true => .err ⟨c, (fl.zip us).reverse⟩ τ h1
  | false => .no := rfl
/-- x.f += e, of ints -/
theorem augF_ok {n k : Int} (ho : o τ h = .ok (.ref i) h) (e : h.get i = some (.ins c fs)) (q : lkF f fs = some (.int n)) (hc : cs.any (Nat.beq c) = true) (hl : fs.length < 1000) (ha : a τ h = .ok (.int k) h) :
    mAugF opAddZ f cs o a τ h = .nx τ (h.put i (.ins c (ptF f (.int (n + k)) fs))) := by
  unfold mAugF
  rw [ho]
  show (match h.get i with
      | some (.ins c fs) => match lkF f fs with
        | some u => match cs.any (Nat.beq c) with
          | true => (a τ h).st τ fun w h2 => match opAddZ u w h2 with
            | some (z, h3) => match putFld f [c] h3 i z with
              | some h4 => RS.nx τ h4
              | none => .no
            | none => .no
          | false => .no
        | none => .no
      | _ => .no) = _
  rw [e]
  simp only [q, hc, ha]
  show (match putFld f [c] h i (.int (n + k)) with
    | some h4 => RS.nx τ h4
    | none => .no) = _
  rw [putFld_ok e (by simp) hl]
/-! ### operations -/
theorem opIxA_lst {xs : List U} {n : Int} {k : Nat} (e : h.get i = some (.lst xs)) (hn : n = (k : Int)) (q : xs[k]? = some u) : opIxA (.ref i) (.int n) h = some (u, h) := by
  have hk : k < xs.length := (List.getElem?_eq_some_iff.mp q).1
  subst hn
  have e1 : ixN xs.length (k : Int) = some k := by
    simp only [ixN]
    rw [if_pos (by omega), if_pos (by omega), Int.toNat_natCast]
  simp only [opIxA, opIx, e, atI, e1]
  simp only [Option.bind_some, q]
theorem opIxA_last {xs : List U} (e : h.get i = some (.lst (xs ++ [u]))) : opIxA (.ref i) (.int (-1)) h = some (u, h) := by
  have e1 : ixN (xs ++ [u]).length (-1) = some xs.length := by
    have : (-1 + ((xs ++ [u]).length : Int)).toNat = xs.length := by
      rw [List.length_append]
      simp
      omega
    simp only [ixN]
    rw [if_neg (by omega), if_pos (by rw [List.length_append]; simp; omega)]
    rw [this]
  simp only [opIxA, opIx, e, atI, e1]
  simp
theorem opIxA_dic {kvs : List (Ky × U)} {l : List Nat} (e : h.get i = some (.dic kvs)) (q : getD kvs (.inr l) = some u) : opIxA (.ref i) (.str l) h = some (u, h) := by
  simp [opIxA, e, toKey, q]
theorem fLen_lst {xs : List U} (e : h.get i = some (.lst xs)) : fLen [.ref i] h = some (.int (xs.length : Nat), h) := by
  simp [fLen, e]
theorem fLen_str {l : List Nat} (hl : l.length ≤ 16777216) : fLen [.str l] h = some (.int (l.length : Nat), h) := by
  simp [fLen, fits_of hl, pick]
theorem fAppend_ok {xs : List U} (e : h.get i = some (.lst xs)) (hl : xs.length + 1 ≤ 16777216) : fAppend (.ref i) [u] h = some (.non, h.put i (.lst (xs ++ [u]))) := by
  simp [fAppend, e, fits_of hl]
theorem fPop_ok {xs : List U} (e : h.get i = some (.lst (xs ++ [u]))) : fPop (.ref i) [] h = some (u, h.put i (.lst xs)) := by
  simp [fPop, fPop0, e]
@[simp] theorem opEq_int {n k : Int} : opEq (.int n) (.int k) h = some (.bl (eqZ n k), h) := rfl
@[simp] theorem opEq_str {n k : List Nat} : opEq (.str n) (.str k) h = some (.bl (eqN n k), h) := rfl
@[simp] theorem opNe_str {n k : List Nat} : opNe (.str n) (.str k) h = some (.bl (!eqN n k), h) := rfl
@[simp] theorem opNe_int {n k : Int} : opNe (.int n) (.int k) h = some (.bl (!eqZ n k), h) := rfl
@[simp] theorem opAdd_int {n k : Int} : opAdd (.int n) (.int k) h = some (.int (n + k), h) := rfl
@[simp] theorem opSub_int {n k : Int} : opSub (.int n) (.int k) h = some (.int (n - k), h) := rfl
@[simp] theorem opLt_int {n k : Int} : opLt (.int n) (.int k) h = some (.bl (decide (n < k)), h) := rfl
@[simp] theorem opLe_int {n k : Int} : opLe (.int n) (.int k) h = some (.bl (decide (n ≤ k)), h) := rfl
@[simp] theorem opGt_int {n k : Int} : opGt (.int n) (.int k) h = some (.bl (decide (k < n)), h) := rfl
@[simp] theorem opIsN_non : opIsN u .non h = some (.bl (isNon u), h) := rfl
@[simp] theorem opNotN_non : opNotN u .non h = some (.bl (!isNon u), h) := rfl
@[simp] theorem isNon_non : isNon .non = true := rfl
@[simp] theorem isNon_str {l : List Nat} : isNon (.str l) = false := rfl
@[simp] theorem isNon_int {n : Int} : isNon (.int n) = false := rfl
@[simp] theorem isNon_tup {l : List U} : isNon (.tup l) = false := rfl
@[simp] theorem isNon_ref : isNon (.ref i) = false := rfl
theorem opAdd_lst {xs ys : List U} (e : h.get i = some (.lst xs)) (e2 : h.get j = some (.lst ys)) (hl : xs.length + ys.length ≤ 16777216) : opAdd (.ref i) (.ref j) h = some (.ref h.n, h.new (.lst (xs ++ ys))) := by
  simp [opAdd, e, e2, fits_of hl]
end
theorem eqN_same {a : List Nat} : eqN a a = true := eqN_iff.mpr rfl
theorem eqN_dec {a b : List Nat} : eqN a b = decide (a = b) := by
  by_cases h : a = b
  · subst h
    simp [eqN_same]
  · have : eqN a b = false := by
      cases e : eqN a b with
      | true => exact absurd (eqN_iff.mp e) h
      | false => rfl
    simp [this, h]
theorem eqZ_iff {i j : Int} : eqZ i j = true ↔ i = j := by
  cases i <;> cases j <;> simp [eqZ] <;> omega
theorem eqZ_dec {i j : Int} : eqZ i j = decide (i = j) := by
  by_cases h : i = j
  · subst h
    simp [eqZ_iff.mpr]
  · have : eqZ i j = false := by
      cases e : eqZ i j with
      | true => exact absurd (eqZ_iff.mp e) h
      | false => rfl
    simp [this, h]
/-! ### what stays of the heap -/
/-- all stands but what X says -/
structure Fr (X : Nat → Prop) (h h' : Hs) : Prop where
  w0 : h.wf
  wf : h'.wf
  le : h.n ≤ h'.n
  at_ : ∀ i, i < h.n → ¬ X i → h'.get i = h.get i
abbrev nX : Nat → Prop := fun _ => False
section
variable {X Y : Nat → Prop} {h h1 h2 : Hs} {i : Nat} {o : O}
theorem Fr.refl (w : h.wf) : Fr X h h := ⟨w, w, Nat.le_refl _, fun _ _ _ => rfl⟩
theorem Fr.trans (a : Fr X h h1) (b : Fr X h1 h2) : Fr X h h2 := ⟨a.w0, b.wf, Nat.le_trans a.le b.le, fun i hi nx => (b.at_ i (Nat.lt_of_lt_of_le hi a.le) nx).trans (a.at_ i hi nx)⟩
theorem Fr.mono (a : Fr X h h1) (k : ∀ i, i < h.n → X i → Y i) : Fr Y h h1 := ⟨a.w0, a.wf, a.le, fun i hi ny => a.at_ i hi fun x => ny (k i hi x)⟩
theorem Fr.up (a : Fr nX h h1) : Fr Y h h1 := a.mono fun _ _ z => z.elim
theorem Fr.new (w : h.wf) : Fr X h (h.new o) := ⟨w, Hs.wf_new w, by rw [Hs.new_n]; omega, fun i hi _ => by rw [Hs.get_new w, if_neg (by omega)]⟩
theorem Fr.put (w : h.wf) (hi : i < h.n) (x : X i) : Fr X h (h.put i o) := ⟨w, Hs.wf_put w hi, Nat.le_refl _, fun j hj nx => Hs.get_put_ne w hi fun e => nx (by rw [e]; exact x)⟩
theorem Fr.get (F : Fr X h h1) (e : h.get i = some o) (nx : ¬ X i) : h1.get i = some o := by rw [F.at_ i (Hs.lt F.w0 e) nx]; exact e
theorem Fr.gets (F : Fr nX h h1) (e : h.get i = some o) : h1.get i = some o := F.get e fun z => z
/-- behind what is new to h -/
theorem Fr.from_new {b : Nat} (F : Fr (fun i => b ≤ i ∨ X i) h h1) (hb : h.n ≤ b) : Fr X h h1 := F.mono fun i hi z => z.elim (fun q => by omega) id
theorem get_lt (w : h.wf) (e : h.get i = some o) : i < h.n := Hs.lt w e
end
end Sm

set_option Elab.async false
set_option linter.all false
set_option maxRecDepth 100000
set_option maxHeartbeats 4000000
/-! Comprehensions and loops by what they keep. -/
namespace Sm
open PySem PySem.Spec PyProof.Rows L2
section
variable {it : MIt} {vs : List Nat} {tg : Tgt} {t : TM} {e : EM} {τ : Sl} {us : List U} {h h' : Hs}
theorem lcGo_inv (I : Nat → List U → Hs → Prop) (hat : ∀ j acc h, I j acc h → it.at j h = some us[j]?)
    (turn : ∀ j u acc h, us[j]? = some u → I j acc h → ∃ τ2, tg.set u (wipeU vs τ) = some τ2 ∧ ((∃ h1 y h2, t τ2 h = .ok true h1 ∧ e τ2 h1 = .ok y h2 ∧ I (j + 1) (acc ++ [y]) h2) ∨ ∃ h1, t τ2 h = .ok false h1 ∧ I (j + 1) acc h1)) :
    ∀ f j acc h, us.length < f + j → j ≤ us.length → I j acc h → ∃ ys h', mLcGo it vs tg t e τ f j h = .ok ys h' ∧ I us.length (acc ++ ys) h'
  | 0, j, acc, h, hf, hj, i => by omega
  | f + 1, j, acc, h, hf, hj, i => by
    have e1 := hat j acc h i
    unfold mLcGo
    simp only [e1]
    cases eu : us[j]? with
    | none =>
      have : j = us.length := by
        have := List.getElem?_eq_none_iff.mp eu
        omega
      subst this
      exact ⟨[], h, rfl, by simpa using i⟩
    | some u =>
      have hj2 : j < us.length := (List.getElem?_eq_some_iff.mp eu).1
      obtain ⟨τ2, e2, e3⟩ := turn j u acc h eu i
      simp only [e2]
      rcases e3 with ⟨h1, y, h2, e3, e4, i2⟩ | ⟨h1, e3, i2⟩
      · obtain ⟨ys, h', e5, i3⟩ := lcGo_inv I hat turn f (j + 1) (acc ++ [y]) h2 (by omega) (by omega) i2
        exact ⟨y :: ys, h', by simp only [e3, e4, e5], by simpa using i3⟩
      · obtain ⟨ys, h', e5, i3⟩ := lcGo_inv I hat turn f (j + 1) acc h1 (by omega) (by omega) i2
        exact ⟨ys, h', by simp only [e3, e5], i3⟩
/-- what a comprehension leaves -/
def lcEnd (r : R (List U)) : R U := match r with
  | .ok xs h2 => mkL xs h2
  | _ => .no
@[simp] theorem lcEnd_ok {xs : List U} : lcEnd (.ok xs h) = mkL xs h := rfl
theorem e_lc {mi : IM} {f : Nat} : mLc mi vs tg t e f τ h = (mi τ h).bind fun it h1 => lcEnd (mLcGo it vs tg t e τ f 0 h1) := by
  show ((mi τ h).bind _) = _
  congr 1
/-- one that writes nothing -/
theorem lcGo_pure {P : U → Bool} {F : U → U} (hat : ∀ j, it.at j h = some us[j]?) (turn : ∀ u ∈ us, ∃ τ2, tg.set u (wipeU vs τ) = some τ2 ∧ t τ2 h = .ok (P u) h ∧ (P u = true → e τ2 h = .ok (F u) h)) {f : Nat} (hf : us.length < f) :
    mLcGo it vs tg t e τ f 0 h = .ok ((us.filter P).map F) h := by
  have key := lcGo_inv (it := it) (vs := vs) (tg := tg) (t := t) (e := e) (τ := τ) (us := us) (fun j acc h1 => h1 = h ∧ acc = ((us.take j).filter P).map F) (fun j acc h1 i => by rw [i.1]; exact hat j) (fun j u acc h1 eu i => by
    obtain ⟨rfl, rfl⟩ := i
    obtain ⟨hj, ej⟩ := List.getElem?_eq_some_iff.mp eu
    obtain ⟨τ2, a, b, c⟩ := turn u (List.mem_of_getElem? eu)
    refine ⟨τ2, a, ?_⟩
    have tk : us.take (j + 1) = us.take j ++ [u] := by rw [List.take_succ, eu]; rfl
    cases q : P u with
    | true =>
      rw [q] at b
      exact .inl ⟨_, _, _, b, c q, rfl, by rw [tk, List.filter_append, List.map_append]; simp [q]⟩
    | false =>
      rw [q] at b
      exact .inr ⟨_, b, rfl, by rw [tk, List.filter_append, List.map_append]; simp [q]⟩) f 0 [] h (by omega) (by omega) ⟨rfl, by simp⟩
  obtain ⟨ys, h', e1, rfl, e2⟩ := key
  rw [e1]
  simp at e2
  rw [e2]
@[simp] theorem mYes_at : mYes τ h = .ok true h := rfl
@[simp] theorem set_one {i : Nat} {u : U} : (Tgt.one i).set u τ = some (τ.set i (some u)) := rfl
/-- a source -/
@[simp] theorem e_seqI {m : EM} : mSeqI m τ h = (m τ h).bind fun u h1 => match u with
  | .ref i => match h1.get i with
    | some (.lst _) => .ok (.live i) h1
    | _ => .no
  | .tup xs => .ok (.vals xs) h1
  | .frz xs => .ok (.vals xs) h1
  | .str l => .ok (.vals (l.map fun c => .str [c])) h1
  | _ => .no := rfl
theorem seqI_str {m : EM} {l : List Nat} (e : m τ h = .ok (.str l) h') : mSeqI m τ h = .ok (.vals (l.map fun c => .str [c])) h' := by
  rw [e_seqI, e]
  rfl
theorem seqI_tup {m : EM} {l : List U} (e : m τ h = .ok (.tup l) h') : mSeqI m τ h = .ok (.vals l) h' := by
  rw [e_seqI, e]
  rfl
theorem seqI_frz {m : EM} {l : List U} (e : m τ h = .ok (.frz l) h') : mSeqI m τ h = .ok (.vals l) h' := by
  rw [e_seqI, e]
  rfl
theorem seqI_lst {m : EM} {l : List U} {i : Nat} (e : m τ h = .ok (.ref i) h') (g : h'.get i = some (.lst l)) : mSeqI m τ h = .ok (.live i) h' := by
  rw [e_seqI, e]
  simp only [bind_ok, g]
theorem at_vals {xs : List U} {j : Nat} : (MIt.vals xs).at j h = some xs[j]? := rfl
theorem at_live {xs : List U} {j i : Nat} (g : h.get i = some (.lst xs)) : (MIt.live i).at j h = some xs[j]? := by simp only [MIt.at, g]
theorem at_liveE {xs : List U} {j i : Nat} (g : h.get i = some (.lst xs)) : (MIt.liveE i).at j h = some ((xs[j]?).map fun u => .tup [.int (j : Nat), u]) := by
  simp only [MIt.at, g]
  cases xs[j]? <;> rfl
theorem at_valsE {xs : List U} {j : Nat} : (MIt.valsE xs).at j h = some ((xs[j]?).map fun u => .tup [.int (j : Nat), u]) := by
  simp only [MIt.at]
  cases xs[j]? <;> rfl
theorem upTo_len : ∀ {lo : Int} {n : Nat}, (upTo lo n).length = n
  | _, 0 => rfl
  | lo, n + 1 => by
    show (upTo (lo + 1) n).length + 1 = n + 1
    rw [upTo_len]
theorem seqI_rng {as : AM} {n : Nat} (e : as τ h = .ok [.int (n : Int)] h') (hn : n < 4611686018427387904) : mRng1 as τ h = .ok (.vals (upTo 0 n)) h' := by
  have : Nat.blt (n : Int).natAbs 4611686018427387904 = true := by
    rw [Int.natAbs_natCast]
    simpa [Nat.blt_eq] using hn
  unfold mRng1
  rw [e]
  simp only [bind_ok, this, Int.toNat_natCast]
/-- a comprehension over a text, that writes nothing -/
theorem lc_str {m : EM} {l : List Nat} {i f : Nat} {P : Nat → Bool} {F : Nat → U} (em : m τ h = .ok (.str l) h) (hl : l.length < f) (hl2 : l.length ≤ 16777216)
    (turn : ∀ c ∈ l, t ((wipeU vs τ).set i (some (.str [c]))) h = .ok (P c) h ∧ (P c = true → e ((wipeU vs τ).set i (some (.str [c]))) h = .ok (F c) h)) :
    mLc (mSeqI m) vs (.one i) t e f τ h = .ok (.ref h.n) (h.new (.lst ((l.filter P).map F))) := by
  rw [e_lc, seqI_str em]
  simp only [bind_ok]
  let P' : U → Bool := fun u => match u with
    | .str [c] => P c
    | _ => false
  let F' : U → U := fun u => match u with
    | .str [c] => F c
    | _ => .non
  have q := lcGo_pure (it := .vals (l.map fun c => .str [c])) (us := l.map fun c => .str [c]) (vs := vs) (tg := .one i) (t := t) (e := e) (τ := τ) (h := h) (P := P') (F := F') (fun j => rfl) (fun u hu => by
    obtain ⟨c, hc, rfl⟩ := List.mem_map.mp hu
    obtain ⟨a, b⟩ := turn c hc
    exact ⟨_, rfl, a, b⟩) (f := f) (by simpa using hl)
  rw [q]
  have e3 : ((l.map fun c => U.str [c]).filter P').map F' = (l.filter P).map F := by
    rw [List.filter_map, List.map_map]
    rfl
  rw [e3, lcEnd_ok, mkL_ok]
  rw [List.length_map]
  exact Nat.le_trans (List.length_filter_le _ _) hl2
end
/-! ### for -/
section
variable {it : MIt} {g : GM} {b : SM} {us : List U}
theorem forI_inv (I : Nat → Sl → Hs → Prop) (Z : U → Hs → Prop) (hat : ∀ j τ h, I j τ h → it.at j h = some us[j]?)
    (turn : ∀ j u τ h, us[j]? = some u → I j τ h → ∃ τ1 h1, g u τ h = some (τ1, h1) ∧ ((∃ τ2 h2, b τ1 h1 = .nx τ2 h2 ∧ I (j + 1) τ2 h2) ∨ ∃ v h2, b τ1 h1 = .rt v h2 ∧ Z v h2)) :
    ∀ f j τ h, us.length < f + j → j ≤ us.length → I j τ h → (∃ τ' h', mForI it g b f j τ h = .nx τ' h' ∧ I us.length τ' h') ∨ ∃ v h', mForI it g b f j τ h = .rt v h' ∧ Z v h'
  | 0, j, τ, h, hf, hj, i => by omega
  | f + 1, j, τ, h, hf, hj, i => by
    have e1 := hat j τ h i
    unfold mForI
    simp only [e1]
    cases eu : us[j]? with
    | none =>
      have : j = us.length := by
        have := List.getElem?_eq_none_iff.mp eu
        omega
      subst this
      exact .inl ⟨τ, h, rfl, i⟩
    | some u =>
      have hj2 : j < us.length := (List.getElem?_eq_some_iff.mp eu).1
      obtain ⟨τ1, h1, e2, e3⟩ := turn j u τ h eu i
      simp only [e2]
      rcases e3 with ⟨τ2, h2, e3, i2⟩ | ⟨v, h2, e3, z⟩
      · simp only [e3]
        exact forI_inv I Z hat turn f (j + 1) τ2 h2 (by omega) (by omega) i2
      · simp only [e3]
        exact .inr ⟨v, h2, rfl, z⟩
@[simp] theorem e_forE {m : IM} {f : Nat} {τ : Sl} {h : Hs} : mForE m g b f τ h = (m τ h).st τ fun it h1 => mForI it g b f 0 τ h1 := rfl
/-- while, by a number that falls -/
theorem while_inv {c : TM} (I : Nat → Sl → Hs → Prop) (D : Sl → Hs → Prop) (Z : U → Hs → Prop) (E : Ex → Hs → Prop)
    (turn : ∀ n τ h, I n τ h → (∃ h1, c τ h = .ok false h1 ∧ D τ h1) ∨ (∃ h1, c τ h = .ok true h1 ∧ ((∃ τ2 h2 k, b τ h1 = .nx τ2 h2 ∧ k < n ∧ I k τ2 h2) ∨ (∃ v h2, b τ h1 = .rt v h2 ∧ Z v h2) ∨ ∃ e τ2 h2, b τ h1 = .err e τ2 h2 ∧ E e h2))) :
    ∀ f n τ h, n < f → I n τ h → (∃ τ' h', mWhile c b f τ h = .nx τ' h' ∧ D τ' h') ∨ (∃ v h', mWhile c b f τ h = .rt v h' ∧ Z v h') ∨ ∃ e τ' h', mWhile c b f τ h = .err e τ' h' ∧ E e h'
  | 0, n, τ, h, hf, i => by omega
  | f + 1, n, τ, h, hf, i => by
    unfold mWhile
    rcases turn n τ h i with ⟨h1, e1, d⟩ | ⟨h1, e1, e2⟩
    · rw [e1]
      exact .inl ⟨τ, h1, rfl, d⟩
    · rw [e1]
      simp only [st_ok]
      rcases e2 with ⟨τ2, h2, k, e2, hk, i2⟩ | ⟨v, h2, e2, z⟩ | ⟨e, τ2, h2, e2, z⟩
      · simp only [e2]
        exact while_inv I D Z E turn f k τ2 h2 (by omega) i2
      · simp only [e2]
        exact .inr (.inl ⟨v, h2, rfl, z⟩)
      · simp only [e2]
        exact .inr (.inr ⟨e, τ2, h2, rfl, z⟩)
end
end Sm

set_option Elab.async false
set_option linter.all false
set_option maxRecDepth 100000
set_option maxHeartbeats 4000000
/-! Words. -/
namespace Sm
open PySem PySem.Spec PyProof.Rows L2
theorem cut_hd {l : List Nat} : cut l none (some 1) = l.take 1 := by
  cases l with
  | nil => rfl
  | cons c r =>
    have e : HT.sIx (c :: r).length (c :: r).length (some 1) = 1 := by
      rw [show (some (1 : Int)) = some ((1 : Nat) : Int) from rfl, HT.sIx_nat]
      show min 1 (r.length + 1) = 1
      omega
    unfold cut
    rw [e]
    rfl
theorem cut_tl {l : List Nat} : cut l (some 1) none = l.drop 1 := by
  cases l with
  | nil => rfl
  | cons c r =>
    have e : HT.sIx (c :: r).length 0 (some 1) = 1 := by
      rw [show (some (1 : Int)) = some ((1 : Nat) : Int) from rfl, HT.sIx_nat]
      show min 1 (r.length + 1) = 1
      omega
    unfold cut
    rw [e]
    show List.take (r.length + 1 - 1) r = r
    rw [Nat.add_sub_cancel]
    exact List.take_length
section
variable {h : Hs} {i j : Nat} {xs : List U} {l : List Nat}
theorem opEq_nil (e : h.get i = some (.lst xs)) (e2 : h.get j = some (.lst [])) : opEq (.ref i) (.ref j) h = some (.bl xs.isEmpty, h) := by
  have d2 : isD 64 h (.ref j) = true := by
    show (match h.get j with
    | some (.lst xs) => allU (isD 63 h) xs
    | _ => false) = true
    rw [e2]
    rfl
  unfold opEq
  rw [d2, Bool.and_true]
  cases d : isD 64 h (.ref i) with
  | true =>
    have : eqD 64 h (.ref i) (.ref j) = xs.isEmpty := by
      show (match h.get i, h.get j with
        | some (.lst xs), some (.lst ys) => all2 (eqD 63 h) xs ys
        | _, _ => false) = _
      rw [e, e2]
      cases xs <;> rfl
    simp only [this]
  | false =>
    have hx : xs ≠ [] := fun z => by
      subst z
      have d3 : isD 64 h (.ref i) = true := by
        show (match h.get i with
        | some (.lst xs) => allU (isD 63 h) xs
        | _ => false) = true
        rw [e]
        rfl
      rw [d3] at d
      cases d
    have : unl h (.ref i) (.ref j) = true := by
      show (match h.get i, h.get j with
        | some (.lst xs), some (.lst ys) => !(Nat.beq xs.length ys.length)
        | _, _ => false) = true
      rw [e, e2]
      cases xs with
      | nil => exact absurd rfl hx
      | cons a r => rfl
    simp only [this, pick]
    cases xs with
    | nil => exact absurd rfl hx
    | cons a r => rfl
theorem allU_map {α : Type} {p : U → Bool} {f : α → U} (hp : ∀ a, p (f a) = true) : ∀ l : List α, allU p (l.map f) = true
  | [] => rfl
  | a :: r => by
    show (match p (f a) with
      | true => allU p (r.map f)
      | false => false) = true
    rw [hp a]
    exact allU_map hp r
theorem isD_strs {ls : List (List Nat)} (e : h.get i = some (.lst (ls.map U.str))) : isD 64 h (.ref i) = true := by
  show (match h.get i with
    | some (.lst xs) => allU (isD 63 h) xs
    | _ => false) = true
  rw [e]
  exact allU_map (fun _ => rfl) ls
theorem opNe_nil {ls : List (List Nat)} (e : h.get i = some (.lst (ls.map U.str))) (e2 : h.get j = some (.lst [])) : opNe (.ref i) (.ref j) h = some (.bl (!ls.isEmpty), h) := by
  have d2 : isD 64 h (.ref j) = true := isD_strs (ls := []) e2
  have : eqD 64 h (.ref i) (.ref j) = ls.isEmpty := by
    show (match h.get i, h.get j with
      | some (.lst xs), some (.lst ys) => all2 (eqD 63 h) xs ys
      | _, _ => false) = _
    rw [e, e2]
    cases ls <;> rfl
  unfold opNe
  rw [d2, isD_strs e, this]
  rfl
@[simp] theorem opSl_str {lo hi : Option Int} : opSl (.str l) lo hi h = (if fits l.length = true then some (.str (cut l lo hi), h) else none) := by
  simp only [opSl]
  cases fits l.length <;> rfl
@[simp] theorem opInA_chr {c : Nat} {neg : Bool} : opInA neg (.str [c]) (.str l) h = some (.bl (neg != memN c l), h) := by
  cases neg
  · show some (U.bl (memN c l), h) = _
    simp
  · show some (U.bl (!memN c l), h) = _
    simp
theorem opIxA_chr {c : Nat} {r : List Nat} (hl : (c :: r).length ≤ 16777216) : opIxA (.str (c :: r)) (.int 0) h = some (.str [c], h) := by
  have : atI (c :: r) 0 = some c := by
    unfold atI ixN
    rw [if_pos (by omega), if_pos (by simp)]
    rfl
  simp only [opIxA, opIx, fits_of hl, this]
theorem fAll_ok {bs : List Bool} (e : h.get i = some (.lst (bs.map U.bl))) : fAll [.ref i] h = some (.bl (bs.all id), h) := by
  have e1 : ∀ bs : List Bool, bools (bs.map U.bl) = some bs := fun bs => by
    induction bs with
    | nil => rfl
    | cons b r ih =>
      show (match bools (r.map U.bl) with
        | some l => some (b :: l)
        | none => none) = _
      rw [ih]
  have e2 : ∀ bs : List Bool, allB bs = bs.all id := fun bs => by
    induction bs with
    | nil => rfl
    | cons b r ih => cases b <;> simp [allB, ih]
  show (match h.get i with
    | some (.lst xs) => match bools xs with
      | some l => some (U.bl (allB l), h)
      | none => none
    | _ => none) = _
  rw [e]
  simp only [e1, e2]
@[simp] theorem eqN_00 : eqN [] [] = true := rfl
@[simp] theorem eqN_c0 {c : Nat} : eqN (c :: l) [] = false := rfl
@[simp] theorem eqN_0c {c : Nat} : eqN [] (c :: l) = false := rfl
@[simp] theorem isi_str {cs : List Nat} {sub : Nat → Nat → Option Bool} : isiU cs sub [.str] (.str l) h = .ok (.bl true) h := rfl
end
end Sm
namespace K89
open PySem PySem.Spec PyProof.Rows L2 Sm
def letters : List Nat := [97, 98, 99, 100, 101, 102, 103, 104, 105, 106, 107, 108, 109, 110, 111, 112, 113, 114, 115, 116, 117, 118, 119, 120, 121, 122]
def signs : List Nat := [97, 98, 99, 100, 101, 102, 103, 104, 105, 106, 107, 108, 109, 110, 111, 112, 113, 114, 115, 116, 117, 118, 119, 120, 121, 122, 48, 49, 50, 51, 52, 53, 54, 55, 56, 57, 46]
def digits : List Nat := [48, 49, 50, 51, 52, 53, 54, 55, 56, 57]
def isWordB (w : List Nat) : Bool := match w with
  | [] => false
  | c :: r => decide ((c :: r).length ≤ 100) && (memN c letters && (c :: r).all fun d => memN d signs)
section
variable {n : Nat} {h : Hs} {w : List Nat}
theorem f16 : fam (n + 1) 16 [.str w] h = (b_is_word (fam n) [some (.str w), none] h).out := rfl
theorem lenD (l : List Nat) (k : Nat) : decide (((k : Nat) : Int) < ((l.length : Nat) : Int)) = !decide (l.length ≤ k) := by
  by_cases h : l.length ≤ k
  · rw [decide_eq_false (by omega), decide_eq_true h]; rfl
  · rw [decide_eq_true (by omega), decide_eq_false h]; rfl
theorem is_word_ok (hw : h.wf) (hl : w.length ≤ 1000) : ∃ h', fam (n + 1) 16 [.str w] h = .ok (.bl (isWordB w)) h' ∧ Fr nX h h' := by
  rw [f16]
  cases w with
  | nil => exact ⟨h, by simp [b_is_word, isWordB], Fr.refl hw⟩
  | cons c r =>
    have h3 := lenD (c :: r) 100
    have h3' : decide ((100 : Int) < (((c :: r).length : Nat) : Int)) = !decide ((c :: r).length ≤ 100) := h3
    by_cases h1 : (c :: r).length ≤ 100
    · rw [decide_eq_true h1] at h3'
      cases h2 : memN c letters with
      | false =>
        refine ⟨h, ?_, Fr.refl hw⟩
        have h2' := h2
        unfold letters at h2'
        simp [b_is_word, fLen_str (l := c :: r) (by omega), opIxA_chr (c := c) (r := r) (by omega), isWordB, h2, h2', h3', -List.length_cons]
      | true =>
        refine ⟨_, ?_, Fr.new (o := .lst (((c :: r).map fun d => memN d signs).map U.bl)) hw⟩
        have h2' := h2
        unfold letters at h2'
        have lc := lc_str (τ := [some (.str (c :: r)), none]) (h := h) (m := mVar 0) (vs := [1]) (i := 1) (t := mYes) (f := fu) (l := c :: r) (P := fun _ => true) (F := fun d => .bl (memN d signs))
          (e := mBin (opInA false) (mVar 1) (mC (.str signs))) rfl (Nat.lt_of_le_of_lt hl (by decide)) (by omega) (fun d hd => ⟨rfl, fun _ => by simp [wipeU]⟩)
        rw [List.filter_eq_self.mpr (fun _ _ => rfl), show ((c :: r).map fun d => U.bl (memN d signs)) = ((c :: r).map fun d => memN d signs).map U.bl by simp] at lc
        have fa := fAll_ok (h := h.new (.lst (((c :: r).map fun d => memN d signs).map U.bl))) (i := h.n) (bs := (c :: r).map fun d => memN d signs) (Hs.get_new_same hw)
        have q : (List.map (fun d => memN d signs) (c :: r)).all id = (c :: r).all fun d => memN d signs := by rw [List.all_map]; rfl
        have e9 : decide ((c :: r).length ≤ 100) = true := decide_eq_true h1
        simp only [isWordB, h2, Bool.true_and, e9, ← q]
        generalize ((c :: r).map fun d => memN d signs) = bs at lc fa
        unfold signs at lc
        simp [b_is_word, fLen_str (l := c :: r) (by omega), opIxA_chr (c := c) (r := r) (by omega), h2', h3', lc, fa, -List.length_cons]
    · rw [decide_eq_false h1] at h3'
      refine ⟨h, ?_, Fr.refl hw⟩
      have e9 : decide ((c :: r).length ≤ 100) = false := decide_eq_false h1
      simp [b_is_word, fLen_str (l := c :: r) (by omega), isWordB, h3', e9, -List.length_cons]
end
end K89

set_option Elab.async false
set_option linter.all false
set_option maxRecDepth 100000
set_option maxHeartbeats 4000000
/-! Numbers, plain words. -/
namespace K89
open PySem PySem.Spec PyProof.Rows L2 Sm
/-- the part behind a sign -/
def bodyW (w : List Nat) : List Nat := if eqN (w.take 1) [45] = true then w.drop 1 else w
def numB (w : List Nat) : Bool := !(bodyW w).isEmpty && (decide ((bodyW w).length ≤ 400) && ((bodyW w).all (fun d => memN d digits) && !(eqN ((bodyW w).take 1) [48] && !eqN w [48])))
def numU (w : List Nat) : U := if numB w = true then (match parse w with | some i => .int i | none => .non) else .non
def plainU (w : List Nat) : List U := if eqN w [45] = true then [.non] else if isWordB w = true then [.str w] else match numU w with
  | .non => []
  | u => [u]
section
variable {n : Nat} {h : Hs} {w : List Nat}
theorem f24 : fam (n + 1) 24 [.str w] h = (b_number_of (fam n) [some (.str w), none, none] h).out := rfl
theorem body_at {τ : Sl} (hl : w.length ≤ 1000) : mIf (mT (mBin (opEq) (mSlice (mVar 0) mNoP (mPart (mC (.int 1)))) (mC (.str [45])))) (mSlice (mVar 0) (mPart (mC (.int 1))) mNoP) (mVar 0) (some (.str w) :: τ) h = .ok (.str (bodyW w)) h := by
  have e := fits_of (n := w.length) (by omega)
  unfold bodyW
  simp only [e_if, e_T, e_bin, e_slice, e_noP, e_part, e_c, var0, bind_ok, opSl_str, e, if_pos, of_some, cut_hd, cut_tl, opEq_str, bl_ok]
  cases eqN (w.take 1) [45] <;> simp [e, cut_tl]
theorem bodyW_len : (bodyW w).length ≤ w.length := by
  unfold bodyW
  split
  · rw [List.length_drop]; omega
  · omega
theorem allIn_at {τ : Sl} {m : EM} {l z : List Nat} {k : Nat} (hw : h.wf) (em : m τ h = .ok (.str l) h) (hk : k < τ.length) (hl : l.length ≤ 1000) :
    mLc (mSeqI m) [k] (.one k) mYes (mBin (opInA false) (mVar k) (mC (.str z))) fu τ h = .ok (.ref h.n) (h.new (.lst ((l.map fun d => memN d z).map U.bl))) ∧ fAll [.ref h.n] (h.new (.lst ((l.map fun d => memN d z).map U.bl))) = some (.bl (l.all fun d => memN d z), h.new (.lst ((l.map fun d => memN d z).map U.bl))) := by
  constructor
  · rw [lc_str (P := fun _ => true) (F := fun d => .bl (memN d z)) em (Nat.lt_of_le_of_lt hl (by decide)) (by omega) (fun c hc => ⟨rfl, fun _ => by
      have : mVar k ((wipeU [k] τ).set k (some (.str [c]))) h = .ok (.str [c]) h := by
        unfold mVar
        rw [List.getElem?_set_self (by simp [wipeU]; exact hk)]
      simp only [e_bin, this, bind_ok, e_c, opInA_chr, of_some, Bool.false_bne]⟩)]
    rw [List.filter_eq_self.mpr (fun _ _ => rfl), List.map_map]
    rfl
  · rw [fAll_ok (Hs.get_new_same hw), List.all_map]
    rfl
theorem notIn_at {τ : Sl} {m : EM} {l z : List Nat} {k : Nat} (hw : h.wf) (em : m τ h = .ok (.str l) h) (hk : k < τ.length) (hl : l.length ≤ 1000) :
    mLc (mSeqI m) [k] (.one k) (mT (mBin (opInA true) (mVar k) (mC (.str z)))) (mVar k) fu τ h = .ok (.ref h.n) (h.new (.lst (((l.filter fun d => !memN d z).map fun d => [d]).map U.str))) := by
  rw [lc_str (P := fun d => !memN d z) (F := fun d => .str [d]) em (Nat.lt_of_le_of_lt hl (by decide)) (by omega) (fun c hc => by
      have : mVar k ((wipeU [k] τ).set k (some (.str [c]))) h = .ok (.str [c]) h := by
        unfold mVar
        rw [List.getElem?_set_self (by simp [wipeU]; exact hk)]
      refine ⟨by simp only [e_T, e_bin, this, bind_ok, e_c, opInA_chr, of_some, Bool.true_bne, bl_ok], fun _ => this⟩)]
  rw [List.map_map]
  rfl
theorem ix0 {l : List Nat} (hl : l.length ≤ 1000) (hn : l ≠ []) : ∃ c r, l = c :: r ∧ opIxA (.str l) (.int 0) h = some (.str [c], h) := by
  cases l with
  | nil => exact absurd rfl hn
  | cons c r => exact ⟨c, r, rfl, opIxA_chr (by omega)⟩
theorem eqN_nil {l : List Nat} : eqN l [] = l.isEmpty := by cases l <;> rfl
theorem number_of_ok (hw : h.wf) (hl : w.length ≤ 1000) (hp : numB w = true → (parse w).isSome = true) : ∃ h', fam (n + 1) 24 [.str w] h = .ok (numU w) h' ∧ Fr nX h h' := by
  rw [f24]
  have hb := bodyW_len (w := w)
  have bd := body_at (w := w) (h := h) (τ := [none, none]) hl
  unfold b_number_of
  simp only [e_seq, e_asg, bd, st_ok, gN1, asgd_some, seq_nx, e_ifS, e_or, e_T, e_bin, var1, bind_ok, e_c, opEq_str, of_some, bl_ok, eqN_nil]
  unfold numU
  have e2 : numB w = (!(bodyW w).isEmpty && (decide ((bodyW w).length ≤ 400) && ((bodyW w).all (fun d => memN d digits) && !(eqN ((bodyW w).take 1) [48] && !eqN w [48])))) := rfl
  generalize bodyW w = b at *
  cases b with
  | nil => exact ⟨h, by simp [e2], Fr.refl hw⟩
  | cons c r =>
    simp only [List.isEmpty_cons, ite_f, e_or, e_T, e_bin, e_c, e_callB, e_cons, e_nil, var1, bind_ok, fLen_str (l := c :: r) (by omega), of_some, opGt_int, bl_ok]
    rw [show decide ((400 : Int) < (((c :: r).length : Nat) : Int)) = !decide ((c :: r).length ≤ 400) from lenD (c :: r) 400]
    cases e3 : decide ((c :: r).length ≤ 400) with
    | false => exact ⟨h, by simp [e2, e3, -List.length_cons], Fr.refl hw⟩
    | true =>
      obtain ⟨l1, l2⟩ := allIn_at (z := digits) (k := 2) (τ := [some (.str w), some (.str (c :: r)), none]) (m := mVar 1) (l := c :: r) (h := h) hw rfl (by simp) (by omega)
      unfold digits at l1
      simp only [Bool.not_true, ite_f, e_not, e_T, e_callB, e_cons, l1, bind_ok, e_nil]
      unfold digits at l2 e2
      simp only [l2, of_some, bl_ok, bind_ok]
      have hf : Fr nX h (h.new (.lst (((c :: r).map fun d => memN d digits).map U.bl))) := Fr.new hw
      unfold digits at hf
      cases e4 : (c :: r).all fun d => memN d [48, 49, 50, 51, 52, 53, 54, 55, 56, 57] with
      | false => exact ⟨_, by simp [e2, e3, e4, -List.length_cons, -List.all_cons], hf⟩
      | true =>
        simp only [Bool.not_true, tst_f, e_nx, seq_nx, e_ifS, e_and, e_T, e_bin, var1, bind_ok, e_c, opIxA_chr (c := c) (r := r) (by omega), of_some, opEq_str, bl_ok, e_seq]
        have e5 : eqN ((c :: r).take 1) [48] = eqN [c] [48] := rfl
        cases e6 : eqN [c] [48] with
        | true =>
          simp only [ite_t, e_T, e_bin, var0, bind_ok, e_c, opNe_str, of_some, bl_ok]
          cases e7 : eqN w [48] with
          | false => exact ⟨_, by simp [e2, e3, e4, e5, e6, e7, -List.length_cons, -List.all_cons, -List.take_succ_cons], hf⟩
          | true =>
            have e8 : numB w = true := by simp [e2, e3, e4, e5, e6, e7, -List.length_cons, -List.all_cons, -List.take_succ_cons]
            obtain ⟨i, ei⟩ := Option.isSome_iff_exists.mp (hp e8)
            exact ⟨_, by simp [e8, ei, fInt], hf⟩
        | false =>
          have e8 : numB w = true := by simp [e2, e3, e4, e5, e6, -List.length_cons, -List.all_cons, -List.take_succ_cons]
          obtain ⟨i, ei⟩ := Option.isSome_iff_exists.mp (hp e8)
          exact ⟨_, by simp [e8, ei, fInt], hf⟩
theorem f25 : fam (n + 1) 25 [.str w] h = (b_plain_of (fam n) [some (.str w), none] h).out := rfl
theorem plain_of_ok (hw : h.wf) (hl : w.length ≤ 1000) (hp : numB w = true → (parse w).isSome = true) : ∃ h', fam (n + 2) 25 [.str w] h = .ok (.tup (plainU w)) h' ∧ Fr nX h h' := by
  rw [f25]
  unfold b_plain_of plainU
  cases e1 : eqN w [45] with
  | true => exact ⟨h, by simp [e1], Fr.refl hw⟩
  | false =>
    obtain ⟨h1, q1, F1⟩ := is_word_ok (n := n) hw hl
    cases e2 : isWordB w with
    | true =>
      rw [e2] at q1
      exact ⟨h1, by simp [e1, q1], F1⟩
    | false =>
      rw [e2] at q1
      obtain ⟨h2, q2, F2⟩ := number_of_ok (n := n) F1.wf hl hp
      refine ⟨h2, ?_, F1.trans F2⟩
      simp [e1, q1, q2]
      unfold numU at q2 ⊢
      by_cases e3 : numB w = true
      · rw [if_pos e3] at q2 ⊢
        obtain ⟨i, ei⟩ := Option.isSome_iff_exists.mp (hp e3)
        simp [ei]
      · rw [if_neg e3] at q2 ⊢
        simp
/-- the law's own test -/
def plain1 (w : List Nat) : Bool := eqN w [45] || (!eqN (w.take 1) [] && (memN (w.headD 0) letters && decide (w.length ≤ 100)))
def lawPlain (w : List Nat) : Bool := if plain1 w = true then (w.filter fun d => !memN d (signs ++ [45])).isEmpty && (eqN w [45] || !memN 45 w) else
  !((bodyW w).isEmpty || (!decide ((bodyW w).length ≤ 400) || !((bodyW w).filter fun d => !memN d digits).isEmpty)) && (eqN w [48] || !eqN ((bodyW w).take 1) [48])
theorem f37 : fam (n + 1) 37 [.str w] h = (b__law_is_plain (fam n) [some (.str w), none, none] h).out := rfl
theorem plain1_at (hl : w.length ≤ 1000) : (mOr (mT (mBin (opEq) (mVar 0) (mC (.str [45])))) (mAnd (mT (mBin (opNe) (mSlice (mVar 0) mNoP (mPart (mC (.int 1)))) (mC (.str [])))) (mAnd (mT (mBin (opInA false) (mBin opIxA (mVar 0) (mC (.int 0))) (mC (.str [97, 98, 99, 100, 101, 102, 103, 104, 105, 106, 107, 108, 109, 110, 111, 112, 113, 114, 115, 116, 117, 118, 119, 120, 121, 122])))) (mT (mBin (opLe) (mCallB fLen (mCons (mVar 0) mNil)) (mC (.int 100))))))) [some (.str w), none, none] h = .ok (plain1 w) h := by
  unfold plain1 letters
  have e := fits_of (n := w.length) (by omega)
  have e0 : decide (((w.length : Nat) : Int) ≤ 100) = decide (w.length ≤ 100) := by
    by_cases q : w.length ≤ 100
    · rw [decide_eq_true q, decide_eq_true (by omega)]
    · rw [decide_eq_false q, decide_eq_false (by omega)]
  simp only [e_or, e_and, e_T, e_bin, var0, bind_ok, e_c, opEq_str, of_some, bl_ok, e_slice, e_noP, e_part, opSl_str, e, if_pos, cut_hd, opNe_str]
  cases eqN w [45] with
  | true => simp
  | false =>
    cases w with
    | nil => simp [show fits 0 = true from rfl, cut_hd]
    | cons c r =>
      have e1 : eqN ((c :: r).take 1) [] = false := rfl
      simp only [ite_f, e1, e_and, e_T, e_bin, var0, bind_ok, e_c, e_slice, e_noP, e_part, opSl_str, e, if_pos, of_some, cut_hd, opNe_str, bl_ok, Bool.not_false, ite_t, opIxA_chr (c := c) (r := r) (by omega), opInA_chr, Bool.false_or, Bool.true_and, List.headD_cons, Bool.false_bne]
      cases memN c [97, 98, 99, 100, 101, 102, 103, 104, 105, 106, 107, 108, 109, 110, 111, 112, 113, 114, 115, 116, 117, 118, 119, 120, 121, 122] with
      | false => simp
      | true =>
        simp only [ite_t, e_T, e_bin, e_callB, e_cons, e_nil, var0, bind_ok, fLen_str (l := c :: r) (by omega), of_some, e_c, opLe_int, bl_ok, e0, Bool.true_and]
theorem law_plain_ok (hw : h.wf) (hl : w.length ≤ 1000) : ∃ h', fam (n + 1) 37 [.str w] h = .ok (.bl (lawPlain w)) h' ∧ Fr nX h h' := by
  rw [f37]
  unfold b__law_is_plain
  simp only [e_seq, e_ifS, plain1_at hl]
  cases e1 : plain1 w with
  | true =>
    have l1 := notIn_at (z := [97, 98, 99, 100, 101, 102, 103, 104, 105, 106, 107, 108, 109, 110, 111, 112, 113, 114, 115, 116, 117, 118, 119, 120, 121, 122, 48, 49, 50, 51, 52, 53, 54, 55, 56, 57, 46, 45]) (k := 2) (τ := [some (.str w), none, none]) (m := mVar 0) (l := w) (h := h) hw rfl (by simp) hl
    have e2 : lawPlain w = ((w.filter fun d => !memN d [97, 98, 99, 100, 101, 102, 103, 104, 105, 106, 107, 108, 109, 110, 111, 112, 113, 114, 115, 116, 117, 118, 119, 120, 121, 122, 48, 49, 50, 51, 52, 53, 54, 55, 56, 57, 46, 45]).isEmpty && (eqN w [45] || !memN 45 w)) := by
      unfold lawPlain
      rw [e1] <;> rfl
    rw [e2]
    generalize (w.filter fun d => !memN d [97, 98, 99, 100, 101, 102, 103, 104, 105, 106, 107, 108, 109, 110, 111, 112, 113, 114, 115, 116, 117, 118, 119, 120, 121, 122, 48, 49, 50, 51, 52, 53, 54, 55, 56, 57, 46, 45]) = ws at *
    have w1 : (h.new (.lst ((ws.map fun d => [d]).map U.str))).wf := Hs.wf_new hw
    have g1 := Hs.get_new_same (o := .lst ((ws.map fun d => [d]).map U.str)) hw
    have oe := opEq_nil (h := (h.new (.lst ((ws.map fun d => [d]).map U.str))).new (.lst [])) (i := h.n) (j := h.n + 1) (Hs.get_new_old w1 g1) (Hs.get_new_same w1)
    refine ⟨_, ?_, (Fr.new hw).trans (Fr.new (o := .lst []) w1)⟩
    simp only [tst_t, e_ret, e_andV, e_bin, l1, bind_ok, e_lst, e_nil, mkL_0, Hs.new_n, oe, of_some]
    have : (List.map U.str (List.map (fun d => [d]) ws)).isEmpty = ws.isEmpty := by cases ws <;> rfl
    rw [this]
    cases ws with
    | cons a r => simp
    | nil =>
      simp only [List.isEmpty_nil, vte_t, e_orV, e_bin, var0, bind_ok, e_c, opEq_str, of_some, opInA_chr, Bool.true_and]
      cases eqN w [45] <;> simp
  | false =>
    have hb := bodyW_len (w := w)
    have bd := body_at (w := w) (h := h) (τ := [none, none]) hl
    have e2 : lawPlain w = (!((bodyW w).isEmpty || (!decide ((bodyW w).length ≤ 400) || !((bodyW w).filter fun d => !memN d digits).isEmpty)) && (eqN w [48] || !eqN ((bodyW w).take 1) [48])) := by
      unfold lawPlain
      rw [e1] <;> rfl
    unfold digits at e2
    rw [e2]
    simp only [tst_f, e_nx, seq_nx, e_seq, e_asg, bd, st_ok, gN1, asgd_some, e_ifS, e_or, e_T, e_bin, var1, bind_ok, e_c, opEq_str, of_some, bl_ok, eqN_nil]
    generalize bodyW w = b at *
    cases b with
    | nil => exact ⟨h, by simp, Fr.refl hw⟩
    | cons c r =>
      simp only [List.isEmpty_cons, ite_f, e_or, e_T, e_bin, e_c, e_callB, e_cons, e_nil, var1, bind_ok, fLen_str (l := c :: r) (by omega), of_some, opGt_int, bl_ok]
      rw [show decide ((400 : Int) < (((c :: r).length : Nat) : Int)) = !decide ((c :: r).length ≤ 400) from lenD (c :: r) 400]
      cases e3 : decide ((c :: r).length ≤ 400) with
      | false => exact ⟨h, by simp [-List.length_cons], Fr.refl hw⟩
      | true =>
        have l1 := notIn_at (z := [48, 49, 50, 51, 52, 53, 54, 55, 56, 57]) (k := 2) (τ := [some (.str w), some (.str (c :: r)), none]) (m := mVar 1) (l := c :: r) (h := h) hw rfl (by simp) (by omega)
        generalize ((c :: r).filter fun d => !memN d [48, 49, 50, 51, 52, 53, 54, 55, 56, 57]) = ws at *
        have w1 : (h.new (.lst ((ws.map fun d => [d]).map U.str))).wf := Hs.wf_new hw
        have g1 := Hs.get_new_same (o := .lst ((ws.map fun d => [d]).map U.str)) hw
        have oe := opNe_nil (h := (h.new (.lst ((ws.map fun d => [d]).map U.str))).new (.lst [])) (i := h.n) (j := h.n + 1) (Hs.get_new_old w1 g1) (Hs.get_new_same w1)
        refine ⟨_, ?_, (Fr.new hw).trans (Fr.new (o := .lst []) w1)⟩
        simp only [Bool.not_true, ite_f, e_T, e_bin, l1, bind_ok, e_lst, e_nil, mkL_0, Hs.new_n, oe, of_some, bl_ok]
        have : (ws.map fun d => [d]).isEmpty = ws.isEmpty := by cases ws <;> rfl
        rw [this]
        cases ws with
        | cons a r => simp
        | nil =>
          simp only [List.isEmpty_nil, Bool.not_true, tst_f, e_nx, seq_nx, e_ret, e_orV, e_bin, var0, var1, bind_ok, e_c, opEq_str, of_some]
          cases e9 : eqN w [48] with
          | true => simp
          | false => simp [opIxA_chr (c := c) (r := r) (by omega), -List.length_cons]
end
end K89

set_option Elab.async false
set_option linter.all false
set_option maxRecDepth 100000
set_option maxHeartbeats 4000000
/-! Reading words, and the law's own reading: plain. -/
namespace K89
open PySem PySem.Spec PyProof.Rows L2 Sm
abbrev Wo := List Nat
def sz (w : Wo) : Option Nat := (lookM l_SIZES w).map Int.toNat
def pl (w : Wo) : Bool := !(plainU w).isEmpty
inductive T where
  | leaf (w : Wo) | tup (ts : List T) | pap (w : Wo) (ts : List T)
mutual
def T.words : T → List Wo
  | .leaf w => [w]
  | .tup ts => [40] :: (Ts.words ts ++ [[41]])
  | .pap w ts => [91] :: w :: (Ts.words ts ++ [[93]])
def Ts.words : List T → List Wo
  | [] => []
  | t :: r => T.words t ++ Ts.words r
end
theorem Ts.words_append : ∀ {a b : List T}, Ts.words (a ++ b) = Ts.words a ++ Ts.words b
  | [], b => rfl
  | t :: r, b => by
    show T.words t ++ Ts.words (r ++ b) = _
    rw [Ts.words_append, ← List.append_assoc]
    rfl
/-- well made, at most so deep -/
def okT : Nat → T → Prop
  | _, .leaf w => pl w = true ∧ v0 w
  | 0, _ => False
  | d + 1, .tup ts => ∀ t ∈ ts, okT d t
  | d + 1, .pap w ts => sz w = some ts.length ∧ ∀ t ∈ ts, okT d t
where v0 (w : Wo) : Prop := w ≠ [40] ∧ w ≠ [91] ∧ w ≠ [41] ∧ w ≠ [93]
theorem okT.up : ∀ {d : Nat} {t : T}, okT d t → okT (d + 1) t
  | 0, .leaf w, h => h
  | 0, .tup _, h => h.elim
  | 0, .pap _ _, h => h.elim
  | d + 1, .leaf w, h => h
  | d + 1, .tup ts, h => fun t ht => okT.up (h t ht)
  | d + 1, .pap w ts, h => ⟨h.1, fun t ht => okT.up (h.2 t ht)⟩
structure Fm where
  w : Option Wo
  ts : List T
def Fm.full (f : Fm) : Bool := match f.w with
  | none => false
  | some w => decide (sz w = some f.ts.length)
def Fm.close (f : Fm) : T := match f.w with
  | none => .tup f.ts
  | some w => .pap w f.ts
def Fm.clW (f : Fm) : Wo := match f.w with
  | none => [41]
  | some _ => [93]
def Fm.add (f : Fm) (t : T) : Fm := ⟨f.w, f.ts ++ [t]⟩
def rdGo : List Wo → Nat → Bool → List Fm → Sum Nat T
  | [], at_, _, _ => .inl at_
  | w :: rest, at_, true, stk => match sz w with
    | none => .inl at_
    | some _ => rdGo rest (at_ + 1) false (⟨some w, []⟩ :: stk)
  | _ :: _, at_, false, [] => .inl at_
  | w :: rest, at_, false, f :: fs =>
    if w = [40] ∨ w = [91] then
      if f.full = true ∨ fs.length + 1 = 20 then .inl at_
      else if w = [40] then rdGo rest (at_ + 1) false (⟨none, []⟩ :: f :: fs) else rdGo rest (at_ + 1) true (f :: fs)
    else if w = [41] ∨ w = [93] then
      if w ≠ f.clW ∨ (f.w.isSome = true ∧ f.full = false) then .inl at_
      else match fs with
        | [] => match rest with
          | [] => .inr f.close
          | _ :: _ => .inl (at_ + 1)
        | g :: gs => if g.full = true then .inl at_ else rdGo rest (at_ + 1) false (g.add f.close :: gs)
    else if pl w = true then
      if f.full = true then .inl at_ else rdGo rest (at_ + 1) false (f.add (.leaf w) :: fs)
    else .inl at_
def rd : List Wo → Sum Nat T
  | [] => .inl 0
  | w :: rest => if w = [91] then rdGo rest 1 true [] else .inl 0
/-! ### the law's -/
inductive LE where
  | word | tup | need (k : Nat)
deriving DecidableEq
def LE.dec : LE → LE
  | .need k => .need (k - 1)
  | l => l
def ftGo : List Wo → Nat → List LE → Option Nat
  | [], at_, line => match line with
    | [] => none
    | _ :: _ => some at_
  | _ :: _, at_, [] => some at_
  | w :: rest, at_, l :: ls =>
    if l = .word then match sz w with
      | none => some at_
      | some k => ftGo rest (at_ + 1) (.need k :: ls)
    else if w = [41] ∨ w = [93] then
      if l ≠ (if w = [41] then .tup else .need 0) then some at_ else ftGo rest (at_ + 1) ls
    else if l = .need 0 ∨ (w ≠ [40] ∧ w ≠ [91] ∧ lawPlain w = false) then some at_
    else ftGo rest (at_ + 1) ((if w = [40] then [.tup] else if w = [91] then [.word] else []) ++ l.dec :: ls)
def ft : List Wo → Option Nat
  | [] => none
  | w :: rest => if w = [91] then ftGo rest 1 [.word] else some 0
/-! ### how deep -/
def vd (w : Wo) : Int := if w = [40] ∨ w = [91] then 1 else if w = [41] ∨ w = [93] then -1 else 0
def net : List Wo → Int
  | [] => 0
  | w :: r => vd w + net r
theorem net_append : ∀ {a b : List Wo}, net (a ++ b) = net a + net b
  | [], b => by simp [net]
  | w :: r, b => by
    show vd w + net (r ++ b) = vd w + net r + net b
    rw [net_append]
    omega
def Bd (k : Int) (ws : List Wo) : Prop := ∀ i, net (ws.take i) ≤ k
theorem Bd.nil {k : Int} (h : 0 ≤ k) : Bd k [] := fun i => by simp [net]; exact h
theorem Bd.tail {k : Int} {w : Wo} {r : List Wo} (h : Bd k (w :: r)) : Bd (k - vd w) r := fun i => by
  have q := h (i + 1)
  rw [List.take_succ_cons] at q
  have : net (w :: r.take i) = vd w + net (r.take i) := rfl
  omega
theorem Bd.head {k : Int} {w : Wo} {r : List Wo} (h : Bd k (w :: r)) : vd w ≤ k := by
  have q := h 1
  rw [List.take_succ_cons] at q
  have : net (w :: r.take 0) = vd w + net (r.take 0) := rfl
  have e : net (r.take 0) = 0 := by simp [net]
  omega
theorem Bd.cons {k : Int} {w : Wo} {r : List Wo} (hk : 0 ≤ k) (h : Bd (k - vd w) r) : Bd k (w :: r) := fun i => by
  cases i with
  | zero => simp [net]; exact hk
  | succ i =>
    rw [List.take_succ_cons]
    have : net (w :: r.take i) = vd w + net (r.take i) := rfl
    have := h i
    omega
theorem Bd.mono {k j : Int} {ws : List Wo} (h : Bd k ws) (hj : k ≤ j) : Bd j ws := fun i => Int.le_trans (h i) hj
theorem Bd.append {k : Int} {a b : List Wo} (h : Bd k a) (h2 : Bd (k - net a) b) : Bd k (a ++ b) := fun i => by
  rw [List.take_append, net_append]
  by_cases hi : i ≤ a.length
  · have q := h i
    have : b.take (i - a.length) = [] := by rw [Nat.sub_eq_zero_of_le hi]; rfl
    rw [this]
    have : net ([] : List Wo) = 0 := rfl
    omega
  · have q := h2 (i - a.length)
    have : a.take i = a := List.take_of_length_le (by omega)
    rw [this]
    omega
theorem Bd.left {k : Int} {a b : List Wo} (h : Bd k (a ++ b)) : Bd k a := fun i => by
  by_cases hi : i ≤ a.length
  · have q := h i
    rwa [List.take_append_of_le_length hi] at q
  · have q := h a.length
    rw [List.take_append_of_le_length (Nat.le_refl _)] at q
    rw [List.take_of_length_le (by omega)]
    rwa [List.take_length] at q
theorem Bd.right {k : Int} {a b : List Wo} (h : Bd k (a ++ b)) : Bd (k - net a) b := fun i => by
  have q := h (a.length + i)
  rw [List.take_append, net_append, List.take_of_length_le (by omega), show a.length + i - a.length = i by omega] at q
  omega
/-! ### both readings agree -/
def lineF (child : Bool) (f : Fm) : LE := match f.w with
  | none => .tup
  | some w => .need ((sz w).getD 0 - f.ts.length - (match child with | true => 1 | false => 0))
def okF (child : Bool) (f : Fm) : Prop := match f.w with
  | none => True
  | some w => ∃ k, sz w = some k ∧ f.ts.length + (match child with | true => 1 | false => 0) ≤ k
def lns : Bool → List Fm → List LE
  | true, stk => .word :: stk.map (lineF true)
  | false, [] => []
  | false, f :: fs => lineF false f :: fs.map (lineF true)
def okS : Bool → List Fm → Prop
  | true, stk => ∀ f ∈ stk, okF true f
  | false, [] => False
  | false, f :: fs => okF false f ∧ ∀ g ∈ fs, okF true g
theorem lineF_ne {c : Bool} {f : Fm} : lineF c f ≠ .word := by
  unfold lineF
  cases f.w <;> simp
theorem full_iff {f : Fm} (h : okF false f) : f.full = true ↔ lineF false f = .need 0 := by
  unfold Fm.full lineF okF at *
  cases hw : f.w with
  | none => simp [hw]
  | some w =>
    rw [hw] at h
    obtain ⟨k, e, hk⟩ := h
    simp only [e, Option.getD_some, decide_eq_true_eq, Option.some.injEq, LE.need.injEq]
    omega
theorem sz_pos {w : Wo} {k : Nat} (h : sz w = some k) : 1 ≤ k := by
  unfold sz at h
  cases e : lookM l_SIZES w with
  | none =>
    rw [e] at h
    cases h
  | some i =>
    rw [e] at h
    have h1 : i.toNat = k := Option.some.inj h
    have key : ∀ l : List (List Nat × Int), (l.all fun p => decide (1 ≤ p.2)) = true → ∀ i, lookM l w = some i → 1 ≤ i := fun l => by
      induction l with
      | nil => intro _ i q; cases q
      | cons p r ih =>
        intro ha i q
        have ha2 := Bool.and_eq_true_iff.mp (show (decide (1 ≤ p.2) && r.all fun p => decide (1 ≤ p.2)) = true from ha)
        obtain ⟨pk, pi⟩ := p
        have q2 : (match eqN pk w with | true => some pi | false => lookM r w) = some i := q
        cases z : eqN pk w with
        | true =>
          rw [z] at q2
          cases q2
          exact of_decide_eq_true ha2.1
        | false =>
          rw [z] at q2
          exact ih ha2.2 i q2
    have := key l_SIZES (by decide) i e
    omega
theorem add_line {f : Fm} {t : T} : lineF false (f.add t) = lineF true f := by
  unfold Fm.add lineF
  cases f.w with
  | none => rfl
  | some w => simp; omega
theorem add_ok {f : Fm} {t : T} (h : okF true f) : okF false (f.add t) := by
  unfold Fm.add okF at *
  cases hw : f.w with
  | none => simp [hw]
  | some w =>
    simp only [hw] at h ⊢
    obtain ⟨k, e, hk⟩ := h
    exact ⟨k, e, by simp at *; omega⟩
theorem dec_line {f : Fm} : (lineF false f).dec = lineF true f := by
  unfold lineF
  cases f.w with
  | none => rfl
  | some w => rfl
theorem child_ok {f : Fm} (h : okF false f) (hf : f.full = false) : okF true f := by
  have nf : ¬ f.full = true := by rw [hf]; simp
  rw [full_iff h] at nf
  unfold okF lineF at *
  cases hw : f.w with
  | none => simp [hw]
  | some w =>
    rw [hw] at h nf
    obtain ⟨k, e, hk⟩ := h
    refine ⟨k, e, ?_⟩
    simp [e] at nf hk ⊢
    omega
theorem notfull_child {f : Fm} (h : okF true f) : f.full = false := by
  unfold okF Fm.full at *
  cases hw : f.w with
  | none => simp [hw]
  | some w =>
    rw [hw] at h
    obtain ⟨k, e, hk⟩ := h
    simp only [e, decide_eq_false_iff_not, Option.some.injEq]
    simp at hk
    omega
theorem cl_line {f : Fm} (h : okF false f) {w : Wo} (hw : w = [41] ∨ w = [93]) : (w ≠ f.clW ∨ (f.w.isSome = true ∧ f.full = false)) ↔ lineF false f ≠ (if w = [41] then LE.tup else .need 0) := by
  have fi := full_iff h
  unfold Fm.clW
  cases e : f.w with
  | none =>
    have : lineF false f = .tup := by unfold lineF; rw [e]
    rw [this]
    rcases hw with rfl | rfl <;> simp
  | some x =>
    have : ∃ k, lineF false f = .need k := by unfold lineF; rw [e]; exact ⟨_, rfl⟩
    obtain ⟨k, ek⟩ := this
    rw [ek] at fi ⊢
    rcases hw with rfl | rfl
    · simp
    · simp only [Option.isSome_some, true_and]
      rw [if_neg (by decide)]
      constructor
      · rintro (q | q)
        · exact absurd rfl q
        · intro z
          rw [fi.mpr z] at q
          cases q
      · intro z
        refine .inr ?_
        cases q : f.full with
        | true => exact absurd (fi.mp q) z
        | false => rfl
/-- the words so far -/
def fw (f : Fm) : List Wo := match f.w with
  | none => [40] :: Ts.words f.ts
  | some w => [91] :: w :: Ts.words f.ts
def sw : List Fm → List Wo
  | [] => []
  | f :: fs => sw fs ++ fw f
def okD : List Fm → Prop
  | [] => True
  | f :: fs => (∀ t ∈ f.ts, okT (20 - (fs.length + 1)) t) ∧ okD fs
theorem fw_add {f : Fm} {t : T} : fw (f.add t) = fw f ++ t.words := by
  have e : Ts.words [t] = t.words := by
    show t.words ++ [] = t.words
    rw [List.append_nil]
  unfold fw Fm.add
  cases f.w <;> simp [Ts.words_append, e]
theorem close_words {f : Fm} : f.close.words = fw f ++ [f.clW] := by
  unfold Fm.close fw Fm.clW
  cases f.w <;> rfl
def agree (a : Sum Nat T) (b : Option Nat) (all : List Wo) : Prop := match b with
  | some n => a = .inl n
  | none => ∃ t, a = .inr t ∧ t.words = all ∧ okT 20 t ∧ ∃ w ts, t = .pap w ts
def bot : List Fm → Prop
  | [] => True
  | [f] => f.w.isSome = true
  | _ :: g :: gs => bot (g :: gs)
end K89

set_option Elab.async false
set_option linter.all false
set_option maxRecDepth 100000
set_option maxHeartbeats 4000000
/-! Both readings agree. -/
namespace K89
open PySem PySem.Spec PyProof.Rows L2 Sm
theorem sz_spec {w : Wo} (h : sz w ≠ none) : w ≠ [40] ∧ w ≠ [91] ∧ w ≠ [41] ∧ w ≠ [93] := by
  refine ⟨fun e => h (by rw [e]; decide), fun e => h (by rw [e]; decide), fun e => h (by rw [e]; decide), fun e => h (by rw [e]; decide)⟩
theorem vd_0 {w : Wo} (h : w ≠ [40] ∧ w ≠ [91] ∧ w ≠ [41] ∧ w ≠ [93]) : vd w = 0 := by
  unfold vd
  rw [if_neg (by rintro (q | q); exact h.1 q; exact h.2.1 q), if_neg (by rintro (q | q); exact h.2.2.1 q; exact h.2.2.2 q)]
theorem vd_op {w : Wo} (h : w = [40] ∨ w = [91]) : vd w = 1 := by unfold vd; rw [if_pos h]
theorem vd_cl {w : Wo} (h : w = [41] ∨ w = [93]) : vd w = -1 := by
  unfold vd
  rw [if_neg (by rcases h with rfl | rfl <;> decide), if_pos h]
theorem lns_f {f : Fm} {fs : List Fm} : lns false (f :: fs) = lineF false f :: fs.map (lineF true) := rfl
theorem lns_t {fs : List Fm} : lns true fs = .word :: fs.map (lineF true) := rfl
def pend (want : Bool) : List Wo := match want with
  | true => [[91]]
  | false => []
def pn (want : Bool) : Nat := match want with
  | true => 1
  | false => 0
theorem close_ok {f : Fm} {n : Nat} (h : ∀ t ∈ f.ts, okT n t) (hc : ¬ (f.w.isSome = true ∧ f.full = false)) : okT (n + 1) f.close := by
  unfold Fm.close Fm.full at *
  cases hw : f.w with
  | none => exact h
  | some w =>
    simp only [hw] at hc
    refine ⟨?_, h⟩
    simpa using hc
theorem sim : ∀ (rest : List Wo) (at_ : Nat) (want : Bool) (stk : List Fm) (all : List Wo), (∀ w ∈ rest, lawPlain w = pl w) → (want = false → stk ≠ []) → (want = true ∨ okS false stk) → (want = true → okS true stk) → okD stk → bot stk →
    ((stk.length : Int) + pn want ≤ 20) → Bd (20 - ((stk.length : Int) + pn want)) rest → all = sw stk ++ pend want ++ rest → agree (rdGo rest at_ want stk) (ftGo rest at_ (lns want stk)) all
  | [], at_, want, stk, all, hv, hne, hs, hs2, hd, hb, hl, hB, ha => by
    cases want with
    | true => rfl
    | false =>
      cases stk with
      | nil => exact absurd rfl (hne rfl)
      | cons f fs => rfl
  | w :: rest, at_, true, stk, all, hv, hne, hs, hs2, hd, hb, hl, hB, ha => by
    rw [lns_t]
    unfold rdGo ftGo
    simp only [↓reduceIte]
    cases e : sz w with
    | none => rfl
    | some k =>
      have e0 := vd_0 (sz_spec (w := w) (by rw [e]; simp))
      have hB2 := hB.tail
      rw [e0] at hB2
      have hk : lineF false ⟨some w, []⟩ = .need k := by simp [lineF, e]
      have := sim rest (at_ + 1) false (⟨some w, []⟩ :: stk) all (fun x hx => hv x (List.mem_cons_of_mem _ hx)) (fun _ => by simp) (.inr ⟨(⟨k, e, by simp⟩ : ∃ k, sz w = some k ∧ _ ≤ k), hs2 rfl⟩) (fun z => nomatch z) ⟨fun t ht => (nomatch ht), hd⟩
        (by cases stk with
          | nil => rfl
          | cons f fs => exact hb) (by simp [pn] at *; omega) (by
          have : ((20 : Int) - (((⟨some w, []⟩ : Fm) :: stk).length + pn false : Int)) = 20 - ((stk.length : Int) + pn true) - 0 := by simp [pn]
          rw [this]
          exact hB2) (by
          rw [ha]
          simp [sw, fw, pend, Ts.words])
      rw [lns_f, hk] at this
      exact this
  | w :: rest, at_, false, [], all, hv, hne, hs, hs2, hd, hb, hl, hB, ha => absurd rfl (hne rfl)
  | w :: rest, at_, false, f :: fs, all, hv, hne, hs, hs2, hd, hb, hl, hB, ha => by
    have hs' : okS false (f :: fs) := hs.elim (fun z => nomatch z) id
    obtain ⟨of, ofs⟩ := hs'
    have fi := full_iff of
    have hB2 := hB.tail
    have hB1 := hB.head
    simp only [pn, List.length_cons] at hB1 hB2 hl
    have hv2 : ∀ x ∈ rest, lawPlain x = pl x := fun x hx => hv x (List.mem_cons_of_mem _ hx)
    rw [lns_f]
    unfold rdGo ftGo
    simp only [lineF_ne, if_false]
    by_cases ho : w = [40] ∨ w = [91]
    · have hnc : ¬ (w = [41] ∨ w = [93]) := by rcases ho with rfl | rfl <;> decide
      rw [vd_op ho] at hB1 hB2
      have h20 : ¬ fs.length + 1 = 20 := by omega
      rw [if_pos ho, if_neg hnc]
      have hc2 : ¬ (w ≠ [40] ∧ w ≠ [91] ∧ lawPlain w = false) := by
        rintro ⟨a, b, _⟩
        rcases ho with q | q
        · exact a q
        · exact b q
      cases hf : f.full with
      | true =>
        rw [if_pos (.inl rfl), if_pos (.inl (fi.mp hf))]
        rfl
      | false =>
        have nz : ¬ lineF false f = .need 0 := fun z => by
          rw [fi.mpr z] at hf
          cases hf
        have hch := child_ok of hf
        have c1 : ¬ (false = true ∨ fs.length + 1 = 20) := fun z => z.elim (fun q => nomatch q) h20
        have c2 : ¬ (lineF false f = .need 0 ∨ w ≠ [40] ∧ w ≠ [91] ∧ lawPlain w = false) := fun z => z.elim nz hc2
        rw [if_neg c1, if_neg c2, dec_line]
        by_cases h4 : w = [40]
        · simp only [if_pos h4]
          exact sim rest (at_ + 1) false (⟨none, []⟩ :: f :: fs) all hv2 (fun _ => by simp) (.inr ⟨trivial, fun g hg => by
            rcases List.mem_cons.mp hg with rfl | hg
            · exact hch
            · exact ofs g hg⟩) (fun z => nomatch z) ⟨fun t ht => (nomatch ht), hd⟩ hb (by simp [pn]; omega) (by
            simp only [pn, List.length_cons]
            refine hB2.mono ?_
            omega) (by rw [ha, h4]; simp [sw, fw, pend, Ts.words])
        · simp only [if_neg h4, if_pos (ho.resolve_left h4)]
          exact sim rest (at_ + 1) true (f :: fs) all hv2 (fun z => nomatch z) (.inl rfl) (fun _ g hg => by
            rcases List.mem_cons.mp hg with rfl | hg
            · exact hch
            · exact ofs g hg) hd hb (by simp [pn]; omega) (by
            simp only [pn, List.length_cons]
            refine hB2.mono ?_
            omega) (by rw [ha, ho.resolve_left h4]; simp [sw, fw, pend])
    · rw [if_neg ho]
      by_cases hc : w = [41] ∨ w = [93]
      · rw [if_pos hc, if_pos hc]
        have cl := cl_line of hc
        rw [vd_cl hc] at hB2
        by_cases hbad : w ≠ f.clW ∨ (f.w.isSome = true ∧ f.full = false)
        · rw [if_pos hbad, if_pos (cl.mp hbad)]
          rfl
        · rw [if_neg hbad, if_neg fun z => hbad (cl.mpr z)]
          have hw : w = f.clW := by
            by_cases z : w = f.clW
            · exact z
            · exact absurd (.inl z) hbad
          have hok : ∀ n, (∀ t ∈ f.ts, okT n t) → okT (n + 1) f.close := fun n h => close_ok h fun z => hbad (.inr z)
          cases fs with
          | nil =>
            cases rest with
            | nil =>
              refine ⟨f.close, rfl, ?_, hok 19 hd.1, ?_⟩
              · rw [close_words, ha, hw]
                simp [sw, pend]
              · have hb' : f.w.isSome = true := hb
                unfold Fm.close
                cases e : f.w with
                | none =>
                  rw [e] at hb'
                  cases hb'
                | some x => exact ⟨x, f.ts, rfl⟩
            | cons x r => rfl
          | cons g gs =>
            have og := ofs g List.mem_cons_self
            simp only [notfull_child og]
            have h1 : okD (g.add f.close :: gs) := ⟨fun t ht => by
              rcases List.mem_append.mp ht with q | q
              · exact hd.2.1 t q
              · have : t = f.close := by simpa using q
                rw [this]
                have := hok (20 - (gs.length + 1 + 1)) hd.1
                simp only [List.length_cons] at hl
                rwa [show 20 - (gs.length + 1 + 1) + 1 = 20 - (gs.length + 1) by omega] at this, hd.2.2⟩
            have := sim rest (at_ + 1) false (g.add f.close :: gs) all hv2 (fun _ => by simp) (.inr ⟨add_ok og, fun x hx => ofs x (List.mem_cons_of_mem _ hx)⟩) (fun z => nomatch z) h1 (by
              cases gs with
              | nil => exact hb
              | cons x xs => exact hb) (by simp [pn] at *; omega) (by
              simp only [pn, List.length_cons] at *
              refine hB2.mono ?_
              omega) (by
              rw [ha, hw]
              show sw (f :: g :: gs) ++ pend false ++ f.clW :: rest = sw gs ++ fw (g.add f.close) ++ pend false ++ rest
              rw [fw_add, close_words]
              simp [sw, pend])
            rw [lns_f, add_line] at this
            exact this
      · rw [if_neg hc, if_neg hc]
        have nw : w ≠ [40] ∧ w ≠ [91] ∧ w ≠ [41] ∧ w ≠ [93] := ⟨fun z => ho (.inl z), fun z => ho (.inr z), fun z => hc (.inl z), fun z => hc (.inr z)⟩
        rw [vd_0 nw] at hB2
        have hp := hv w List.mem_cons_self
        cases hpl : pl w with
        | false =>
          rw [hpl] at hp
          rw [if_neg (by simp), if_pos (.inr ⟨nw.1, nw.2.1, hp⟩)]
          rfl
        | true =>
          rw [hpl] at hp
          rw [if_pos rfl]
          cases hf : f.full with
          | true =>
            rw [if_pos rfl, if_pos (.inl (fi.mp hf))]
            rfl
          | false =>
            have nz : ¬ lineF false f = .need 0 := fun z => by
              rw [fi.mpr z] at hf
              cases hf
            have c2 : ¬ (lineF false f = .need 0 ∨ w ≠ [40] ∧ w ≠ [91] ∧ lawPlain w = false) := fun z => z.elim nz fun q => by rw [hp] at q; exact nomatch q.2.2
            rw [if_neg (show ¬ (false = true) by simp), if_neg c2, dec_line, if_neg nw.1, if_neg nw.2.1]
            have hch := child_ok of hf
            have := sim rest (at_ + 1) false (f.add (.leaf w) :: fs) all hv2 (fun _ => by simp) (.inr ⟨add_ok hch, ofs⟩) (fun z => nomatch z) ⟨fun t ht => by
              rcases List.mem_append.mp ht with q | q
              · exact hd.1 t q
              · have : t = .leaf w := by simpa using q
                rw [this]
                cases 20 - (fs.length + 1) <;> exact ⟨hpl, nw⟩, hd.2⟩ (by
              cases fs with
              | nil => exact hb
              | cons x xs => exact hb) (by simp [pn]; omega) (by
              simp only [pn, List.length_cons] at *
              refine hB2.mono ?_
              omega) (by
              rw [ha]
              show sw (f :: fs) ++ pend false ++ w :: rest = sw fs ++ fw (f.add (.leaf w)) ++ pend false ++ rest
              rw [fw_add]
              simp [sw, pend, T.words])
            rw [lns_f, add_line] at this
            exact this
theorem rd_ft {ws : List Wo} (hv : ∀ w ∈ ws, lawPlain w = pl w) (hB : Bd 20 ws) (hn : ws ≠ []) : agree (rd ws) (ft ws) ws := by
  cases ws with
  | nil => exact absurd rfl hn
  | cons w rest =>
    show agree (if w = [91] then rdGo rest 1 true [] else .inl 0) (if w = [91] then ftGo rest 1 [.word] else some 0) _
    by_cases h : w = [91]
    · rw [if_pos h, if_pos h]
      have hB2 := hB.tail
      rw [h, vd_op (.inr rfl)] at hB2
      refine sim rest 1 true [] _ (fun x hx => hv x (List.mem_cons_of_mem _ hx)) (fun z => nomatch z) (.inl rfl) (fun _ f hf => nomatch hf) trivial trivial (by decide) (hB2.mono (by decide)) (by rw [h]; rfl)
    · rw [if_neg h, if_neg h]
      rfl
end K89

set_option Elab.async false
set_option linter.all false
set_option maxRecDepth 100000
set_option maxHeartbeats 4000000
/-! Papers in the mirror's heap; kept. -/
namespace K89
open PySem PySem.Spec PyProof.Rows L2 Sm
mutual
inductive Val (h : Hs) : T → U → Prop
  | leaf {w u} : plainU w = [u] → Val h (.leaf w) u
  | tup {ts us} : Vals h ts us → us.length ≤ 10000 → Val h (.tup ts) (.tup us)
  | pap {w ts us p c fs} : Vals h ts us → us.length ≤ 10000 → h.get p = some (.ins c fs) → 13 ≤ c → c ≤ 25 → lkF 4 fs = some (.str w) → lkF 6 fs = some (.tup us) → Val h (.pap w ts) (.ref p)
inductive Vals (h : Hs) : List T → List U → Prop
  | nil : Vals h [] []
  | cons {t ts u us} : Val h t u → Vals h ts us → Vals h (t :: ts) (u :: us)
end
/-- papers stay -/
def PE (h h' : Hs) : Prop := ∀ i c fs, h.get i = some (.ins c fs) → c ≤ 25 → h'.get i = some (.ins c fs)
mutual
theorem Val.ext {h h' : Hs} (E : PE h h') : ∀ {t : T} {u : U}, Val h t u → Val h' t u
  | _, _, .leaf e => .leaf e
  | _, _, .tup v l => .tup (Vals.ext E v) l
  | _, _, .pap v l e a b c d => .pap (Vals.ext E v) l (E _ _ _ e b) a b c d
theorem Vals.ext {h h' : Hs} (E : PE h h') : ∀ {t : List T} {u : List U}, Vals h t u → Vals h' t u
  | _, _, .nil => .nil
  | _, _, .cons a b => .cons (Val.ext E a) (Vals.ext E b)
end
theorem PE.fr {h h' : Hs} (F : Fr nX h h') : PE h h' := fun i c fs e _ => F.gets e
theorem PE.trans {h h1 h2 : Hs} (a : PE h h1) (b : PE h1 h2) : PE h h2 := fun i c fs e l => b i c fs (a i c fs e l) l
theorem Vals.length {h : Hs} : ∀ {ts : List T} {us : List U}, Vals h ts us → ts.length = us.length
  | _, _, .nil => rfl
  | _, _, .cons _ b => congrArg Nat.succ (Vals.length b)
theorem Vals.append {h : Hs} : ∀ {a : List T} {x : List U} {b : List T} {y : List U}, Vals h a x → Vals h b y → Vals h (a ++ b) (x ++ y)
  | _, _, _, _, .nil, v => v
  | _, _, _, _, .cons a b, v => .cons a (Vals.append b v)
theorem Vals.get {h : Hs} : ∀ {ts : List T} {us : List U} {j : Nat} {u : U}, Vals h ts us → us[j]? = some u → ∃ t ∈ ts, Val h t u
  | _, _, j, u, .nil, e => by simp at e
  | _, _, 0, u, .cons a b, e => by
    simp at e
    subst e
    exact ⟨_, List.mem_cons_self, a⟩
  | _, _, j + 1, u, .cons a b, e => by
    obtain ⟨t, m, v⟩ := Vals.get (j := j) b (by simpa using e)
    exact ⟨t, List.mem_cons_of_mem _ m, v⟩
section
variable {n : Nat} {h : Hs} {u : U}
theorem f1 : fam (n + 1) 1 [u] h = (b_kept (fam n) [some u, none] h).out := rfl
theorem numU_cases (w : Wo) : numU w = .non ∨ ∃ i, numU w = .int i := by
  unfold numU
  by_cases e : numB w = true
  · rw [if_pos e]
    cases parse w with
    | none => exact .inl rfl
    | some i => exact .inr ⟨i, rfl⟩
  · rw [if_neg e]
    exact .inl rfl
theorem plainU_cases {w : Wo} (e : plainU w = [u]) : u = .non ∨ u = .str w ∨ ∃ i, u = .int i := by
  unfold plainU at e
  by_cases e1 : eqN w [45] = true
  · rw [if_pos e1] at e
    cases e
    exact .inl rfl
  · rw [if_neg e1] at e
    by_cases e2 : isWordB w = true
    · rw [if_pos e2] at e
      cases e
      exact .inr (.inl rfl)
    · rw [if_neg e2] at e
      rcases numU_cases w with q | ⟨i, q⟩
      · rw [q] at e
        cases e
      · rw [q] at e
        cases e
        exact .inr (.inr ⟨i, rfl⟩)
theorem plainU_kd {w : Wo} (e : plainU w = [u]) : isiU isiC isiS [.list, .tuple] u h = .ok (.bl false) h := by
  rcases plainU_cases e with rfl | rfl | ⟨i, rfl⟩ <;> rfl
theorem isi_ins {c p : Nat} {fs : List (Nat × U)} {cl : List Cl} (e : h.get p = some (.ins c fs)) (hc : 13 ≤ c) (hc2 : c ≤ 27) (hk : anyK isiS (.own c) cl = some false) : isiU isiC isiS cl (.ref p) h = .ok (.bl false) h := by
  have hm : isiC.any (Nat.beq c) = true := by
    have : ∀ c, c ≤ 27 → 13 ≤ c → isiC.any (Nat.beq c) = true := by decide
    exact this c hc2 hc
  unfold isiU
  simp only [kdU, e, hm, hk]
theorem lc_kept {us : List U} {τ : Sl} (hτ : 1 < τ.length) (hl : us.length ≤ 10000) (hw : h.wf) (ih : ∀ u ∈ us, ∀ h1, Fr nX h h1 → ∃ h2, fam n 1 [u] h1 = .ok u h2 ∧ Fr nX h1 h2) {m : EM} (em : m τ h = .ok (.tup us) h) :
    ∃ h', mLc (mSeqI m) [1] (.one 1) mYes (mCall (fam n 1) (mCons (mVar 1) mNil)) fu τ h = .ok (.ref h'.n) (h'.new (.lst us)) ∧ Fr nX h h' := by
  rw [e_lc, seqI_tup em]
  have key := lcGo_inv (it := .vals us) (vs := [1]) (tg := .one 1) (t := mYes) (e := mCall (fam n 1) (mCons (mVar 1) mNil)) (τ := τ) (us := us) (fun j acc h1 => acc = us.take j ∧ Fr nX h h1) (fun j acc h1 _ => rfl) (fun j u acc h1 eu i => by
    obtain ⟨rfl, F⟩ := i
    obtain ⟨h2, e2, F2⟩ := ih u (List.mem_of_getElem? eu) h1 F
    refine ⟨_, rfl, .inl ⟨h1, u, h2, rfl, ?_, by rw [List.take_succ, eu]; rfl, F.trans F2⟩⟩
    have : mVar 1 ((wipeU [1] τ).set 1 (some u)) h1 = .ok u h1 := by
      unfold mVar
      rw [List.getElem?_set_self (by simpa [wipeU] using hτ)]
    simp [this, e2]) fu 0 [] h (by unfold fu; omega) (by omega) ⟨rfl, Fr.refl hw⟩
  obtain ⟨ys, h', e1, e2, F⟩ := key
  refine ⟨h', ?_, F⟩
  simp only [bind_ok, e1, lcEnd_ok]
  simp at e2
  rw [e2, mkL_ok (by omega)]
/-- kept of a value is the value -/
theorem kept_ok : ∀ {d : Nat} {t : T} {u : U} {n : Nat} {h : Hs}, h.wf → okT d t → Val h t u → d < n → ∃ h', fam n 1 [u] h = .ok u h' ∧ Fr nX h h'
  | d, t, u, 0, h, _, _, _, hn => by omega
  | d, .leaf w, u, n + 1, h, hw, ho, .leaf e, hn => ⟨h, by
      rw [f1]
      simp [b_kept, plainU_kd e], Fr.refl hw⟩
  | 0, .tup ts, u, n + 1, h, hw, ho, v, hn => ho.elim
  | d + 1, .tup ts, .tup us, n + 1, h, hw, ho, .tup v hl, hn => by
    obtain ⟨h', e, F⟩ := lc_kept (n := n) (τ := [some (.tup us), none]) (h := h) (us := us) (m := mVar 0) (by simp) hl hw (fun u hu h1 F => by
      obtain ⟨j, hj, ej⟩ := List.mem_iff_getElem.mp hu
      obtain ⟨t, ht, vt⟩ := Vals.get (j := j) v (by rw [List.getElem?_eq_getElem hj, ej])
      exact kept_ok F.wf (ho t ht) (vt.ext (PE.fr F)) (by omega)) rfl
    refine ⟨h'.new (.lst us), ?_, F.trans (Fr.new F.wf)⟩
    rw [f1]
    have g := Hs.get_new_same (o := .lst us) F.wf
    have ei : isiU isiC isiS [.list, .tuple] (.tup us) h = .ok (.bl true) h := rfl
    simp [b_kept, ei, e, fTuple, g]
  | 0, .pap w ts, u, n + 1, h, hw, ho, v, hn => ho.elim
  | d + 1, .pap w ts, .ref p, n + 1, h, hw, ho, .pap v hl e h1 h2 e4 e6, hn => ⟨h, by
      rw [f1]
      have := isi_ins (cl := [.list, .tuple]) e h1 (by omega) rfl
      simp [b_kept, this], Fr.refl hw⟩
theorem kepts_ok {d n : Nat} {ts : List T} {us : List U} {h : Hs} (hw : h.wf) (ho : ∀ t ∈ ts, okT d t) (v : Vals h ts us) (hl : us.length ≤ 10000) (hn : d + 1 < n) : ∃ h', fam n 1 [.tup us] h = .ok (.tup us) h' ∧ Fr nX h h' :=
  kept_ok (d := d + 1) (t := .tup ts) hw ho (.tup v hl) hn
end
/-! ### the papers' inits -/
theorem f2 {n : Nat} {h : Hs} {u v : U} : fam (n + 1) 2 [u, v] h = (b_Paper_init (fam n) [some u, some v] h).out := rfl
theorem paper_init {n p c : Nat} {h : Hs} {us : List U} {nm w : Wo} (hw : h.wf) (e : h.get p = some (.ins c [])) (hc : 13 ≤ c) (hc2 : c ≤ 25) (hn : nms c = some nm) (hlo : fLower (.str nm) [] = fun h => some (.str w, h))
    (hk : ∀ h1, Fr (· = p) h h1 → ∃ h2, fam n 1 [.tup us] h1 = .ok (.tup us) h2 ∧ Fr nX h1 h2) : ∃ h', fam (n + 1) 2 [.ref p, .tup us] h = .ok .non h' ∧ h'.get p = some (.ins c [(4, .str w), (6, .tup us)]) ∧ Fr (· = p) h h' := by
  have hm : [13, 14, 15, 16, 17, 18, 19, 20, 21, 22, 23, 24, 25].any (Nat.beq c) = true := by
    have : ∀ c, c ≤ 25 → 13 ≤ c → [13, 14, 15, 16, 17, 18, 19, 20, 21, 22, 23, 24, 25].any (Nat.beq c) = true := by decide
    exact this c hc2 hc
  have hp := get_lt hw e
  have F1 : Fr (· = p) h (h.put p (.ins c [(4, .str w)])) := Fr.put hw hp rfl
  have g1 : (h.put p (.ins c [(4, .str w)])).get p = some (.ins c [(4, .str w)]) := Hs.get_put_same hw hp
  obtain ⟨h2, e2, F2⟩ := hk _ F1
  have g2 := F2.gets g1
  have hp2 := get_lt F2.wf g2
  refine ⟨h2.put p (.ins c [(4, .str w), (6, .tup us)]), ?_, Hs.get_put_same F2.wf hp2, (F1.trans F2.up).trans (Fr.put F2.wf hp2 rfl)⟩
  rw [f2]
  have et : mTyNm nms (mVar 0) [some (.ref p), some (.tup us)] h = .ok (.str nm) h := by
    unfold mTyNm
    simp [e, hn]
  have s1 := setF_ok (f := 4) (u := .str w) (τ := [some (.ref p), some (.tup us)]) (cs := [13, 14, 15, 16, 17, 18, 19, 20, 21, 22, 23, 24, 25]) e hm (by simp)
  have s2 := setF_ok (f := 6) (u := .tup us) (τ := [some (.ref p), some (.tup us)]) (cs := [13, 14, 15, 16, 17, 18, 19, 20, 21, 22, 23, 24, 25]) g2 hm (by simp)
  have hp1 : ptF 4 (.str w) [] = [(4, .str w)] := rfl
  have hp3 : ptF 6 (.tup us) [(4, .str w)] = [(4, .str w), (6, .tup us)] := rfl
  rw [hp1] at s1
  rw [hp3] at s2
  simp [b_Paper_init, et, hlo, s1, e2, s2]
theorem runSup_eq {cs : List Nat} {n N p c : Nat} {ms : AM} {mb : FM} {b : SM} {us ws : List U} {h h1 h2 : Hs} {u : U} {fs : List (Nat × U)} (hn : (.ref p :: us : List U).length = n) (e : h.get p = some (.ins c fs)) (hc : cs.any (Nat.beq c) = true)
    (e1 : ms ((.ref p :: us : List U).map some ++ List.replicate (N - n) none) h = .ok ws h1) (e2 : mb (.ref p :: ws) h1 = .ok u h2) :
    runSup cs n N ms mb b (.ref p :: us) h = (b ((.ref p :: us : List U).map some ++ List.replicate (N - n) none) h2).out := by
  have hs : selfC cs (.ref p :: us) h = true := by
    show (match h.get p with
      | some (.ins c _) => cs.any (Nat.beq c)
      | _ => false) = true
    rw [e]
    exact hc
  have hb : (Nat.beq (.ref p :: us : List U).length n && selfC cs (.ref p :: us) h) = true := by
    rw [hs, Bool.and_true, hn]
    exact Nat.beq_refl n
  unfold runSup
  rw [hb]
  simp only [e1, bind_ok, List.headD_cons, e2]
  cases b ((.ref p :: us : List U).map some ++ List.replicate (N - n) none) h2 <;> rfl
/-- a paper of one part -/
theorem one_init {n p c f : Nat} {h : Hs} {u : U} {nm w : Wo} {m : FM} (hm : m = runSup [c] 2 2 (mCons (mVar 1) mNil) (starF 1 (fam (n + 1) 2)) (mSetF f [c] (mVar 0) (mBin opIxA (mFld 6 (mVar 0)) (mC (.int 0))))) (hf : f ≠ 4 ∧ f ≠ 6) (hw : h.wf)
    (e : h.get p = some (.ins c [])) (hc : 13 ≤ c) (hc2 : c ≤ 25) (hn : nms c = some nm) (hlo : fLower (.str nm) [] = fun h => some (.str w, h))
    (hk : ∀ h1, Fr (· = p) h h1 → ∃ h2, fam n 1 [.tup [u]] h1 = .ok (.tup [u]) h2 ∧ Fr nX h1 h2) : ∃ h' fs, m [.ref p, u] h = .ok .non h' ∧ h'.get p = some (.ins c fs) ∧ lkF 4 fs = some (.str w) ∧ lkF 6 fs = some (.tup [u]) ∧ Fr (· = p) h h' := by
  obtain ⟨h1, e1, g1, F1⟩ := paper_init hw e hc hc2 hn hlo hk
  have hp1 := get_lt F1.wf g1
  refine ⟨h1.put p (.ins c [(4, .str w), (6, .tup [u]), (f, u)]), _, ?_, Hs.get_put_same F1.wf hp1, rfl, rfl, F1.trans (Fr.put F1.wf hp1 rfl)⟩
  have hst : starF 1 (fam (n + 1) 2) [.ref p, u] h = .ok .non h1 := by
    have : (Nat.ble 1 [U.ref p, u].length && fits [U.ref p, u].length) = true := rfl
    unfold starF
    rw [this]
    exact e1
  rw [hm, runSup_eq (us := [u]) (n := 2) (ws := [u]) (h1 := h) (h2 := h1) (u := .non) rfl e (by simp) (by simp) hst]
  have s1 := setF_ok (f := f) (u := u) (τ := [some (.ref p), some u]) (cs := [c]) g1 (by simp) (by simp)
  have b4 : Nat.beq 4 f = false := by
    cases q : Nat.beq 4 f with
    | false => rfl
    | true => exact absurd (Nat.eq_of_beq_eq_true q).symm hf.1
  have b6 : Nat.beq 6 f = false := by
    cases q : Nat.beq 6 f with
    | false => rfl
    | true => exact absurd (Nat.eq_of_beq_eq_true q).symm hf.2
  have hp3 : ptF f u [(4, .str w), (6, .tup [u])] = [(4, .str w), (6, .tup [u]), (f, u)] := by
    show (match Nat.beq 4 f with
      | true => _
      | false => (4, U.str w) :: (match Nat.beq 6 f with
        | true => _
        | false => (6, U.tup [u]) :: [(f, u)])) = _
    rw [b4, b6]
  rw [hp3] at s1
  have hfl : fldU 6 (.ref p) h1 = .ok (.tup [u]) h1 := fldU_ok g1 rfl
  have hix : opIxA (.tup [u]) (.int 0) h1 = some (u, h1) := rfl
  simp [hfl, hix, s1]
end K89

set_option Elab.async false
set_option linter.all false
set_option maxRecDepth 100000
set_option maxHeartbeats 4000000
/-! Papers made. -/
namespace K89
open PySem PySem.Spec PyProof.Rows L2 Sm
theorem gFldU_ok {f i c : Nat} {cs : List Nat} {mo : EM} {u : U} {τ : Sl} {h : Hs} {fs : List (Nat × U)} (em : mo τ h = .ok (.ref i) h) (e : h.get i = some (.ins c fs)) (hc : cs.any (Nat.beq c) = true) (hl : fs.length < 1000) :
    gFldU f cs mo u τ h = some (τ, h.put i (.ins c (ptF f u fs))) := by
  unfold gFldU
  simp only [em, putFld_ok e hc hl]
theorem two_init {n p c f g : Nat} {h : Hs} {u v : U} {nm w : Wo} {m : FM} (hm : m = runSup [c] 3 3 (mCons (mVar 1) (mCons (mVar 2) mNil)) (starF 1 (fam (n + 1) 2)) (mAsg (mFld 6 (mVar 0)) (gT 2 (gCons (gFldU f [c] (mVar 0)) (gCons (gFldU g [c] (mVar 0)) gNil)))))
    (hf : Nat.beq 4 f = false ∧ Nat.beq 6 f = false ∧ Nat.beq 4 g = false ∧ Nat.beq 6 g = false ∧ Nat.beq f g = false) (hw : h.wf)
    (e : h.get p = some (.ins c [])) (hc : 13 ≤ c) (hc2 : c ≤ 25) (hn : nms c = some nm) (hlo : fLower (.str nm) [] = fun h => some (.str w, h))
    (hk : ∀ h1, Fr (· = p) h h1 → ∃ h2, fam n 1 [.tup [u, v]] h1 = .ok (.tup [u, v]) h2 ∧ Fr nX h1 h2) : ∃ h' fs, m [.ref p, u, v] h = .ok .non h' ∧ h'.get p = some (.ins c fs) ∧ lkF 4 fs = some (.str w) ∧ lkF 6 fs = some (.tup [u, v]) ∧ Fr (· = p) h h' := by
  obtain ⟨h1, e1, g1, F1⟩ := paper_init hw e hc hc2 hn hlo hk
  have hp1 := get_lt F1.wf g1
  obtain ⟨f4, f6, g4, g6, fg⟩ := hf
  have w2 := Hs.wf_put (o := .ins c [(4, .str w), (6, .tup [u, v]), (f, u)]) F1.wf hp1
  have g2 := Hs.get_put_same (o := .ins c [(4, .str w), (6, .tup [u, v]), (f, u)]) F1.wf hp1
  have hp2 := get_lt w2 g2
  refine ⟨(h1.put p (.ins c [(4, .str w), (6, .tup [u, v]), (f, u)])).put p (.ins c [(4, .str w), (6, .tup [u, v]), (f, u), (g, v)]), _, ?_, Hs.get_put_same w2 hp2, rfl, rfl, (F1.trans (Fr.put F1.wf hp1 rfl)).trans (Fr.put w2 hp2 rfl)⟩
  have hst : starF 1 (fam (n + 1) 2) [.ref p, u, v] h = .ok .non h1 := by
    have : (Nat.ble 1 [U.ref p, u, v].length && fits [U.ref p, u, v].length) = true := rfl
    unfold starF
    rw [this]
    exact e1
  rw [hm, runSup_eq (us := [u, v]) (n := 3) (ws := [u, v]) (h1 := h) (h2 := h1) (u := .non) rfl e (by simp) (by simp) hst]
  have hp3 : ptF f u [(4, .str w), (6, .tup [u, v])] = [(4, .str w), (6, .tup [u, v]), (f, u)] := by
    show (match Nat.beq 4 f with
      | true => _
      | false => (4, U.str w) :: (match Nat.beq 6 f with
        | true => _
        | false => (6, U.tup [u, v]) :: [(f, u)])) = _
    rw [f4, f6]
  have hp4 : ptF g v [(4, .str w), (6, .tup [u, v]), (f, u)] = [(4, .str w), (6, .tup [u, v]), (f, u), (g, v)] := by
    show (match Nat.beq 4 g with
      | true => _
      | false => (4, U.str w) :: (match Nat.beq 6 g with
        | true => _
        | false => (6, U.tup [u, v]) :: (match Nat.beq f g with
          | true => _
          | false => (f, u) :: [(g, v)]))) = _
    rw [g4, g6, fg]
  have s1 := gFldU_ok (f := f) (u := u) (mo := mVar 0) (τ := [some (.ref p), some u, some v]) (cs := [c]) rfl g1 (by simp) (by simp)
  have s2 := gFldU_ok (f := g) (u := v) (mo := mVar 0) (τ := [some (.ref p), some u, some v]) (cs := [c]) rfl g2 (by simp) (by simp)
  rw [hp3] at s1
  rw [hp4] at s2
  have hfl : fldU 6 (.ref p) h1 = .ok (.tup [u, v]) h1 := fldU_ok g1 rfl
  simp [hfl, s1, s2]
theorem three_init {n p c f g k : Nat} {h : Hs} {u v x : U} {nm w : Wo} {m : FM} (hm : m = runSup [c] 4 4 (mCons (mVar 1) (mCons (mVar 2) (mCons (mVar 3) mNil))) (starF 1 (fam (n + 1) 2)) (mAsg (mFld 6 (mVar 0)) (gT 3 (gCons (gFldU f [c] (mVar 0)) (gCons (gFldU g [c] (mVar 0)) (gCons (gFldU k [c] (mVar 0)) gNil))))))
    (hf : (Nat.beq 4 f = false ∧ Nat.beq 6 f = false ∧ Nat.beq 4 g = false ∧ Nat.beq 6 g = false ∧ Nat.beq f g = false) ∧ Nat.beq 4 k = false ∧ Nat.beq 6 k = false ∧ Nat.beq f k = false ∧ Nat.beq g k = false) (hw : h.wf)
    (e : h.get p = some (.ins c [])) (hc : 13 ≤ c) (hc2 : c ≤ 25) (hn : nms c = some nm) (hlo : fLower (.str nm) [] = fun h => some (.str w, h))
    (hk : ∀ h1, Fr (· = p) h h1 → ∃ h2, fam n 1 [.tup [u, v, x]] h1 = .ok (.tup [u, v, x]) h2 ∧ Fr nX h1 h2) : ∃ h' fs, m [.ref p, u, v, x] h = .ok .non h' ∧ h'.get p = some (.ins c fs) ∧ lkF 4 fs = some (.str w) ∧ lkF 6 fs = some (.tup [u, v, x]) ∧ Fr (· = p) h h' := by
  obtain ⟨h1, e1, g1, F1⟩ := paper_init hw e hc hc2 hn hlo hk
  have hp1 := get_lt F1.wf g1
  obtain ⟨⟨f4, f6, g4, g6, fg⟩, k4, k6, fk, gk⟩ := hf
  have w2 := Hs.wf_put (o := .ins c [(4, .str w), (6, .tup [u, v, x]), (f, u)]) F1.wf hp1
  have g2 := Hs.get_put_same (o := .ins c [(4, .str w), (6, .tup [u, v, x]), (f, u)]) F1.wf hp1
  have hp2 := get_lt w2 g2
  have w3 := Hs.wf_put (o := .ins c [(4, .str w), (6, .tup [u, v, x]), (f, u), (g, v)]) w2 hp2
  have g3 := Hs.get_put_same (o := .ins c [(4, .str w), (6, .tup [u, v, x]), (f, u), (g, v)]) w2 hp2
  have hp3' := get_lt w3 g3
  refine ⟨((h1.put p (.ins c [(4, .str w), (6, .tup [u, v, x]), (f, u)])).put p (.ins c [(4, .str w), (6, .tup [u, v, x]), (f, u), (g, v)])).put p (.ins c [(4, .str w), (6, .tup [u, v, x]), (f, u), (g, v), (k, x)]), _, ?_, Hs.get_put_same w3 hp3', rfl, rfl, ((F1.trans (Fr.put F1.wf hp1 rfl)).trans (Fr.put w2 hp2 rfl)).trans (Fr.put w3 hp3' rfl)⟩
  have hst : starF 1 (fam (n + 1) 2) [.ref p, u, v, x] h = .ok .non h1 := by
    have : (Nat.ble 1 [U.ref p, u, v, x].length && fits [U.ref p, u, v, x].length) = true := rfl
    unfold starF
    rw [this]
    exact e1
  rw [hm, runSup_eq (us := [u, v, x]) (n := 4) (ws := [u, v, x]) (h1 := h) (h2 := h1) (u := .non) rfl e (by simp) (by simp) hst]
  have hp3 : ptF f u [(4, .str w), (6, .tup [u, v, x])] = [(4, .str w), (6, .tup [u, v, x]), (f, u)] := by
    show (match Nat.beq 4 f with
      | true => _
      | false => (4, U.str w) :: (match Nat.beq 6 f with
        | true => _
        | false => (6, U.tup [u, v, x]) :: [(f, u)])) = _
    rw [f4, f6]
  have hp4 : ptF g v [(4, .str w), (6, .tup [u, v, x]), (f, u)] = [(4, .str w), (6, .tup [u, v, x]), (f, u), (g, v)] := by
    show (match Nat.beq 4 g with
      | true => _
      | false => (4, U.str w) :: (match Nat.beq 6 g with
        | true => _
        | false => (6, U.tup [u, v, x]) :: (match Nat.beq f g with
          | true => _
          | false => (f, u) :: [(g, v)]))) = _
    rw [g4, g6, fg]
  have hp5 : ptF k x [(4, .str w), (6, .tup [u, v, x]), (f, u), (g, v)] = [(4, .str w), (6, .tup [u, v, x]), (f, u), (g, v), (k, x)] := by
    show (match Nat.beq 4 k with
      | true => _
      | false => (4, U.str w) :: (match Nat.beq 6 k with
        | true => _
        | false => (6, U.tup [u, v, x]) :: (match Nat.beq f k with
          | true => _
          | false => (f, u) :: (match Nat.beq g k with
            | true => _
            | false => (g, v) :: [(k, x)])))) = _
    rw [k4, k6, fk, gk]
  have s1 := gFldU_ok (f := f) (u := u) (mo := mVar 0) (τ := [some (.ref p), some u, some v, some x]) (cs := [c]) rfl g1 (by simp) (by simp)
  have s2 := gFldU_ok (f := g) (u := v) (mo := mVar 0) (τ := [some (.ref p), some u, some v, some x]) (cs := [c]) rfl g2 (by simp) (by simp)
  have s3 := gFldU_ok (f := k) (u := x) (mo := mVar 0) (τ := [some (.ref p), some u, some v, some x]) (cs := [c]) rfl g3 (by simp) (by simp)
  rw [hp3] at s1
  rw [hp4] at s2
  rw [hp5] at s3
  have hfl : fldU 6 (.ref p) h1 = .ok (.tup [u, v, x]) h1 := fldU_ok g1 rfl
  simp [hfl, s1, s2, s3]
/-! ### made_of -/
theorem f20 {n : Nat} {h : Hs} {u v : U} : fam (n + 1) 20 [u, v] h = (b_made_of (fam n) [some u, some v, none, none] h).out := rfl
/-- what made_of calls -/
def mk (n : Nat) (c k : Nat) (us : List U) (h : Hs) : R U := made h.n (fam n k (.ref h.n :: us) (h.new (.ins c [])))
theorem ixL0 {h : Hs} {t : Nat} {u : U} {us : List U} (e : h.get t = some (.lst (u :: us))) : opIxA (.ref t) (.int 0) h = some (u, h) := opIxA_lst (k := 0) e rfl rfl
theorem made_form {n t : Nat} {h : Hs} {u v : U} (e : h.get t = some (.lst [u, v])) : fam (n + 1) 20 [.str [102, 111, 114, 109], .ref t] h = mk n 13 3 [u, v] h := by
  rw [f20]
  have e0 := ixL0 e
  have e1 : opIxA (.ref t) (.int (-1)) h = some (v, h) := opIxA_last (xs := [u]) e
  have t0 : opInA false (.str [102, 111, 114, 109]) (.tup [.str [97, 108, 105, 107, 101], .str [117, 110, 108, 105, 107, 101]]) h = some (.bl false, h) := rfl
  have t1 : opInA false (.str [102, 111, 114, 109]) (.tup [.str [112, 97, 115, 115, 101, 100], .str [102, 97, 105, 108, 101, 100]]) h = some (.bl false, h) := rfl
  have t2 : opInA false (.str [102, 111, 114, 109]) (.tup [.str [116, 111, 116, 97, 108], .str [117, 110, 116, 114, 117, 101]]) h = some (.bl false, h) := rfl
  have t3 : opInA false (.str [102, 111, 114, 109]) (.tup [.str [109, 101, 110, 100, 115], .str [117, 110, 109, 101, 110, 100, 101, 100]]) h = some (.bl false, h) := rfl
  have t4 : opInA false (.str [102, 111, 114, 109]) (.tup [.str [115, 112, 97, 114, 101, 115], .str [101, 110, 111, 117, 103, 104]]) h = some (.bl false, h) := rfl
  have q1 : eqN [102, 111, 114, 109] [109, 105, 115, 115, 101, 115] = false := rfl
  have q2 : eqN [102, 111, 114, 109] [102, 111, 114, 109] = true := rfl
  simp [b_made_of, e0, e1, t0, t1, t2, t3, t4, q1, q2, mk]
  cases made h.n (fam n 3 [U.ref h.n, u, v] (h.new (O.ins 13 []))) <;> rfl
theorem made_alike {n t : Nat} {h : Hs} {u : U} (e : h.get t = some (.lst [u])) : fam (n + 1) 20 [.str [97, 108, 105, 107, 101], .ref t] h = mk n 14 4 [u] h := by
  rw [f20]
  have e0 := ixL0 e
  have e1 : opIxA (.ref t) (.int (-1)) h = some (u, h) := opIxA_last (xs := []) e
  have t0 : opInA false (.str [97, 108, 105, 107, 101]) (.tup [.str [97, 108, 105, 107, 101], .str [117, 110, 108, 105, 107, 101]]) h = some (.bl true, h) := rfl
  have q1 : eqN [97, 108, 105, 107, 101] [97, 108, 105, 107, 101] = true := rfl
  simp [b_made_of, e0, e1, t0, q1, mk]
  cases made h.n (fam n 4 [U.ref h.n, u] (h.new (O.ins 14 []))) <;> rfl
theorem made_unlike {n t : Nat} {h : Hs} {u : U} (e : h.get t = some (.lst [u])) : fam (n + 1) 20 [.str [117, 110, 108, 105, 107, 101], .ref t] h = mk n 15 5 [u] h := by
  rw [f20]
  have e0 := ixL0 e
  have e1 : opIxA (.ref t) (.int (-1)) h = some (u, h) := opIxA_last (xs := []) e
  have t0 : opInA false (.str [117, 110, 108, 105, 107, 101]) (.tup [.str [97, 108, 105, 107, 101], .str [117, 110, 108, 105, 107, 101]]) h = some (.bl true, h) := rfl
  have q1 : eqN [117, 110, 108, 105, 107, 101] [97, 108, 105, 107, 101] = false := rfl
  simp [b_made_of, e0, e1, t0, q1, mk]
  cases made h.n (fam n 5 [U.ref h.n, u] (h.new (O.ins 15 []))) <;> rfl
theorem made_passed {n t : Nat} {h : Hs} {u : U} (e : h.get t = some (.lst [u])) : fam (n + 1) 20 [.str [112, 97, 115, 115, 101, 100], .ref t] h = mk n 24 14 [u] h := by
  rw [f20]
  have e0 := ixL0 e
  have e1 : opIxA (.ref t) (.int (-1)) h = some (u, h) := opIxA_last (xs := []) e
  have t0 : opInA false (.str [112, 97, 115, 115, 101, 100]) (.tup [.str [97, 108, 105, 107, 101], .str [117, 110, 108, 105, 107, 101]]) h = some (.bl false, h) := rfl
  have t1 : opInA false (.str [112, 97, 115, 115, 101, 100]) (.tup [.str [112, 97, 115, 115, 101, 100], .str [102, 97, 105, 108, 101, 100]]) h = some (.bl true, h) := rfl
  have q1 : eqN [112, 97, 115, 115, 101, 100] [112, 97, 115, 115, 101, 100] = true := rfl
  simp [b_made_of, e0, e1, t0, t1, q1, mk]
  cases made h.n (fam n 14 [U.ref h.n, u] (h.new (O.ins 24 []))) <;> rfl
theorem made_failed {n t : Nat} {h : Hs} {u : U} (e : h.get t = some (.lst [u])) : fam (n + 1) 20 [.str [102, 97, 105, 108, 101, 100], .ref t] h = mk n 25 15 [u] h := by
  rw [f20]
  have e0 := ixL0 e
  have e1 : opIxA (.ref t) (.int (-1)) h = some (u, h) := opIxA_last (xs := []) e
  have t0 : opInA false (.str [102, 97, 105, 108, 101, 100]) (.tup [.str [97, 108, 105, 107, 101], .str [117, 110, 108, 105, 107, 101]]) h = some (.bl false, h) := rfl
  have t1 : opInA false (.str [102, 97, 105, 108, 101, 100]) (.tup [.str [112, 97, 115, 115, 101, 100], .str [102, 97, 105, 108, 101, 100]]) h = some (.bl true, h) := rfl
  have q1 : eqN [102, 97, 105, 108, 101, 100] [112, 97, 115, 115, 101, 100] = false := rfl
  simp [b_made_of, e0, e1, t0, t1, q1, mk]
  cases made h.n (fam n 15 [U.ref h.n, u] (h.new (O.ins 25 []))) <;> rfl
theorem made_matters {n t : Nat} {h : Hs} {u v : U} (e : h.get t = some (.lst [u, v])) : fam (n + 1) 20 [.str [109, 97, 116, 116, 101, 114, 115], .ref t] h = mk n 18 8 [u, v] h := by
  rw [f20]
  have e0 := ixL0 e
  have e1 : opIxA (.ref t) (.int (-1)) h = some (v, h) := opIxA_last (xs := [u]) e
  have t0 : opInA false (.str [109, 97, 116, 116, 101, 114, 115]) (.tup [.str [97, 108, 105, 107, 101], .str [117, 110, 108, 105, 107, 101]]) h = some (.bl false, h) := rfl
  have t1 : opInA false (.str [109, 97, 116, 116, 101, 114, 115]) (.tup [.str [112, 97, 115, 115, 101, 100], .str [102, 97, 105, 108, 101, 100]]) h = some (.bl false, h) := rfl
  have t2 : opInA false (.str [109, 97, 116, 116, 101, 114, 115]) (.tup [.str [116, 111, 116, 97, 108], .str [117, 110, 116, 114, 117, 101]]) h = some (.bl false, h) := rfl
  have t3 : opInA false (.str [109, 97, 116, 116, 101, 114, 115]) (.tup [.str [109, 101, 110, 100, 115], .str [117, 110, 109, 101, 110, 100, 101, 100]]) h = some (.bl false, h) := rfl
  have t4 : opInA false (.str [109, 97, 116, 116, 101, 114, 115]) (.tup [.str [115, 112, 97, 114, 101, 115], .str [101, 110, 111, 117, 103, 104]]) h = some (.bl false, h) := rfl
  have q1 : eqN [109, 97, 116, 116, 101, 114, 115] [109, 105, 115, 115, 101, 115] = false := rfl
  have q2 : eqN [109, 97, 116, 116, 101, 114, 115] [102, 111, 114, 109] = false := rfl
  simp [b_made_of, e0, e1, t0, t1, t2, t3, t4, q1, q2, mk]
  cases made h.n (fam n 8 [U.ref h.n, u, v] (h.new (O.ins 18 []))) <;> rfl
theorem made_total {n t : Nat} {h : Hs} {u : U} (e : h.get t = some (.lst [u])) : fam (n + 1) 20 [.str [116, 111, 116, 97, 108], .ref t] h = mk n 22 12 [u] h := by
  rw [f20]
  have e0 := ixL0 e
  have e1 : opIxA (.ref t) (.int (-1)) h = some (u, h) := opIxA_last (xs := []) e
  have t0 : opInA false (.str [116, 111, 116, 97, 108]) (.tup [.str [97, 108, 105, 107, 101], .str [117, 110, 108, 105, 107, 101]]) h = some (.bl false, h) := rfl
  have t1 : opInA false (.str [116, 111, 116, 97, 108]) (.tup [.str [112, 97, 115, 115, 101, 100], .str [102, 97, 105, 108, 101, 100]]) h = some (.bl false, h) := rfl
  have t2 : opInA false (.str [116, 111, 116, 97, 108]) (.tup [.str [116, 111, 116, 97, 108], .str [117, 110, 116, 114, 117, 101]]) h = some (.bl true, h) := rfl
  have q1 : eqN [116, 111, 116, 97, 108] [116, 111, 116, 97, 108] = true := rfl
  simp [b_made_of, e0, e1, t0, t1, t2, q1, mk]
  cases made h.n (fam n 12 [U.ref h.n, u] (h.new (O.ins 22 []))) <;> rfl
theorem made_untrue {n t : Nat} {h : Hs} {u : U} (e : h.get t = some (.lst [u])) : fam (n + 1) 20 [.str [117, 110, 116, 114, 117, 101], .ref t] h = mk n 23 13 [u] h := by
  rw [f20]
  have e0 := ixL0 e
  have e1 : opIxA (.ref t) (.int (-1)) h = some (u, h) := opIxA_last (xs := []) e
  have t0 : opInA false (.str [117, 110, 116, 114, 117, 101]) (.tup [.str [97, 108, 105, 107, 101], .str [117, 110, 108, 105, 107, 101]]) h = some (.bl false, h) := rfl
  have t1 : opInA false (.str [117, 110, 116, 114, 117, 101]) (.tup [.str [112, 97, 115, 115, 101, 100], .str [102, 97, 105, 108, 101, 100]]) h = some (.bl false, h) := rfl
  have t2 : opInA false (.str [117, 110, 116, 114, 117, 101]) (.tup [.str [116, 111, 116, 97, 108], .str [117, 110, 116, 114, 117, 101]]) h = some (.bl true, h) := rfl
  have q1 : eqN [117, 110, 116, 114, 117, 101] [116, 111, 116, 97, 108] = false := rfl
  simp [b_made_of, e0, e1, t0, t1, t2, q1, mk]
  cases made h.n (fam n 13 [U.ref h.n, u] (h.new (O.ins 23 []))) <;> rfl
theorem made_mends {n t : Nat} {h : Hs} {u : U} (e : h.get t = some (.lst [u])) : fam (n + 1) 20 [.str [109, 101, 110, 100, 115], .ref t] h = mk n 19 9 [u] h := by
  rw [f20]
  have e0 := ixL0 e
  have e1 : opIxA (.ref t) (.int (-1)) h = some (u, h) := opIxA_last (xs := []) e
  have t0 : opInA false (.str [109, 101, 110, 100, 115]) (.tup [.str [97, 108, 105, 107, 101], .str [117, 110, 108, 105, 107, 101]]) h = some (.bl false, h) := rfl
  have t1 : opInA false (.str [109, 101, 110, 100, 115]) (.tup [.str [112, 97, 115, 115, 101, 100], .str [102, 97, 105, 108, 101, 100]]) h = some (.bl false, h) := rfl
  have t2 : opInA false (.str [109, 101, 110, 100, 115]) (.tup [.str [116, 111, 116, 97, 108], .str [117, 110, 116, 114, 117, 101]]) h = some (.bl false, h) := rfl
  have t3 : opInA false (.str [109, 101, 110, 100, 115]) (.tup [.str [109, 101, 110, 100, 115], .str [117, 110, 109, 101, 110, 100, 101, 100]]) h = some (.bl true, h) := rfl
  have q1 : eqN [109, 101, 110, 100, 115] [109, 101, 110, 100, 115] = true := rfl
  simp [b_made_of, e0, e1, t0, t1, t2, t3, q1, mk]
  cases made h.n (fam n 9 [U.ref h.n, u] (h.new (O.ins 19 []))) <;> rfl
theorem made_unmended {n t : Nat} {h : Hs} {u : U} (e : h.get t = some (.lst [u])) : fam (n + 1) 20 [.str [117, 110, 109, 101, 110, 100, 101, 100], .ref t] h = mk n 20 10 [u] h := by
  rw [f20]
  have e0 := ixL0 e
  have e1 : opIxA (.ref t) (.int (-1)) h = some (u, h) := opIxA_last (xs := []) e
  have t0 : opInA false (.str [117, 110, 109, 101, 110, 100, 101, 100]) (.tup [.str [97, 108, 105, 107, 101], .str [117, 110, 108, 105, 107, 101]]) h = some (.bl false, h) := rfl
  have t1 : opInA false (.str [117, 110, 109, 101, 110, 100, 101, 100]) (.tup [.str [112, 97, 115, 115, 101, 100], .str [102, 97, 105, 108, 101, 100]]) h = some (.bl false, h) := rfl
  have t2 : opInA false (.str [117, 110, 109, 101, 110, 100, 101, 100]) (.tup [.str [116, 111, 116, 97, 108], .str [117, 110, 116, 114, 117, 101]]) h = some (.bl false, h) := rfl
  have t3 : opInA false (.str [117, 110, 109, 101, 110, 100, 101, 100]) (.tup [.str [109, 101, 110, 100, 115], .str [117, 110, 109, 101, 110, 100, 101, 100]]) h = some (.bl true, h) := rfl
  have q1 : eqN [117, 110, 109, 101, 110, 100, 101, 100] [109, 101, 110, 100, 115] = false := rfl
  simp [b_made_of, e0, e1, t0, t1, t2, t3, q1, mk]
  cases made h.n (fam n 10 [U.ref h.n, u] (h.new (O.ins 20 []))) <;> rfl
theorem made_spares {n t : Nat} {h : Hs} {u : U} (e : h.get t = some (.lst [u])) : fam (n + 1) 20 [.str [115, 112, 97, 114, 101, 115], .ref t] h = mk n 21 11 [u] h := by
  rw [f20]
  have e0 := ixL0 e
  have e1 : opIxA (.ref t) (.int (-1)) h = some (u, h) := opIxA_last (xs := []) e
  have t0 : opInA false (.str [115, 112, 97, 114, 101, 115]) (.tup [.str [97, 108, 105, 107, 101], .str [117, 110, 108, 105, 107, 101]]) h = some (.bl false, h) := rfl
  have t1 : opInA false (.str [115, 112, 97, 114, 101, 115]) (.tup [.str [112, 97, 115, 115, 101, 100], .str [102, 97, 105, 108, 101, 100]]) h = some (.bl false, h) := rfl
  have t2 : opInA false (.str [115, 112, 97, 114, 101, 115]) (.tup [.str [116, 111, 116, 97, 108], .str [117, 110, 116, 114, 117, 101]]) h = some (.bl false, h) := rfl
  have t3 : opInA false (.str [115, 112, 97, 114, 101, 115]) (.tup [.str [109, 101, 110, 100, 115], .str [117, 110, 109, 101, 110, 100, 101, 100]]) h = some (.bl false, h) := rfl
  have t4 : opInA false (.str [115, 112, 97, 114, 101, 115]) (.tup [.str [115, 112, 97, 114, 101, 115], .str [101, 110, 111, 117, 103, 104]]) h = some (.bl true, h) := rfl
  have q1 : eqN [115, 112, 97, 114, 101, 115] [115, 112, 97, 114, 101, 115] = true := rfl
  simp [b_made_of, e0, e1, t0, t1, t2, t3, t4, q1, mk]
  cases made h.n (fam n 11 [U.ref h.n, u] (h.new (O.ins 21 []))) <;> rfl
theorem made_enough {n t : Nat} {h : Hs} {u : U} (e : h.get t = some (.lst [u])) : fam (n + 1) 20 [.str [101, 110, 111, 117, 103, 104], .ref t] h = mk n 16 6 [u] h := by
  rw [f20]
  have e0 := ixL0 e
  have e1 : opIxA (.ref t) (.int (-1)) h = some (u, h) := opIxA_last (xs := []) e
  have t0 : opInA false (.str [101, 110, 111, 117, 103, 104]) (.tup [.str [97, 108, 105, 107, 101], .str [117, 110, 108, 105, 107, 101]]) h = some (.bl false, h) := rfl
  have t1 : opInA false (.str [101, 110, 111, 117, 103, 104]) (.tup [.str [112, 97, 115, 115, 101, 100], .str [102, 97, 105, 108, 101, 100]]) h = some (.bl false, h) := rfl
  have t2 : opInA false (.str [101, 110, 111, 117, 103, 104]) (.tup [.str [116, 111, 116, 97, 108], .str [117, 110, 116, 114, 117, 101]]) h = some (.bl false, h) := rfl
  have t3 : opInA false (.str [101, 110, 111, 117, 103, 104]) (.tup [.str [109, 101, 110, 100, 115], .str [117, 110, 109, 101, 110, 100, 101, 100]]) h = some (.bl false, h) := rfl
  have t4 : opInA false (.str [101, 110, 111, 117, 103, 104]) (.tup [.str [115, 112, 97, 114, 101, 115], .str [101, 110, 111, 117, 103, 104]]) h = some (.bl true, h) := rfl
  have q1 : eqN [101, 110, 111, 117, 103, 104] [115, 112, 97, 114, 101, 115] = false := rfl
  simp [b_made_of, e0, e1, t0, t1, t2, t3, t4, q1, mk]
  cases made h.n (fam n 6 [U.ref h.n, u] (h.new (O.ins 16 []))) <;> rfl
theorem made_misses {n t : Nat} {h : Hs} {u v x : U} (e : h.get t = some (.lst [u, v, x])) : fam (n + 1) 20 [.str [109, 105, 115, 115, 101, 115], .ref t] h = mk n 17 7 [u, v, x] h := by
  rw [f20]
  have e0 := ixL0 e
  have e1 : opIxA (.ref t) (.int (-1)) h = some (x, h) := opIxA_last (xs := [u, v]) e
  have e2 : opIxA (.ref t) (.int 1) h = some (v, h) := opIxA_lst (k := 1) e rfl rfl
  have t0 : opInA false (.str [109, 105, 115, 115, 101, 115]) (.tup [.str [97, 108, 105, 107, 101], .str [117, 110, 108, 105, 107, 101]]) h = some (.bl false, h) := rfl
  have t1 : opInA false (.str [109, 105, 115, 115, 101, 115]) (.tup [.str [112, 97, 115, 115, 101, 100], .str [102, 97, 105, 108, 101, 100]]) h = some (.bl false, h) := rfl
  have t2 : opInA false (.str [109, 105, 115, 115, 101, 115]) (.tup [.str [116, 111, 116, 97, 108], .str [117, 110, 116, 114, 117, 101]]) h = some (.bl false, h) := rfl
  have t3 : opInA false (.str [109, 105, 115, 115, 101, 115]) (.tup [.str [109, 101, 110, 100, 115], .str [117, 110, 109, 101, 110, 100, 101, 100]]) h = some (.bl false, h) := rfl
  have t4 : opInA false (.str [109, 105, 115, 115, 101, 115]) (.tup [.str [115, 112, 97, 114, 101, 115], .str [101, 110, 111, 117, 103, 104]]) h = some (.bl false, h) := rfl
  have q1 : eqN [109, 105, 115, 115, 101, 115] [109, 105, 115, 115, 101, 115] = true := rfl
  simp [b_made_of, e0, e1, e2, t0, t1, t2, t3, t4, q1, mk]
  cases made h.n (fam n 7 [U.ref h.n, u, v, x] (h.new (O.ins 17 []))) <;> rfl
end K89

set_option Elab.async false
set_option linter.all false
set_option maxRecDepth 100000
set_option maxHeartbeats 4000000
/-! Papers made, of any kind. -/
namespace K89
open PySem PySem.Spec PyProof.Rows L2 Sm
def szL : List (Wo × Nat) := l_SIZES.map fun p => (p.1, p.2.toNat)
theorem len2 {us : List U} (h : us.length = 2) : ∃ u v, us = [u, v] := by
  cases us with
  | nil => cases h
  | cons u r =>
    obtain ⟨v, rfl⟩ := List.length_eq_one_iff.mp (Nat.succ.inj h)
    exact ⟨u, v, rfl⟩
theorem len3 {us : List U} (h : us.length = 3) : ∃ u v x, us = [u, v, x] := by
  cases us with
  | nil => cases h
  | cons u r =>
    obtain ⟨v, x, rfl⟩ := len2 (Nat.succ.inj h)
    exact ⟨u, v, x, rfl⟩
theorem sz_mem {w : Wo} {k : Nat} (h : sz w = some k) : (w, k) ∈ szL := by
  unfold sz at h
  have key : ∀ (l : List (List Nat × Int)) (i : Int), lookM l w = some i → (w, i) ∈ l := fun l => by
    induction l with
    | nil => intro i q; cases q
    | cons p r ih =>
      intro i q
      obtain ⟨pk, pi⟩ := p
      have q2 : (match eqN pk w with | true => some pi | false => lookM r w) = some i := q
      cases z : eqN pk w with
      | true =>
        rw [z] at q2
        cases q2
        rw [eqN_iff.mp z]
        exact List.mem_cons_self
      | false =>
        rw [z] at q2
        exact List.mem_cons_of_mem _ (ih i q2)
  cases e : lookM l_SIZES w with
  | none =>
    rw [e] at h
    cases h
  | some i =>
    rw [e] at h
    have h1 : i.toNat = k := Option.some.inj h
    exact List.mem_map.mpr ⟨(w, i), key _ _ e, by rw [h1]⟩
section
variable {n c k d : Nat} {h : Hs} {us : List U} {ts : List T} {w : Wo}
theorem PE.new_put {h1 : Hs} {o : O} (hw : h.wf) (F : Fr (· = h.n) (h.new o) h1) : PE h h1 ∧ Fr nX h h1 := by
  have F2 : Fr nX h h1 := ⟨hw, F.wf, by have := F.le; rw [Hs.new_n] at this; omega, fun i hi _ => by
    have q := F.at_ i (by rw [Hs.new_n]; omega) (by
      show ¬ i = h.n
      omega)
    rw [q, Hs.get_new hw, if_neg (by omega)]⟩
  exact ⟨PE.fr F2, F2⟩
theorem mk_of (hw : h.wf) (hc : 13 ≤ c) (hc2 : c ≤ 25) (v : Vals h ts us) (hl : us.length ≤ 10000)
    (q : ∃ h' fs, fam n k (.ref h.n :: us) (h.new (.ins c [])) = .ok .non h' ∧ h'.get h.n = some (.ins c fs) ∧ lkF 4 fs = some (.str w) ∧ lkF 6 fs = some (.tup us) ∧ Fr (· = h.n) (h.new (.ins c [])) h') :
    ∃ p h', mk n c k us h = .ok (.ref p) h' ∧ Fr nX h h' ∧ Val h' (.pap w ts) (.ref p) := by
  obtain ⟨h', fs, e1, e2, e3, e4, F⟩ := q
  obtain ⟨pe, F2⟩ := PE.new_put hw F
  refine ⟨h.n, h', ?_, F2, .pap (v.ext pe) hl e2 hc hc2 e3 e4⟩
  unfold mk
  rw [e1]
  rfl
theorem keep_new (hw : h.wf) (v : Vals h ts us) (ho : ∀ t ∈ ts, okT d t) (hl : us.length ≤ 10000) (hn : d + 1 < n) {o : O} : ∀ h1, Fr (· = h.n) (h.new o) h1 → ∃ h2, fam n 1 [.tup us] h1 = .ok (.tup us) h2 ∧ Fr nX h1 h2 := fun h1 F =>
  kepts_ok F.wf ho (v.ext (PE.new_put hw F).1) hl hn
theorem made_of_ok {t : Nat} (hw : h.wf) (e : h.get t = some (.lst us)) (hs : sz w = some us.length) (v : Vals h ts us) (ho : ∀ t ∈ ts, okT d t) (hn : d + 1 < n) :
    ∃ p h', fam (n + 3) 20 [.str w, .ref t] h = .ok (.ref p) h' ∧ Fr nX h h' ∧ Val h' (.pap w ts) (.ref p) := by
  have hm := sz_mem hs
  unfold szL l_SIZES at hm
  simp only [List.map_cons, List.map_nil, List.mem_cons, List.not_mem_nil, or_false, Prod.mk.injEq] at hm
  rcases hm with ⟨rfl, hl⟩ | ⟨rfl, hl⟩ | ⟨rfl, hl⟩ | ⟨rfl, hl⟩ | ⟨rfl, hl⟩ | ⟨rfl, hl⟩ | ⟨rfl, hl⟩ | ⟨rfl, hl⟩ | ⟨rfl, hl⟩ | ⟨rfl, hl⟩ | ⟨rfl, hl⟩ | ⟨rfl, hl⟩ | ⟨rfl, hl⟩
  · have hl2 : us.length ≤ 10000 := by rw [hl]; decide
    obtain ⟨u, v1, rfl⟩ := len2 hl
    rw [made_form e]
    exact mk_of hw (by decide) (by decide) v hl2 (two_init (n := n) rfl ⟨rfl, rfl, rfl, rfl, rfl⟩ (Hs.wf_new hw) (Hs.get_new_same hw) (by decide) (by decide) (nm := [70, 111, 114, 109]) rfl rfl (keep_new hw v ho hl2 hn))
  · have hl2 : us.length ≤ 10000 := by rw [hl]; decide
    obtain ⟨u, rfl⟩ := List.length_eq_one_iff.mp hl
    rw [made_alike e]
    exact mk_of hw (by decide) (by decide) v hl2 (one_init (n := n) rfl ⟨by decide, by decide⟩ (Hs.wf_new hw) (Hs.get_new_same hw) (by decide) (by decide) (nm := [65, 108, 105, 107, 101]) rfl rfl (keep_new hw v ho hl2 hn))
  · have hl2 : us.length ≤ 10000 := by rw [hl]; decide
    obtain ⟨u, rfl⟩ := List.length_eq_one_iff.mp hl
    rw [made_unlike e]
    exact mk_of hw (by decide) (by decide) v hl2 (one_init (n := n) rfl ⟨by decide, by decide⟩ (Hs.wf_new hw) (Hs.get_new_same hw) (by decide) (by decide) (nm := [85, 110, 108, 105, 107, 101]) rfl rfl (keep_new hw v ho hl2 hn))
  · have hl2 : us.length ≤ 10000 := by rw [hl]; decide
    obtain ⟨u, rfl⟩ := List.length_eq_one_iff.mp hl
    rw [made_passed e]
    exact mk_of hw (by decide) (by decide) v hl2 (one_init (n := n) rfl ⟨by decide, by decide⟩ (Hs.wf_new hw) (Hs.get_new_same hw) (by decide) (by decide) (nm := [80, 97, 115, 115, 101, 100]) rfl rfl (keep_new hw v ho hl2 hn))
  · have hl2 : us.length ≤ 10000 := by rw [hl]; decide
    obtain ⟨u, rfl⟩ := List.length_eq_one_iff.mp hl
    rw [made_failed e]
    exact mk_of hw (by decide) (by decide) v hl2 (one_init (n := n) rfl ⟨by decide, by decide⟩ (Hs.wf_new hw) (Hs.get_new_same hw) (by decide) (by decide) (nm := [70, 97, 105, 108, 101, 100]) rfl rfl (keep_new hw v ho hl2 hn))
  · have hl2 : us.length ≤ 10000 := by rw [hl]; decide
    obtain ⟨u, v1, rfl⟩ := len2 hl
    rw [made_matters e]
    exact mk_of hw (by decide) (by decide) v hl2 (two_init (n := n) rfl ⟨rfl, rfl, rfl, rfl, rfl⟩ (Hs.wf_new hw) (Hs.get_new_same hw) (by decide) (by decide) (nm := [77, 97, 116, 116, 101, 114, 115]) rfl rfl (keep_new hw v ho hl2 hn))
  · have hl2 : us.length ≤ 10000 := by rw [hl]; decide
    obtain ⟨u, rfl⟩ := List.length_eq_one_iff.mp hl
    rw [made_total e]
    exact mk_of hw (by decide) (by decide) v hl2 (one_init (n := n) rfl ⟨by decide, by decide⟩ (Hs.wf_new hw) (Hs.get_new_same hw) (by decide) (by decide) (nm := [84, 111, 116, 97, 108]) rfl rfl (keep_new hw v ho hl2 hn))
  · have hl2 : us.length ≤ 10000 := by rw [hl]; decide
    obtain ⟨u, rfl⟩ := List.length_eq_one_iff.mp hl
    rw [made_untrue e]
    exact mk_of hw (by decide) (by decide) v hl2 (one_init (n := n) rfl ⟨by decide, by decide⟩ (Hs.wf_new hw) (Hs.get_new_same hw) (by decide) (by decide) (nm := [85, 110, 116, 114, 117, 101]) rfl rfl (keep_new hw v ho hl2 hn))
  · have hl2 : us.length ≤ 10000 := by rw [hl]; decide
    obtain ⟨u, rfl⟩ := List.length_eq_one_iff.mp hl
    rw [made_mends e]
    exact mk_of hw (by decide) (by decide) v hl2 (one_init (n := n) rfl ⟨by decide, by decide⟩ (Hs.wf_new hw) (Hs.get_new_same hw) (by decide) (by decide) (nm := [77, 101, 110, 100, 115]) rfl rfl (keep_new hw v ho hl2 hn))
  · have hl2 : us.length ≤ 10000 := by rw [hl]; decide
    obtain ⟨u, rfl⟩ := List.length_eq_one_iff.mp hl
    rw [made_unmended e]
    exact mk_of hw (by decide) (by decide) v hl2 (one_init (n := n) rfl ⟨by decide, by decide⟩ (Hs.wf_new hw) (Hs.get_new_same hw) (by decide) (by decide) (nm := [85, 110, 109, 101, 110, 100, 101, 100]) rfl rfl (keep_new hw v ho hl2 hn))
  · have hl2 : us.length ≤ 10000 := by rw [hl]; decide
    obtain ⟨u, rfl⟩ := List.length_eq_one_iff.mp hl
    rw [made_spares e]
    exact mk_of hw (by decide) (by decide) v hl2 (one_init (n := n) rfl ⟨by decide, by decide⟩ (Hs.wf_new hw) (Hs.get_new_same hw) (by decide) (by decide) (nm := [83, 112, 97, 114, 101, 115]) rfl rfl (keep_new hw v ho hl2 hn))
  · have hl2 : us.length ≤ 10000 := by rw [hl]; decide
    obtain ⟨u, rfl⟩ := List.length_eq_one_iff.mp hl
    rw [made_enough e]
    exact mk_of hw (by decide) (by decide) v hl2 (one_init (n := n) rfl ⟨by decide, by decide⟩ (Hs.wf_new hw) (Hs.get_new_same hw) (by decide) (by decide) (nm := [69, 110, 111, 117, 103, 104]) rfl rfl (keep_new hw v ho hl2 hn))
  · have hl2 : us.length ≤ 10000 := by rw [hl]; decide
    obtain ⟨u, v1, x, rfl⟩ := len3 hl
    rw [made_misses e]
    exact mk_of hw (by decide) (by decide) v hl2 (three_init (n := n) rfl ⟨⟨rfl, rfl, rfl, rfl, rfl⟩, rfl, rfl, rfl, rfl⟩ (Hs.wf_new hw) (Hs.get_new_same hw) (by decide) (by decide) (nm := [77, 105, 115, 115, 101, 115]) rfl rfl (keep_new hw v ho hl2 hn))
end
end K89

set_option Elab.async false
set_option linter.all false
set_option maxRecDepth 100000
set_option maxHeartbeats 4000000
/-! Opened, Reading. -/
namespace K89
open PySem PySem.Spec PyProof.Rows L2 Sm
def wU : Option Wo → U
  | none => .non
  | some w => .str w
theorem look_of {w : Wo} {k : Nat} (h : sz w = some k) : lookM l_SIZES w = some (k : Int) := by
  unfold sz at h
  cases e : lookM l_SIZES w with
  | none =>
    rw [e] at h
    cases h
  | some i =>
    rw [e] at h
    have h1 : i.toNat = k := Option.some.inj h
    have h2 := sz_pos (w := w) (k := k) (by unfold sz; rw [e]; exact h)
    congr 1
    omega
theorem look_some {w : Wo} : (lookM l_SIZES w).isSome = (sz w).isSome := by
  unfold sz
  cases lookM l_SIZES w <;> rfl
inductive Stk (h : Hs) (lo m : Nat) : List Nat → List Fm → Prop
  | nil : Stk h lo m [] []
  | cons {o os f fs us} : lo ≤ o → (∀ x ∈ os, x + 1 < o) → h.get o = some (.ins 26 [(4, wU f.w), (12, .ref (o + 1))]) → h.get (o + 1) = some (.lst us) → Vals h f.ts us → us.length ≤ m → (∀ w, f.w = some w → (sz w).isSome = true) → Stk h lo m os fs → Stk h lo m (o :: os) (f :: fs)
theorem Stk.ext {h h' : Hs} {lo m m' : Nat} (E : PE h h') (hm : m ≤ m') : ∀ {os : List Nat} {fs : List Fm}, (∀ x ∈ os, h'.get x = h.get x ∧ h'.get (x + 1) = h.get (x + 1)) → Stk h lo m os fs → Stk h' lo m' os fs
  | _, _, _, .nil => .nil
  | _, _, k, .cons a b c d e f g r => .cons a b (by rw [(k _ List.mem_cons_self).1]; exact c) (by rw [(k _ List.mem_cons_self).2]; exact d) (e.ext E) (Nat.le_trans f hm) g (Stk.ext E hm (fun x hx => k x (List.mem_cons_of_mem _ hx)) r)
theorem Stk.length {h : Hs} {lo m : Nat} : ∀ {os : List Nat} {fs : List Fm}, Stk h lo m os fs → os.length = fs.length
  | _, _, .nil => rfl
  | _, _, .cons _ _ _ _ _ _ _ r => congrArg Nat.succ (Stk.length r)
theorem Stk.lt {h : Hs} {lo m : Nat} (hw : h.wf) : ∀ {os : List Nat} {fs : List Fm}, Stk h lo m os fs → ∀ x ∈ os, lo ≤ x ∧ x + 1 < h.n
  | _, _, .nil, x, hx => nomatch hx
  | _, _, .cons a _ _ d _ _ _ r, x, hx => by
    rcases List.mem_cons.mp hx with rfl | hx
    · exact ⟨a, get_lt hw d⟩
    · exact Stk.lt hw r x hx
structure Rst (h : Hs) (r W B : Nat) (ws : List Wo) (m at_ : Nat) (os : List Nat) (stk : List Fm) : Prop where
  wf : h.wf
  gr : h.get r = some (.ins 27 [(13, .ref W), (3, .int 0), (14, .int at_), (15, .ref B)])
  gW : h.get W = some (.lst (ws.map U.str))
  gB : h.get B = some (.lst (os.reverse.map U.ref))
  l1 : W < r
  l2 : r < B
  st : Stk h (B + 1) m os stk
  len : ws.length ≤ 10000
  le : at_ ≤ ws.length
  wl : ∀ w ∈ ws, w.length ≤ 1000
def erx (k : Nat) : Ex := ⟨7, [(4, .int k), (3, .int 0)]⟩
section
variable {n r W B m at_ o : Nat} {h : Hs} {ws : List Wo} {os : List Nat} {stk : List Fm} {f : Fm} {fs : List Fm}
theorem f22 {u : U} : fam (n + 1) 22 [u] h = (b_Opened_is_full (fam n) [some u] h).out := rfl
theorem f23 {u : U} : fam (n + 1) 23 [u] h = (b_Opened_made (fam n) [some u] h).out := rfl
theorem f27 {u : U} : fam (n + 1) 27 [u] h = (b_Reading_stop (fam n) [some u] h).out := rfl
theorem f29 {u v : U} : fam (n + 1) 29 [u, v] h = (b_Reading_put (fam n) [some u, some v] h).out := rfl
theorem f28 {u : U} : fam (n + 1) 28 [u] h = (b_Reading_begin (fam n) [some u] h).out := rfl
theorem f30 {u : U} : fam (n + 1) 30 [u] h = (b_Reading_end (fam n) [some u, none] h).out := rfl
theorem f21 {u v : U} : fam (n + 1) 21 [u, v] h = (b_Opened_init (fam n) [some u, some v] h).out := rfl
theorem is_full_ok {lo m : Nat} (S : Stk h lo m (o :: os) (f :: fs)) : fam (n + 1) 22 [.ref o] h = .ok (.bl f.full) h := by
  rw [f22]
  cases S with
  | @cons _ _ _ _ us a b c d e g hz r =>
    have x1 : fldU 4 (.ref o) h = .ok (wU f.w) h := fldU_ok c rfl
    have x2 : fldU 12 (.ref o) h = .ok (.ref (o + 1)) h := fldU_ok c rfl
    have x3 := fLen_lst d
    have hl := e.length
    unfold Fm.full
    cases ew : f.w with
    | none =>
      rw [ew] at x1
      simp [b_Opened_is_full, x1, wU]
    | some w =>
      rw [ew] at x1
      obtain ⟨k, ek⟩ := Option.isSome_iff_exists.mp (hz w ew)
      have x4 := ixK_ok (h := h) (look_of ek)
      simp [b_Opened_is_full, x1, wU, x2, x3, x4, eqZ_dec, ek, hl]
      omega
theorem made_ok2 {lo m d : Nat} (hw : h.wf) (S : Stk h lo m (o :: os) (f :: fs)) (hm : m ≤ 10000) (hc : f.w.isSome = true → f.full = true) (ho : ∀ t ∈ f.ts, okT d t) (hn : d + 1 < n) : ∃ u h', fam (n + 4) 23 [.ref o] h = .ok u h' ∧ Fr nX h h' ∧ Val h' f.close u := by
  rw [f23]
  cases S with
  | @cons _ _ _ _ us a b c dd e g hz r =>
    have x1 : fldU 4 (.ref o) h = .ok (wU f.w) h := fldU_ok c rfl
    have x2 : fldU 12 (.ref o) h = .ok (.ref (o + 1)) h := fldU_ok c rfl
    unfold Fm.close
    cases ew : f.w with
    | none =>
      rw [ew] at x1
      have x3 : fTuple [.ref (o + 1)] h = some (.tup us, h) := by simp only [fTuple, dd]
      exact ⟨.tup us, h, by simp [b_Opened_made, x1, x2, x3, wU], Fr.refl hw, .tup e (by omega)⟩
    | some w =>
      rw [ew] at x1 hc
      have hf := hc rfl
      unfold Fm.full at hf
      rw [ew] at hf
      have hs : sz w = some us.length := by
        rw [← e.length]
        exact of_decide_eq_true hf
      obtain ⟨p, h', e1, F, v⟩ := made_of_ok (n := n) hw dd hs e ho hn
      exact ⟨.ref p, h', by simp [b_Opened_made, x1, x2, e1, wU], F, v⟩
theorem Rst.stop (R : Rst h r W B ws m at_ os stk) : fam (n + 1) 27 [.ref r] h = .err (erx at_) h := by
  rw [f27]
  have x1 : fldU 3 (.ref r) h = .ok (.int 0) h := fldU_ok R.gr rfl
  have x2 : fldU 14 (.ref r) h = .ok (.int at_) h := fldU_ok R.gr rfl
  simp [b_Reading_stop, x1, x2, erx]
theorem Rst.f15 (R : Rst h r W B ws m at_ os stk) : fldU 15 (.ref r) h = .ok (.ref B) h := fldU_ok R.gr rfl
theorem Rst.f14 (R : Rst h r W B ws m at_ os stk) : fldU 14 (.ref r) h = .ok (.int at_) h := fldU_ok R.gr rfl
theorem Rst.f13 (R : Rst h r W B ws m at_ os stk) : fldU 13 (.ref r) h = .ok (.ref W) h := fldU_ok R.gr rfl
theorem Rst.top (R : Rst h r W B ws m at_ (o :: os) stk) : opIxA (.ref B) (.int (-1)) h = some (.ref o, h) := by
  have g := R.gB
  rw [List.reverse_cons, List.map_append] at g
  exact opIxA_last g
theorem Rst.word (R : Rst h r W B ws m at_ os stk) {w : Wo} (e : ws[at_]? = some w) : opIxA (.ref W) (.int (at_ : Int)) h = some (.str w, h) := by
  refine opIxA_lst R.gW rfl ?_
  rw [List.getElem?_map, e]
  rfl
/-- at grows -/
theorem Rst.step (R : Rst h r W B ws m at_ os stk) {τ : Sl} (hl : at_ + 1 ≤ ws.length) : mAugF opAddZ 14 [27] (mVar 0) (mC (.int 1)) (some (.ref r) :: τ) h = .nx (some (.ref r) :: τ) (h.put r (.ins 27 [(13, .ref W), (3, .int 0), (14, .int ((at_ + 1 : Nat) : Int)), (15, .ref B)])) ∧
    Rst (h.put r (.ins 27 [(13, .ref W), (3, .int 0), (14, .int ((at_ + 1 : Nat) : Int)), (15, .ref B)])) r W B ws m (at_ + 1) os stk ∧ Fr (fun i => W ≤ i) h (h.put r (.ins 27 [(13, .ref W), (3, .int 0), (14, .int ((at_ + 1 : Nat) : Int)), (15, .ref B)])) ∧ PE h (h.put r (.ins 27 [(13, .ref W), (3, .int 0), (14, .int ((at_ + 1 : Nat) : Int)), (15, .ref B)])) := by
  have hr := get_lt R.wf R.gr
  have hne : ∀ {i : Nat} {o' : O}, i ≠ r → (h.put r o').get i = h.get i := fun hi => Hs.get_put_ne R.wf hr hi
  have pe : ∀ o', PE h (h.put r o') := fun o' i c fs e hc => by
    by_cases hi : i = r
    · subst hi
      rw [R.gr] at e
      cases e
      omega
    · rw [hne hi]
      exact e
  refine ⟨?_, ⟨Hs.wf_put R.wf hr, Hs.get_put_same R.wf hr, by rw [hne (by have := R.l1; omega)]; exact R.gW, by rw [hne (by have := R.l2; omega)]; exact R.gB, R.l1, R.l2, ?_, R.len, hl, R.wl⟩, Fr.put R.wf hr (by have := R.l1; show W ≤ r; omega), pe _⟩
  · rw [augF_ok (i := r) (n := (at_ : Int)) (k := 1) rfl R.gr rfl (by simp) (by simp) rfl]
    rfl
  · exact R.st.ext (pe _) (Nat.le_refl _) fun x hx => by
      have := (R.st.lt R.wf x hx).1
      have := R.l2
      exact ⟨hne (by omega), hne (by omega)⟩
/-- something is written at an object that the papers don't know, neither of the reading nor of the frames below -/
theorem pe_put {i : Nat} {o' : O} (hw : h.wf) (hi : i < h.n) (hn : ∀ c fs, h.get i = some (.ins c fs) → 25 < c) : PE h (h.put i o') := fun j c fs e hc => by
  by_cases hj : j = i
  · subst hj
    exact absurd hc (by have := hn _ _ e; omega)
  · rw [Hs.get_put_ne hw hi hj]
    exact e
theorem Rst.put (R : Rst h r W B ws m at_ (o :: os) (f :: fs)) {v : U} {t : T} (hv : Val h t v) (hl : at_ + 1 ≤ ws.length) (hm : m ≤ 10000) :
    (f.full = true → fam (n + 2) 29 [.ref r, v] h = .err (erx at_) h) ∧ (f.full = false → ∃ h', fam (n + 2) 29 [.ref r, v] h = .ok .non h' ∧ Rst h' r W B ws (m + 1) (at_ + 1) (o :: os) (f.add t :: fs) ∧ Fr (fun i => W ≤ i) h h' ∧ PE h h') := by
  have y1 := is_full_ok (n := n) R.st
  have S := R.st
  cases S with
  | @cons _ _ _ _ us a b c d e g hz rr =>
    have hB := R.l2
    have hW := R.l1
    have x4 := getM_ok (c := 26) (k := fun h1 => (fam (n + 1) 22 [.ref o] h1)) c
    have x5 := getM_ok (c := 27) (k := fun h1 => (fam (n + 1) 27 [.ref r] h1)) R.gr
    constructor
    · intro hf
      rw [f29]
      rw [hf] at y1
      simp [b_Reading_put, R.f15, R.top, x4, y1, x5, R.stop (n := n)]
    · intro hf
      rw [hf] at y1
      have ho1 := get_lt R.wf d
      have hlu : us.length + 1 ≤ 16777216 := by omega
      have ap := fAppend_ok (u := v) d hlu
      have pe : PE h (h.put (o + 1) (.lst (us ++ [v]))) := pe_put R.wf ho1 fun c' fs' q => by
        rw [d] at q
        cases q
      have hne : ∀ {i : Nat} {o' : O}, i ≠ o + 1 → (h.put (o + 1) o').get i = h.get i := fun hi => Hs.get_put_ne R.wf ho1 hi
      have R1 : Rst (h.put (o + 1) (.lst (us ++ [v]))) r W B ws (m + 1) at_ (o :: os) (f.add t :: fs) := by
        refine ⟨Hs.wf_put R.wf ho1, by rw [hne (by omega)]; exact R.gr, by rw [hne (by omega)]; exact R.gW, by rw [hne (by omega)]; exact R.gB, R.l1, R.l2, ?_, R.len, R.le, R.wl⟩
        refine .cons a b (by rw [hne (by omega)]; exact c) (Hs.get_put_same R.wf ho1) (Vals.append (e.ext pe) (.cons (hv.ext pe) .nil)) (by simp; omega) hz ?_
        exact rr.ext pe (by omega) fun x hx => by
          have := b x hx
          exact ⟨hne (by omega), hne (by omega)⟩
      obtain ⟨s1, s2, s3, s4⟩ := R1.step (τ := [some v]) hl
      refine ⟨_, ?_, s2, (Fr.put R.wf ho1 (by show W ≤ o + 1; omega)).trans s3, pe.trans s4⟩
      rw [f29]
      have x12 : fldU 12 (.ref o) h = .ok (.ref (o + 1)) h := fldU_ok c rfl
      have mb : ∀ r0 : Sm.R U, metB isLstU (.ref (o + 1)) h r0 = r0 := fun r0 => metB_lst d
      simp [b_Reading_put, R.f15, R.top, x4, y1, x12, mb, ap, s1]
/-- a new frame -/
theorem Rst.push (R : Rst h r W B ws m at_ os stk) {w : Option Wo} (hw : ∀ x, w = some x → (sz x).isSome = true) {τ : Sl} {a : EM} (ha : a τ h = .ok (wU w) h) (hos : os.length ≤ 10000) :
    ∃ h', (mMake 26 (fam (n + 1) 21) (mCons a mNil) τ h = .ok (.ref h.n) h') ∧ (fAppend (.ref B) [.ref h.n] h' = some (.non, h'.put B (.lst ((h.n :: os).reverse.map U.ref)))) ∧ h'.get B = some (.lst (os.reverse.map U.ref)) ∧
      Rst (h'.put B (.lst ((h.n :: os).reverse.map U.ref))) r W B ws m at_ (h.n :: os) (⟨w, []⟩ :: stk) ∧ Fr (fun i => W ≤ i) h (h'.put B (.lst ((h.n :: os).reverse.map U.ref))) ∧ PE h (h'.put B (.lst ((h.n :: os).reverse.map U.ref))) ∧ Fr nX h h' := by
  have w1 : (h.new (.ins 26 [])).wf := Hs.wf_new R.wf
  have g1 : (h.new (.ins 26 [])).get h.n = some (.ins 26 []) := Hs.get_new_same R.wf
  have i1 := get_lt w1 g1
  have s1 := setF_ok (f := 4) (u := wU w) (τ := [some (.ref h.n), some (wU w)]) (cs := [26]) g1 (by simp) (by simp)
  have p1 : ptF 4 (wU w) [] = [(4, wU w)] := rfl
  rw [p1] at s1
  have w2 : ((h.new (.ins 26 [])).put h.n (.ins 26 [(4, wU w)])).wf := Hs.wf_put w1 i1
  have w3 : (((h.new (.ins 26 [])).put h.n (.ins 26 [(4, wU w)])).new (.lst [])).wf := Hs.wf_new w2
  have g2 : ((h.new (.ins 26 [])).put h.n (.ins 26 [(4, wU w)])).get h.n = some (.ins 26 [(4, wU w)]) := Hs.get_put_same w1 i1
  have g3 : (((h.new (.ins 26 [])).put h.n (.ins 26 [(4, wU w)])).new (.lst [])).get h.n = some (.ins 26 [(4, wU w)]) := Hs.get_new_old w2 g2
  have g4 : (((h.new (.ins 26 [])).put h.n (.ins 26 [(4, wU w)])).new (.lst [])).get (h.n + 1) = some (.lst []) := Hs.get_new_same w2
  have i3 := get_lt w3 g3
  have i4 := get_lt w3 g4
  have s2 := setF_ok (f := 12) (u := .ref (h.n + 1)) (τ := [some (.ref h.n), some (wU w)]) (cs := [26]) g3 (by simp) (by simp)
  have p2 : ptF 12 (.ref (h.n + 1)) [(4, wU w)] = [(4, wU w), (12, .ref (h.n + 1))] := rfl
  rw [p2] at s2
  have q : mMake 26 (fam (n + 1) 21) (mCons a mNil) τ h = .ok (.ref h.n) ((((h.new (.ins 26 [])).put h.n (.ins 26 [(4, wU w)])).new (.lst [])).put h.n (.ins 26 [(4, wU w), (12, .ref (h.n + 1))])) := by
    rw [e_make, e_cons, ha]
    simp only [bind_ok, e_nil]
    rw [f21]
    have en : ((h.new (.ins 26 [])).put h.n (.ins 26 [(4, wU w)])).n = h.n + 1 := rfl
    simp [b_Opened_init, s1, en, s2]
  have F : Fr nX h ((((h.new (.ins 26 [])).put h.n (.ins 26 [(4, wU w)])).new (.lst [])).put h.n (.ins 26 [(4, wU w), (12, .ref (h.n + 1))])) := by
    have f0 : Fr (fun i => h.n ≤ i ∨ nX i) h ((((h.new (.ins 26 [])).put h.n (.ins 26 [(4, wU w)])).new (.lst [])).put h.n (.ins 26 [(4, wU w), (12, .ref (h.n + 1))])) := (((Fr.new R.wf).trans (Fr.put w1 i1 (.inl (Nat.le_refl _)))).trans (Fr.new w2)).trans (Fr.put w3 i3 (.inl (Nat.le_refl _)))
    exact f0.from_new (Nat.le_refl _)
  refine ⟨_, q, ?_, F.gets R.gB, ?_, ?_, ?_, F⟩
  · rw [fAppend_ok (F.gets R.gB) (by simp; omega)]
    simp
  all_goals generalize hh : (((h.new (.ins 26 [])).put h.n (.ins 26 [(4, wU w)])).new (.lst [])).put h.n (.ins 26 [(4, wU w), (12, .ref (h.n + 1))]) = h5 at *
  · have g5 : h5.get h.n = some (.ins 26 [(4, wU w), (12, .ref (h.n + 1))]) := by rw [← hh]; exact Hs.get_put_same w3 i3
    have g6 : h5.get (h.n + 1) = some (.lst []) := by rw [← hh, Hs.get_put_ne w3 i3 (by omega)]; exact g4
    have gB5 := F.gets R.gB
    have iB := get_lt F.wf gB5
    have iB0 := get_lt R.wf R.gB
    have hne : ∀ {i : Nat} {o' : O}, i ≠ B → (h5.put B o').get i = h5.get i := fun hi => Hs.get_put_ne F.wf iB hi
    have pe : PE h5 (h5.put B (.lst ((h.n :: os).reverse.map U.ref))) := pe_put F.wf iB fun c' fs' q => by
      rw [gB5] at q
      cases q
    have l1 := R.l1
    have l2 := R.l2
    refine ⟨Hs.wf_put F.wf iB, by rw [hne (by omega)]; exact F.gets R.gr, by rw [hne (by omega)]; exact F.gets R.gW, Hs.get_put_same F.wf iB, R.l1, R.l2, ?_, R.len, R.le, R.wl⟩
    refine .cons (by omega) (fun x hx => (R.st.lt R.wf x hx).2) (by rw [hne (by omega)]; exact g5) (by rw [hne (by omega)]; exact g6) .nil (Nat.zero_le _) hw ?_
    refine R.st.ext ((PE.fr F).trans pe) (Nat.le_refl _) fun x hx => ?_
    obtain ⟨a1, a2⟩ := R.st.lt R.wf x hx
    exact ⟨by rw [hne (by omega), F.at_ x (by omega) (fun z => z)], by rw [hne (by omega), F.at_ (x + 1) (by omega) (fun z => z)]⟩
  · have gB5 := F.gets R.gB
    exact F.up.trans (Fr.put F.wf (get_lt F.wf gB5) (by have := R.l1; have := R.l2; show W ≤ B; omega))
  · have gB5 := F.gets R.gB
    exact (PE.fr F).trans (pe_put F.wf (get_lt F.wf gB5) fun c' fs' q => by
      rw [gB5] at q
      cases q)
end
end K89

set_option Elab.async false
set_option linter.all false
set_option maxRecDepth 100000
set_option maxHeartbeats 4000000
/-! Reading: begin, end. -/
namespace K89
open PySem PySem.Spec PyProof.Rows L2 Sm
section
variable {n r W B m at_ o : Nat} {h : Hs} {ws : List Wo} {os : List Nat} {stk : List Fm} {f g : Fm} {fs : List Fm}
theorem Rst.lenB (R : Rst h r W B ws m at_ os stk) : fLen [.ref B] h = some (.int (os.length : Nat), h) := by
  rw [fLen_lst R.gB]
  simp
theorem Rst.lenW (R : Rst h r W B ws m at_ os stk) : fLen [.ref W] h = some (.int (ws.length : Nat), h) := by
  rw [fLen_lst R.gW]
  simp
theorem Rst.getr (R : Rst h r W B ws m at_ os stk) (k : Hs → Sm.R U) : getM 27 (.ref r) h k = k h := getM_ok R.gr
theorem Rst.lst (R : Rst h r W B ws m at_ os stk) (k : Sm.R U) : metB isLstU (.ref B) h k = k := metB_lst R.gB
theorem Rst.fr (R : Rst h r W B ws m at_ os stk) {h' : Hs} (F : Fr nX h h') : Rst h' r W B ws m at_ os stk := ⟨F.wf, F.gets R.gr, F.gets R.gW, F.gets R.gB, R.l1, R.l2, R.st.ext (PE.fr F) (Nat.le_refl _) fun x hx => by
  obtain ⟨a, b⟩ := R.st.lt R.wf x hx
  exact ⟨F.at_ x (by omega) fun z => z, F.at_ (x + 1) (by omega) fun z => z⟩, R.len, R.le, R.wl⟩
theorem Rst.begin_deep (R : Rst h r W B ws m at_ os stk) (hd : os.length = 20) : fam (n + 2) 28 [.ref r] h = .err (erx at_) h := by
  rw [f28]
  have e1 := R.lenB
  rw [hd] at e1
  have e2 : eqZ ((20 : Nat) : Int) 20 = true := rfl
  simp only [b_Reading_begin, e_seq, e_ifS, e_T, e_bin, e_callB, e_cons, e_fld, var0, bind_ok, R.f15, e_nil, e1, of_some, e_c, opEq_int, e2, bl_ok, tst_t, e_ex, e_meth, R.getr, R.stop (n := n), st_err, seq_err, out_err]
theorem Rst.begin_tup (R : Rst h r W B ws m at_ os stk) (hd : os.length < 20) (hw : ws[at_]? = some [40]) : ∃ h', fam (n + 2) 28 [.ref r] h = .ok .non h' ∧ Rst h' r W B ws m (at_ + 1) (h.n :: os) (⟨none, []⟩ :: stk) ∧ Fr (fun i => W ≤ i) h h' ∧ PE h h' := by
  rw [f28]
  have e1 := R.lenB
  have e2 : eqZ ((os.length : Nat) : Int) 20 = false := by rw [eqZ_dec]; exact decide_eq_false (by omega)
  obtain ⟨h', q1, q2, q3, q4, q5, q6, q7⟩ := R.push (n := n) (w := none) (fun _ z => nomatch z) (τ := [some (.ref r)]) (a := mC .non) rfl (by omega)
  obtain ⟨s1, s2, s3, s4⟩ := q4.step (τ := []) (by have := (List.getElem?_eq_some_iff.mp hw).1; omega)
  refine ⟨_, ?_, s2, q5.trans s3, q6.trans s4⟩
  simp only [b_Reading_begin, e_seq, e_ifS, e_T, e_bin, e_callB, e_cons, e_fld, var0, bind_ok, R.f15, e_nil, e1, of_some, e_c, opEq_int, e2, bl_ok, tst_f, e_nx, seq_nx, R.f13, R.f14, R.word hw, opEq_str, eqN_same, tst_t, e_ex, e_metB, R.lst]
  rw [q1]
  simp only [bind_ok, q2, of_some, st_ok, seq_nx, s1, out_nx]
theorem Rst.begin_pap (R : Rst h r W B ws m at_ os stk) (hd : os.length < 20) (hw : ws[at_]? = some [91]) {w : Wo} (hw2 : ws[at_ + 1]? = some w) (hs : (sz w).isSome = true) : ∃ o h', fam (n + 2) 28 [.ref r] h = .ok .non h' ∧ Rst h' r W B ws m (at_ + 2) (o :: os) (⟨some w, []⟩ :: stk) ∧ Fr (fun i => W ≤ i) h h' ∧ PE h h' := by
  rw [f28]
  have e1 := R.lenB
  have e2 : eqZ ((os.length : Nat) : Int) 20 = false := by rw [eqZ_dec]; exact decide_eq_false (by omega)
  have e3 : eqN [91] [40] = false := rfl
  have hlt := (List.getElem?_eq_some_iff.mp hw2).1
  obtain ⟨s1, s2, s3, s4⟩ := R.step (τ := []) (by omega)
  generalize h.put r _ = h1 at *
  have e4 : eqZ ((at_ + 1 : Nat) : Int) ((ws.length : Nat) : Int) = false := by rw [eqZ_dec]; exact decide_eq_false (by omega)
  have e5 : (true != (lookM l_SIZES w).isSome) = false := by rw [look_some, hs]; rfl
  have ha : mBin opIxA (mFld 13 (mVar 0)) (mFld 14 (mVar 0)) [some (.ref r)] h1 = .ok (wU (some w)) h1 := by
    simp only [e_bin, e_fld, var0, bind_ok, s2.f13, s2.f14, s2.word hw2, of_some, wU]
  obtain ⟨h', q1, q2, q3, q4, q5, q6, q7⟩ := s2.push (n := n) (w := some w) (fun _ z => by cases z; exact hs) ha (by omega)
  obtain ⟨t1, t2, t3, t4⟩ := q4.step (τ := []) (by omega)
  refine ⟨_, _, ?_, t2, (s3.trans q5).trans t3, (s4.trans q6).trans t4⟩
  simp only [b_Reading_begin, e_seq, e_ifS, e_T, e_bin, e_callB, e_cons, e_fld, var0, bind_ok, R.f15, e_nil, e1, of_some, e_c, opEq_int, e2, bl_ok, tst_f, e_nx, seq_nx, R.f13, R.f14, R.word hw, opEq_str, e3, s1, e_or, s2.f14, s2.f13, s2.lenW, e4, ite_f, e_inK, s2.word hw2, inK_str, e5, e_ex, e_metB, s2.f15, s2.lst]
  rw [q1]
  simp only [bind_ok, q2, of_some, st_ok, seq_nx, t1, out_nx]
theorem Rst.begin_bad (R : Rst h r W B ws m at_ os stk) (hd : os.length < 20) (hw : ws[at_]? = some [91]) (hb : ws[at_ + 1]? = none ∨ ∃ w, ws[at_ + 1]? = some w ∧ sz w = none) : ∃ h', fam (n + 2) 28 [.ref r] h = .err (erx (at_ + 1)) h' ∧ Fr (fun i => W ≤ i) h h' := by
  rw [f28]
  have e1 := R.lenB
  have e2 : eqZ ((os.length : Nat) : Int) 20 = false := by rw [eqZ_dec]; exact decide_eq_false (by omega)
  have e3 : eqN [91] [40] = false := rfl
  have hlt := (List.getElem?_eq_some_iff.mp hw).1
  obtain ⟨s1, s2, s3, s4⟩ := R.step (τ := []) (by omega)
  generalize h.put r _ = h1 at *
  refine ⟨h1, ?_, s3⟩
  simp only [b_Reading_begin, e_seq, e_ifS, e_T, e_bin, e_callB, e_cons, e_fld, var0, bind_ok, R.f15, e_nil, e1, of_some, e_c, opEq_int, e2, bl_ok, tst_f, e_nx, seq_nx, R.f13, R.f14, R.word hw, opEq_str, e3, s1, e_or, s2.f14, s2.f13, s2.lenW]
  rcases hb with hb | ⟨w, hb, hs⟩
  · have e4 : eqZ ((at_ + 1 : Nat) : Int) ((ws.length : Nat) : Int) = true := by
      have := List.getElem?_eq_none_iff.mp hb
      rw [eqZ_dec]
      exact decide_eq_true (by omega)
    simp only [e4, ite_t, tst_t, e_ex, e_meth, e_fld, var0, bind_ok, s2.getr, e_nil, s2.stop (n := n), st_err, seq_err, out_err]
  · have e4 : eqZ ((at_ + 1 : Nat) : Int) ((ws.length : Nat) : Int) = false := by
      have := (List.getElem?_eq_some_iff.mp hb).1
      rw [eqZ_dec]
      exact decide_eq_false (by omega)
    have e5 : (true != (lookM l_SIZES w).isSome) = true := by rw [look_some, hs]; rfl
    simp only [e4, ite_f, e_T, e_inK, e_bin, e_fld, var0, bind_ok, s2.f13, s2.f14, s2.word hb, of_some, inK_str, e5, bl_ok, tst_t, e_ex, e_meth, s2.getr, e_nil, s2.stop (n := n), st_err, seq_err, out_err]
end
end K89

set_option Elab.async false
set_option linter.all false
set_option maxRecDepth 100000
set_option maxHeartbeats 4000000
/-! Reading: end. -/
namespace K89
open PySem PySem.Spec PyProof.Rows L2 Sm
section
variable {n r W B m at_ o : Nat} {h : Hs} {ws : List Wo} {os : List Nat} {stk : List Fm} {f g : Fm} {fs : List Fm} {w : Wo}
theorem isNon_wU {x : Option Wo} : isNon (wU x) = x.isNone := by cases x <;> rfl
/-- the first test of end -/
theorem Rst.end_test (R : Rst h r W B ws m at_ (o :: os) (f :: fs)) (hw : ws[at_]? = some w) :
    (mOr (mT (mBin (opNe) (mBin opIxA (mFld 13 (mVar 0)) (mFld 14 (mVar 0))) (mIf (mT (mBin (opIsN) (mFld 4 (mVar 1)) (mC .non))) (mC (.str [41])) (mC (.str [93]))))) (mAnd (mT (mBin (opNotN) (mFld 4 (mVar 1)) (mC .non))) (mNot (mT (mMeth 26 (fam (n + 1) 22) (mVar 1) mNil))))) [some (.ref r), some (.ref o)] h =
      .ok (!eqN w f.clW || (f.w.isSome && !f.full)) h := by
  have y1 := is_full_ok (n := n) R.st
  have S := R.st
  cases S with
  | @cons _ _ _ _ us a b c d e g hz rr =>
    have x4 : fldU 4 (.ref o) h = .ok (wU f.w) h := fldU_ok c rfl
    have x5 := getM_ok (c := 26) (k := fun h1 => (fam (n + 1) 22 [.ref o] h1)) c
    have x6 : (mIf (mT (mBin (opIsN) (mFld 4 (mVar 1)) (mC .non))) (mC (.str [41])) (mC (.str [93]))) [some (.ref r), some (.ref o)] h = .ok (.str f.clW) h := by
      simp only [e_if, e_T, e_bin, e_fld, var1, bind_ok, x4, e_c, opIsN_non, of_some, bl_ok, isNon_wU]
      unfold Fm.clW
      cases f.w <;> rfl
    simp only [e_or, e_T, e_bin, e_fld, var0, bind_ok, R.f13, R.f14, R.word hw, of_some, x6, opNe_str, bl_ok]
    cases eqN w f.clW with
    | false => rfl
    | true =>
      simp only [Bool.not_true, ite_f, e_and, e_T, e_bin, e_fld, var1, bind_ok, x4, e_c, opNotN_non, of_some, bl_ok, isNon_wU, Bool.false_or]
      cases hfw : f.w with
      | none => rfl
      | some z =>
        simp only [Option.isNone_some, Bool.not_false, ite_t, e_not, e_T, e_meth, var1, bind_ok, e_nil, x5, y1, bl_ok, Option.isSome_some, Bool.true_and]
theorem Rst.end_bad (R : Rst h r W B ws m at_ (o :: os) (f :: fs)) (hw : ws[at_]? = some w) (hb : w ≠ f.clW ∨ (f.w.isSome = true ∧ f.full = false)) : fam (n + 2) 30 [.ref r] h = .err (erx at_) h := by
  rw [f30]
  have t := R.end_test (n := n) hw
  have e : (!eqN w f.clW || (f.w.isSome && !f.full)) = true := by
    rcases hb with q | ⟨q1, q2⟩
    · rw [eqN_dec, decide_eq_false q]; rfl
    · rw [q1, q2]; simp
  rw [e] at t
  unfold b_Reading_end
  rw [e_seq, e_asg]
  simp only [e_bin, e_fld, var0, bind_ok, R.f15, e_neg, e_c, R.top, of_some, st_ok, gN1, asgd_some, seq_nx]
  rw [e_seq, e_ifS, t]
  simp only [tst_t, e_ex, e_meth, var0, bind_ok, R.getr, e_nil, R.stop (n := n), st_err, seq_err, out_err]
/-- what is open goes -/
theorem Rst.pop (R : Rst h r W B ws m at_ (o :: os) (f :: fs)) : fPop (.ref B) [] h = some (.ref o, h.put B (.lst (os.reverse.map U.ref))) ∧ Rst (h.put B (.lst (os.reverse.map U.ref))) r W B ws m at_ os fs ∧ Stk (h.put B (.lst (os.reverse.map U.ref))) (B + 1) m (o :: os) (f :: fs) ∧ Fr (fun i => W ≤ i) h (h.put B (.lst (os.reverse.map U.ref))) ∧ PE h (h.put B (.lst (os.reverse.map U.ref))) := by
  have gB := R.gB
  have iB := get_lt R.wf gB
  have l1 := R.l1
  have l2 := R.l2
  have pe : PE h (h.put B (.lst (os.reverse.map U.ref))) := pe_put R.wf iB fun c' fs' q => by
    rw [gB] at q
    cases q
  have hne : ∀ {i : Nat} {o' : O}, i ≠ B → (h.put B o').get i = h.get i := fun hi => Hs.get_put_ne R.wf iB hi
  have S2 : Stk (h.put B (.lst (os.reverse.map U.ref))) (B + 1) m (o :: os) (f :: fs) := R.st.ext pe (Nat.le_refl _) fun x hx => by
    obtain ⟨a, b⟩ := R.st.lt R.wf x hx
    exact ⟨hne (by omega), hne (by omega)⟩
  refine ⟨?_, ⟨Hs.wf_put R.wf iB, by rw [hne (by omega)]; exact R.gr, by rw [hne (by omega)]; exact R.gW, Hs.get_put_same R.wf iB, R.l1, R.l2, ?_, R.len, R.le, R.wl⟩, S2, Fr.put R.wf iB (by show W ≤ B; omega), pe⟩
  · rw [List.reverse_cons, List.map_append] at gB
    exact fPop_ok gB
  · cases S2 with
    | cons a b c d e f' g' r' => exact r'
theorem Rst.end_last (R : Rst h r W B ws m at_ [o] [f]) (hw : ws[at_]? = some w) (hb : ¬ (w ≠ f.clW ∨ (f.w.isSome = true ∧ f.full = false))) (hm : m ≤ 10000) {d : Nat} (ho : ∀ t ∈ f.ts, okT d t) (hn : d + 1 < n) :
    ∃ u h', fam (n + 5) 30 [.ref r] h = .ok u h' ∧ Val h' f.close u ∧ Rst h' r W B ws m (at_ + 1) [] [] ∧ Fr (fun i => W ≤ i) h h' := by
  rw [f30]
  have t := R.end_test (n := n + 3) hw
  have hcl : w = f.clW := by
    by_cases z : w = f.clW
    · exact z
    · exact absurd (.inl z) hb
  have hfu : f.w.isSome = true → f.full = true := fun z => by
    cases q : f.full with
    | true => rfl
    | false => exact absurd (.inr ⟨z, q⟩) hb
  have e : (!eqN w f.clW || (f.w.isSome && !f.full)) = false := by
    rw [hcl, eqN_same]
    cases q : f.w.isSome with
    | false => rfl
    | true => rw [hfu q]; rfl
  rw [e] at t
  obtain ⟨p1, R1, S1, F1, E1⟩ := R.pop
  generalize h.put B _ = h1 at *
  have w2 : (h1.new (.lst [])).wf := Hs.wf_new R1.wf
  have F2 : Fr nX h1 (h1.new (.lst [])) := Fr.new R1.wf
  have R2 := R1.fr F2
  have oe := opEq_nil (h := h1.new (.lst [])) (i := B) (j := h1.n) R2.gB (Hs.get_new_same R1.wf)
  obtain ⟨s1, s2, s3, s4⟩ := R2.step (τ := [some (.ref o)]) (by have := (List.getElem?_eq_some_iff.mp hw).1; omega)
  have S2 : Stk (h1.new (.lst [])) (B + 1) m [o] [f] := S1.ext (PE.fr F2) (Nat.le_refl _) fun x hx => by
    obtain ⟨a, b⟩ := S1.lt R1.wf x hx
    exact ⟨F2.at_ x (by omega) fun z => z, F2.at_ (x + 1) (by omega) fun z => z⟩
  have S3 : Stk ((h1.new (.lst [])).put r (.ins 27 [(13, .ref W), (3, .int 0), (14, .int ((at_ + 1 : Nat) : Int)), (15, .ref B)])) (B + 1) m [o] [f] := S2.ext s4 (Nat.le_refl _) fun x hx => by
    have := (S2.lt R2.wf x hx).1
    have := R.l2
    have hr := get_lt R2.wf R2.gr
    exact ⟨Hs.get_put_ne R2.wf hr (by omega), Hs.get_put_ne R2.wf hr (by omega)⟩
  generalize (h1.new (.lst [])).put r _ = h3 at *
  obtain ⟨u, h4, m1, F4, v4⟩ := made_ok2 (n := n) s2.wf S3 hm hfu ho hn
  refine ⟨u, h4, ?_, v4, s2.fr F4, ((F1.trans F2.up).trans s3).trans F4.up⟩
  unfold b_Reading_end
  rw [e_seq, e_asg]
  simp only [e_bin, e_fld, var0, bind_ok, R.f15, e_neg, e_c, R.top, of_some, st_ok, gN1, asgd_some, seq_nx]
  rw [e_seq, e_ifS, t]
  have g3 : ∃ c', h3.get o = some (.ins 26 c') := by
    cases S3 with
    | cons a b c d e f' g' r' => exact ⟨_, c⟩
  obtain ⟨c', g3⟩ := g3
  have x5 := getM_ok (c := 26) (k := fun h1 => (fam (n + 4) 23 [.ref o] h1)) g3
  simp only [tst_f, e_nx, seq_nx, e_seq, e_ex, e_metB, e_fld, var0, bind_ok, R.f15, R.lst, e_nil, p1, of_some, st_ok, e_ifS, e_T, e_bin, R1.f15, e_lst, mkL_0, oe, bl_ok]
  simp only [List.reverse_nil, List.map_nil, List.isEmpty_nil, tst_t, e_seq, s1, seq_nx, e_ret, e_meth, var1, bind_ok, e_nil, x5, m1, st_ok, seq_rt, out_rt]
theorem Rst.end_more {o2 : Nat} (R : Rst h r W B ws m at_ (o :: o2 :: os) (f :: g :: fs)) (hw : ws[at_]? = some w) (hb : ¬ (w ≠ f.clW ∨ (f.w.isSome = true ∧ f.full = false))) (hm : m ≤ 10000) {d : Nat} (ho : ∀ t ∈ f.ts, okT d t) (hn : d + 1 < n) :
    (g.full = true → ∃ h', fam (n + 5) 30 [.ref r] h = .err (erx at_) h' ∧ Fr (fun i => W ≤ i) h h') ∧
    (g.full = false → ∃ h', fam (n + 5) 30 [.ref r] h = .ok .non h' ∧ Rst h' r W B ws (m + 1) (at_ + 1) (o2 :: os) (g.add f.close :: fs) ∧ Fr (fun i => W ≤ i) h h' ∧ PE h h') := by
  have t := R.end_test (n := n + 3) hw
  have hcl : w = f.clW := by
    by_cases z : w = f.clW
    · exact z
    · exact absurd (.inl z) hb
  have hfu : f.w.isSome = true → f.full = true := fun z => by
    cases q : f.full with
    | true => rfl
    | false => exact absurd (.inr ⟨z, q⟩) hb
  have e : (!eqN w f.clW || (f.w.isSome && !f.full)) = false := by
    rw [hcl, eqN_same]
    cases q : f.w.isSome with
    | false => rfl
    | true => rw [hfu q]; rfl
  rw [e] at t
  obtain ⟨p1, R1, S1, F1, E1⟩ := R.pop
  generalize h.put B _ = h1 at *
  have F2 : Fr nX h1 (h1.new (.lst [])) := Fr.new R1.wf
  have R2 := R1.fr F2
  have oe := opEq_nil (h := h1.new (.lst [])) (i := B) (j := h1.n) R2.gB (Hs.get_new_same R1.wf)
  have hne : (List.map U.ref (o2 :: os).reverse).isEmpty = false := by
    rw [List.reverse_cons, List.map_append]
    cases (List.map U.ref os.reverse) <;> rfl
  rw [hne] at oe
  have S2 : Stk (h1.new (.lst [])) (B + 1) m (o :: o2 :: os) (f :: g :: fs) := S1.ext (PE.fr F2) (Nat.le_refl _) fun x hx => by
    obtain ⟨a, b⟩ := S1.lt R1.wf x hx
    exact ⟨F2.at_ x (by omega) fun z => z, F2.at_ (x + 1) (by omega) fun z => z⟩
  generalize hh2 : h1.new (.lst []) = h2 at *
  obtain ⟨u, h4, m1, F4, v4⟩ := made_ok2 (n := n) R2.wf S2 hm hfu ho hn
  have R4 := R2.fr F4
  have g3 : ∃ c', h2.get o = some (.ins 26 c') := by
    cases S2 with
    | cons a b c d e f' g' r' => exact ⟨_, c⟩
  obtain ⟨c', g3⟩ := g3
  have x5 := getM_ok (c := 26) (k := fun h1 => (fam (n + 4) 23 [.ref o] h1)) g3
  have x6 := R2.getr (fun h1 => ((fam (n + 4) 23 [.ref o] h1).bind fun x h2 => Sm.R.ok [x] h2).bind fun us h2 => fam (n + 4) 29 (.ref r :: us) h2)
  obtain ⟨put1, put2⟩ := R4.put (n := n + 2) v4 (by have := (List.getElem?_eq_some_iff.mp hw).1; omega) hm
  constructor
  · intro hg
    refine ⟨h4, ?_, (F1.trans F2.up).trans F4.up⟩
    rw [f30]
    unfold b_Reading_end
    rw [e_seq, e_asg]
    simp only [e_bin, e_fld, var0, bind_ok, R.f15, e_neg, e_c, R.top, of_some, st_ok, gN1, asgd_some, seq_nx]
    rw [e_seq, e_ifS, t]
    simp only [tst_f, e_nx, seq_nx, e_seq, e_ex, e_metB, e_fld, var0, bind_ok, R.f15, R.lst, e_nil, p1, of_some, st_ok, e_ifS, e_T, e_bin, R1.f15, e_lst, mkL_0, hh2, oe, bl_ok, tst_f, e_nx, seq_nx]
    simp only [e_meth, var0, var1, e_cons, e_nil, bind_ok, R2.getr, x5, m1, put1 hg, st_err, seq_err, out_err]
  · intro hg
    obtain ⟨h5, q1, q2, q3, q4⟩ := put2 hg
    refine ⟨h5, ?_, q2, ((F1.trans F2.up).trans F4.up).trans q3, ((E1.trans (PE.fr F2)).trans (PE.fr F4)).trans q4⟩
    rw [f30]
    unfold b_Reading_end
    rw [e_seq, e_asg]
    simp only [e_bin, e_fld, var0, bind_ok, R.f15, e_neg, e_c, R.top, of_some, st_ok, gN1, asgd_some, seq_nx]
    rw [e_seq, e_ifS, t]
    simp only [tst_f, e_nx, seq_nx, e_seq, e_ex, e_metB, e_fld, var0, bind_ok, R.f15, R.lst, e_nil, p1, of_some, st_ok, e_ifS, e_T, e_bin, R1.f15, e_lst, mkL_0, hh2, oe, bl_ok, tst_f, e_nx, seq_nx]
    simp only [e_meth, var0, var1, e_cons, e_nil, bind_ok, R2.getr, x5, m1, q1, st_ok, seq_nx, e_ret, e_c, out_rt]
end
end K89

set_option Elab.async false
set_option linter.all false
set_option maxRecDepth 100000
set_option maxHeartbeats 4000000
/-! Reading: whole. -/
namespace K89
open PySem PySem.Spec PyProof.Rows L2 Sm
def wbody (M : Nat → FM) : SM := (mSeq (mPar 1 2 (mCons (mBin opIxA (mFld 13 (mVar 0)) (mFld 14 (mVar 0))) (mCons (mC .non) mNil))) (mSeq (mIfS (mT (mBin (opInA false) (mVar 1) (mTup (mCons (mC (.str [40])) (mCons (mC (.str [91])) mNil))))) (mSeq (mIfS (mT (mMeth 26 (M 22) (mBin opIxA (mFld 15 (mVar 0)) (mNeg (mC (.int 1)))) mNil)) (mEx (mMeth 27 (M 27) (mVar 0) mNil)) mNx) (mEx (mMeth 27 (M 28) (mVar 0) mNil))) (mIfS (mT (mBin (opInA false) (mVar 1) (mTup (mCons (mC (.str [41])) (mCons (mC (.str [93])) mNil))))) (mAsg (mMeth 27 (M 30) (mVar 0) mNil) (gN 2)) (mSeq (mAsg (mCall (M 25) (mCons (mVar 1) mNil)) (gN 3)) (mSeq (mIfS (mT (mBin (opEq) (mVar 3) (mTup mNil))) (mEx (mMeth 27 (M 27) (mVar 0) mNil)) mNx) (mEx (mMeth 27 (M 29) (mVar 0) (mCons (mBin opIxA (mVar 3) (mC (.int 0))) mNil))))))) (mIfS (mT (mBin (opNotN) (mVar 2) (mC .non))) (mSeq (mIfS (mT (mBin (opLt) (mFld 14 (mVar 0)) (mCallB fLen (mCons (mFld 13 (mVar 0)) mNil)))) (mEx (mMeth 27 (M 27) (mVar 0) mNil)) mNx) (mRet (mVar 2))) mNx)))
def wcond : TM := (mT (mBin (opLt) (mFld 14 (mVar 0)) (mCallB fLen (mCons (mFld 13 (mVar 0)) mNil))))
theorem whole_is (M : Nat → FM) : b_Reading_whole M = (mSeq (mIfS (mOr (mT (mBin (opEq) (mFld 14 (mVar 0)) (mCallB fLen (mCons (mFld 13 (mVar 0)) mNil)))) (mT (mBin (opNe) (mBin opIxA (mFld 13 (mVar 0)) (mFld 14 (mVar 0))) (mC (.str [91]))))) (mEx (mMeth 27 (M 27) (mVar 0) mNil)) mNx) (mSeq (mEx (mMeth 27 (M 28) (mVar 0) mNil)) (mSeq (mWhile wcond (wbody M) fu) (mRet (mMeth 27 (M 27) (mVar 0) mNil))))) := rfl
theorem in2 {w a b : Wo} {h : Hs} : opInA false (.str w) (.tup [.str a, .str b]) h = some (.bl (eqN a w || eqN b w), h) := by
  show some (U.bl (match eqN a w with
    | true => true
    | false => match eqN b w with
      | true => true
      | false => false), h) = _
  cases eqN a w <;> cases eqN b w <;> rfl
theorem plainU_two (w : Wo) : plainU w = [] ∨ ∃ u, plainU w = [u] := by
  unfold plainU
  by_cases e1 : eqN w [45] = true
  · rw [if_pos e1]
    exact .inr ⟨_, rfl⟩
  · rw [if_neg e1]
    by_cases e2 : isWordB w = true
    · rw [if_pos e2]
      exact .inr ⟨_, rfl⟩
    · rw [if_neg e2]
      rcases numU_cases w with q | ⟨i, q⟩
      · rw [q]
        exact .inl rfl
      · rw [q]
        exact .inr ⟨_, rfl⟩
theorem while_go {c : TM} {b : SM} {f : Nat} {τ τ2 : Sl} {h h1 h2 : Hs} (hc : c τ h = .ok true h1) (hb : b τ h1 = .nx τ2 h2) : mWhile c b (f + 1) τ h = mWhile c b f τ2 h2 := by
  rw [mWhile]
  simp only [hc, st_ok, hb]
theorem while_err {c : TM} {b : SM} {f : Nat} {τ τ2 : Sl} {h h1 h2 : Hs} {e : Ex} (hc : c τ h = .ok true h1) (hb : b τ h1 = .err e τ2 h2) : mWhile c b (f + 1) τ h = .err e τ2 h2 := by
  rw [mWhile]
  simp only [hc, st_ok, hb]
theorem while_rt {c : TM} {b : SM} {f : Nat} {τ : Sl} {h h1 h2 : Hs} {u : U} (hc : c τ h = .ok true h1) (hb : b τ h1 = .rt u h2) : mWhile c b (f + 1) τ h = .rt u h2 := by
  rw [mWhile]
  simp only [hc, st_ok, hb]
theorem while_end {c : TM} {b : SM} {f : Nat} {τ : Sl} {h h1 : Hs} (hc : c τ h = .ok false h1) : mWhile c b (f + 1) τ h = .nx τ h1 := by
  rw [mWhile]
  simp only [hc, st_ok]
section
variable {k r W B m at_ : Nat} {h : Hs} {ws : List Wo} {os : List Nat} {f g : Fm} {fs stk : List Fm} {a b c : Option U} {w : Wo}
theorem Rst.cond (R : Rst h r W B ws m at_ os stk) {τ : Sl} : wcond (some (.ref r) :: τ) h = .ok (decide (at_ < ws.length)) h := by
  unfold wcond
  simp only [e_T, e_bin, e_fld, var0, bind_ok, R.f14, e_callB, e_cons, e_nil, R.f13, R.lenW, of_some, opLt_int, bl_ok]
  congr 1
  simp
theorem set12 {u v : U} : ((([some (.ref r), a, b, c] : Sl).set 1 (some u)).set 2 (some v)) = [some (.ref r), some u, some v, c] := rfl
/-- the words that open -/
theorem body_open (R : Rst h r W B ws m at_ (o :: os) (f :: fs)) (hw : ws[at_]? = some w) (ho : w = [40] ∨ w = [91]) :
    wbody (fam (k + 27)) [some (.ref r), a, b, c] h = if f.full = true then .err (erx at_) [some (.ref r), some (.str w), some .non, c] h else (fam (k + 27) 28 [.ref r] h).st [some (.ref r), some (.str w), some .non, c] fun _ h1 => .nx [some (.ref r), some (.str w), some .non, c] h1 := by
  have e1 : (eqN [40] w || eqN [91] w) = true := by rcases ho with rfl | rfl <;> rfl
  have y1 := is_full_ok (n := k + 26) R.st
  have g3 : ∃ c', h.get o = some (.ins 26 c') := by
    cases R.st with
    | cons a b c d e f' g' r' => exact ⟨_, c⟩
  obtain ⟨c', g3⟩ := g3
  have x5 := getM_ok (c := 26) (k := fun h1 => (fam (k + 27) 22 [.ref o] h1)) g3
  unfold wbody
  rw [e_seq]
  simp only [e_par, e_cons, e_bin, e_fld, var0, bind_ok, R.f13, R.f14, R.word hw, of_some, e_c, e_nil, st_ok, set12, seq_nx]
  rw [e_seq]
  simp only [e_ifS, e_T, e_bin, var1, bind_ok, e_tup, e_cons, e_c, e_nil, mkT_2, in2, e1, of_some, bl_ok, tst_t, e_seq, e_meth, e_fld, var0, R.f15, e_neg, R.top, x5, y1]
  cases f.full with
  | true => simp only [tst_t, e_ex, e_meth, var0, bind_ok, R.getr, e_nil, R.stop (n := k + 26), st_err, seq_err, if_pos]
  | false =>
    simp only [tst_f, e_nx, seq_nx, e_ex, e_meth, var0, bind_ok, R.getr, e_nil]
    rw [if_neg (by simp)]
    cases fam (k + 27) 28 [.ref r] h with
    | ok u h1 =>
      simp only [st_ok, seq_nx, e_ifS, e_T, e_bin, var2, bind_ok, e_c, opNotN_non, of_some, bl_ok, isNon_non, Bool.not_true, tst_f, e_nx]
    | err e h1 => rfl
    | no => rfl
/-- those that close -/
theorem body_close (R : Rst h r W B ws m at_ os stk) (hw : ws[at_]? = some w) (ho : w = [41] ∨ w = [93]) :
    wbody (fam (k + 27)) [some (.ref r), a, b, c] h = (((fam (k + 27) 30 [.ref r] h).st [some (.ref r), some (.str w), some .non, c] fun u h1 => .nx [some (.ref r), some (.str w), some u, c] h1).seq (mIfS (mT (mBin (opNotN) (mVar 2) (mC .non))) (mSeq (mIfS (mT (mBin (opLt) (mFld 14 (mVar 0)) (mCallB fLen (mCons (mFld 13 (mVar 0)) mNil)))) (mEx (mMeth 27 (fam (k + 27) 27) (mVar 0) mNil)) mNx) (mRet (mVar 2))) mNx)) := by
  have e1 : (eqN [40] w || eqN [91] w) = false := by rcases ho with rfl | rfl <;> rfl
  have e2 : (eqN [41] w || eqN [93] w) = true := by rcases ho with rfl | rfl <;> rfl
  unfold wbody
  rw [e_seq]
  simp only [e_par, e_cons, e_bin, e_fld, var0, bind_ok, R.f13, R.f14, R.word hw, of_some, e_c, e_nil, st_ok, set12, seq_nx]
  rw [e_seq]
  congr 1
  simp only [e_ifS, e_T, e_bin, var1, bind_ok, e_tup, e_cons, e_c, e_nil, mkT_2, in2, e1, e2, of_some, bl_ok, tst_f, tst_t, e_asg, e_meth, var0, R.getr, gN2, asgd_some]
/-- the others -/
theorem body_plain (R : Rst h r W B ws m at_ (o :: os) (f :: fs)) (hw : ws[at_]? = some w) (ho : ¬ (w = [40] ∨ w = [91])) (hc : ¬ (w = [41] ∨ w = [93])) (hp : numB w = true → (parse w).isSome = true) (hm : m ≤ 10000) :
    (pl w = false → ∃ τ' h', wbody (fam (k + 27)) [some (.ref r), a, b, c] h = .err (erx at_) τ' h' ∧ Fr nX h h') ∧
    (pl w = true → f.full = true → ∃ τ' h', wbody (fam (k + 27)) [some (.ref r), a, b, c] h = .err (erx at_) τ' h' ∧ Fr nX h h') ∧
    (pl w = true → f.full = false → ∃ c' h', wbody (fam (k + 27)) [some (.ref r), a, b, c] h = .nx [some (.ref r), some (.str w), some .non, c'] h' ∧ Rst h' r W B ws (m + 1) (at_ + 1) (o :: os) (f.add (.leaf w) :: fs) ∧ Fr (fun i => W ≤ i) h h' ∧ PE h h') := by
  have hlt := (List.getElem?_eq_some_iff.mp hw).1
  have e1 : (eqN [40] w || eqN [91] w) = false := by
    rw [eqN_dec, eqN_dec, decide_eq_false (fun z => ho (.inl z.symm)), decide_eq_false (fun z => ho (.inr z.symm))]
    rfl
  have e2 : (eqN [41] w || eqN [93] w) = false := by
    rw [eqN_dec, eqN_dec, decide_eq_false (fun z => hc (.inl z.symm)), decide_eq_false (fun z => hc (.inr z.symm))]
    rfl
  obtain ⟨h1, q1, F1⟩ := plain_of_ok (n := k + 25) R.wf (R.wl w (List.mem_of_getElem? hw)) hp
  have R1 := R.fr F1
  have key : wbody (fam (k + 27)) [some (.ref r), a, b, c] h = (((mSeq (mIfS (mT (mBin (opEq) (mVar 3) (mTup mNil))) (mEx (mMeth 27 (fam (k + 27) 27) (mVar 0) mNil)) mNx) (mEx (mMeth 27 (fam (k + 27) 29) (mVar 0) (mCons (mBin opIxA (mVar 3) (mC (.int 0))) mNil)))) [some (.ref r), some (.str w), some .non, some (.tup (plainU w))] h1)).seq (mIfS (mT (mBin (opNotN) (mVar 2) (mC .non))) (mSeq (mIfS (mT (mBin (opLt) (mFld 14 (mVar 0)) (mCallB fLen (mCons (mFld 13 (mVar 0)) mNil)))) (mEx (mMeth 27 (fam (k + 27) 27) (mVar 0) mNil)) mNx) (mRet (mVar 2))) mNx) := by
    unfold wbody
    rw [e_seq]
    simp only [e_par, e_cons, e_bin, e_fld, var0, bind_ok, R.f13, R.f14, R.word hw, of_some, e_c, e_nil, st_ok, set12, seq_nx]
    rw [e_seq]
    congr 1
    simp only [e_ifS, e_T, e_bin, var1, bind_ok, e_tup, e_cons, e_c, e_nil, mkT_2, in2, e1, e2, of_some, bl_ok, tst_f]
    rw [e_seq]
    simp only [e_asg, e_call, e_cons, var1, bind_ok, e_nil, q1, st_ok, gN3, asgd_some, seq_nx]
  have et : ∀ u, plainU w = [u] → opEq (.tup [u]) (.tup []) h1 = some (.bl false, h1) := fun u eu => by
    rcases plainU_cases eu with rfl | rfl | ⟨i, rfl⟩ <;> rfl
  have e0 : opEq (.tup []) (.tup []) h1 = some (.bl true, h1) := rfl
  refine ⟨fun hpl => ?_, fun hpl hf => ?_, fun hpl hf => ?_⟩
  · have : plainU w = [] := by
      unfold pl at hpl
      cases q : plainU w with
      | nil => rfl
      | cons u r => rw [q] at hpl; cases hpl
    rw [this] at key
    refine ⟨[some (.ref r), some (.str w), some .non, some (.tup [])], h1, ?_, F1⟩
    rw [key]
    simp only [e_seq, e_ifS, e_T, e_bin, var3, bind_ok, e_tup, e_nil, mkT_0, e0, of_some, bl_ok, tst_t, e_ex, e_meth, var0, R1.getr, R1.stop (n := k + 26), st_err, seq_err]
  all_goals
    obtain ⟨u, eu⟩ : ∃ u, plainU w = [u] := by
      rcases plainU_two w with q | q
      · unfold pl at hpl
        rw [q] at hpl
        cases hpl
      · exact q
    rw [eu] at key
    obtain ⟨p1, p2⟩ := R1.put (n := k + 25) (v := u) (t := .leaf w) (.leaf eu) (by omega) hm
    have ix : opIxA (.tup [u]) (.int 0) h1 = some (u, h1) := rfl
  · refine ⟨[some (.ref r), some (.str w), some .non, some (.tup [u])], h1, ?_, F1⟩
    rw [key]
    simp only [e_seq, e_ifS, e_T, e_bin, var3, bind_ok, e_tup, e_nil, mkT_0, et u eu, of_some, bl_ok, tst_f, e_nx, seq_nx, e_ex, e_meth, var0, R1.getr, e_cons, e_c, ix, p1 hf, st_err, seq_err]
  · obtain ⟨h2, q2, R2, F2, E2⟩ := p2 hf
    refine ⟨some (.tup [u]), h2, ?_, R2, (F1.up).trans F2, (PE.fr F1).trans E2⟩
    rw [key]
    simp only [e_seq, e_ifS, e_T, e_bin, var3, bind_ok, e_tup, e_nil, mkT_0, et u eu, of_some, bl_ok, tst_f, e_nx, seq_nx, e_ex, e_meth, var0, R1.getr, e_cons, e_c, ix, q2, st_ok, var2, opNotN_non, isNon_non, Bool.not_true]
end
end K89

set_option Elab.async false
set_option linter.all false
set_option maxRecDepth 100000
set_option maxHeartbeats 4000000
/-! read_paper. -/
namespace K89
open PySem PySem.Spec PyProof.Rows L2 Sm
def loopEnd (res : Sum Nat T) (x : RS) (h : Hs) (W : Nat) : Prop := match res with
  | .inl k => ∃ τ' h', x = .err (erx k) τ' h' ∧ Fr (fun i => W ≤ i) h h'
  | .inr t => ∃ u h', x = .rt u h' ∧ Val h' t u ∧ Fr (fun i => W ≤ i) h h'
theorem loopEnd.pre {res : Sum Nat T} {x : RS} {h h1 : Hs} {W : Nat} (F : Fr (fun i => W ≤ i) h h1) (l : loopEnd res x h1 W) : loopEnd res x h W := by
  cases res with
  | inl k =>
    obtain ⟨τ', h', e, F2⟩ := l
    exact ⟨τ', h', e, F.trans F2⟩
  | inr t =>
    obtain ⟨u, h', e, v, F2⟩ := l
    exact ⟨u, h', e, v, F.trans F2⟩
theorem isNon_val {h : Hs} {f : Fm} {u : U} (v : Val h f.close u) : isNon u = false := by
  unfold Fm.close at v
  cases e : f.w with
  | none =>
    rw [e] at v
    cases v
    rfl
  | some w =>
    rw [e] at v
    cases v
    rfl
section
variable {k r W B : Nat} {ws : List Wo}
theorem loop_ok (hp : ∀ w ∈ ws, numB w = true → (parse w).isSome = true) : ∀ (ff m at_ : Nat) (h : Hs) (os : List Nat) (f : Fm) (fs : List Fm) (a b c : Option U), Rst h r W B ws m at_ os (f :: fs) → m ≤ at_ → okD (f :: fs) → fs.length + 1 ≤ 20 → ws.length - at_ < ff →
    loopEnd (rdGo (ws.drop at_) at_ false (f :: fs)) ((mWhile wcond (wbody (fam (k + 27))) ff [some (.ref r), a, b, c] h).seq (mRet (mMeth 27 (fam (k + 27) 27) (mVar 0) mNil))) h W
  | 0, m, at_, h, os, f, fs, a, b, c, R, hm, hd, hl, hff => by omega
  | ff + 1, m, at_, h, os, f, fs, a, b, c, R, hm, hd, hl, hff => by
    have hle := R.le
    have hlen := R.len
    by_cases hat : at_ < ws.length
    · obtain ⟨w, hw⟩ : ∃ w, ws[at_]? = some w := ⟨ws[at_], List.getElem?_eq_getElem hat⟩
      have hdr : ws.drop at_ = w :: ws.drop (at_ + 1) := by
        rw [List.drop_eq_getElem_cons hat]
        congr 1
        rw [List.getElem?_eq_getElem hat] at hw
        exact Option.some.inj hw
      have hcond : wcond [some (.ref r), a, b, c] h = .ok true h := by rw [R.cond, decide_eq_true hat]
      have hos := R.st.length
      obtain ⟨o, os', rfl⟩ : ∃ o os', os = o :: os' := by
        cases os with
        | nil => simp at hos
        | cons o os' => exact ⟨o, os', rfl⟩
      simp only [List.length_cons] at hos
      rw [hdr]
      unfold rdGo
      by_cases ho : w = [40] ∨ w = [91]
      · rw [if_pos ho]
        have hb := body_open (k := k) (a := a) (b := b) (c := c) R hw ho
        cases hf : f.full with
        | true =>
          rw [hf, if_pos rfl] at hb
          rw [if_pos (.inl rfl)]
          exact ⟨_, h, by rw [while_err hcond hb]; rfl, Fr.refl R.wf⟩
        | false =>
          rw [hf, if_neg (by simp)] at hb
          by_cases h20 : fs.length + 1 = 20
          · rw [if_pos (.inr h20)]
            rw [R.begin_deep (n := k + 25) (by simp; omega)] at hb
            exact ⟨_, h, by rw [while_err hcond hb]; rfl, Fr.refl R.wf⟩
          · rw [if_neg (fun z => z.elim (fun q => nomatch q) h20)]
            by_cases h4 : w = [40]
            · rw [if_pos h4]
              obtain ⟨h1, e1, R1, F1, _⟩ := R.begin_tup (n := k + 25) (by simp; omega) (by rw [hw, h4])
              rw [e1] at hb
              rw [while_go hcond hb]
              exact (loop_ok hp ff m (at_ + 1) h1 _ _ _ _ _ _ R1 (by omega) ⟨fun t ht => (nomatch ht), hd⟩ (by simp; omega) (by omega)).pre F1
            · rw [if_neg h4]
              have h9 : w = [91] := ho.resolve_left h4
              rw [h9] at hw
              cases hw2 : ws[at_ + 1]? with
              | none =>
                obtain ⟨h1, e1, F1⟩ := R.begin_bad (n := k + 25) (by simp; omega) hw (.inl hw2)
                rw [e1] at hb
                have : ws.drop (at_ + 1) = [] := List.drop_eq_nil_iff.mpr (List.getElem?_eq_none_iff.mp hw2)
                rw [this]
                exact ⟨_, h1, by rw [while_err hcond hb]; rfl, F1⟩
              | some w2 =>
                have hat2 := (List.getElem?_eq_some_iff.mp hw2).1
                have hdr2 : ws.drop (at_ + 1) = w2 :: ws.drop (at_ + 2) := by
                  rw [List.drop_eq_getElem_cons hat2]
                  congr 1
                  rw [List.getElem?_eq_getElem hat2] at hw2
                  exact Option.some.inj hw2
                rw [hdr2]
                unfold rdGo
                cases hs : sz w2 with
                | none =>
                  obtain ⟨h1, e1, F1⟩ := R.begin_bad (n := k + 25) (by simp; omega) hw (.inr ⟨w2, hw2, hs⟩)
                  rw [e1] at hb
                  exact ⟨_, h1, by rw [while_err hcond hb]; rfl, F1⟩
                | some z =>
                  obtain ⟨o2, h1, e1, R1, F1, _⟩ := R.begin_pap (n := k + 25) (by simp; omega) hw hw2 (by rw [hs]; rfl)
                  rw [e1] at hb
                  rw [while_go hcond hb]
                  exact (loop_ok hp ff m (at_ + 2) h1 _ _ _ _ _ _ R1 (by omega) ⟨fun t ht => (nomatch ht), hd⟩ (by simp; omega) (by omega)).pre F1
      · rw [if_neg ho]
        by_cases hc : w = [41] ∨ w = [93]
        · rw [if_pos hc]
          have hb := body_close (k := k) (a := a) (b := b) (c := c) R hw hc
          by_cases hbad : w ≠ f.clW ∨ (f.w.isSome = true ∧ f.full = false)
          · rw [if_pos hbad]
            rw [R.end_bad (n := k + 25) hw hbad] at hb
            exact ⟨_, h, by rw [while_err hcond hb]; rfl, Fr.refl R.wf⟩
          · rw [if_neg hbad]
            cases fs with
            | nil =>
              have : os' = [] := by
                cases os' with
                | nil => rfl
                | cons x y => simp at hos
              subst this
              obtain ⟨u, h1, e1, v1, R1, F1⟩ := R.end_last (n := k + 22) hw hbad (by omega) hd.1 (by omega)
              rw [e1] at hb
              simp only [st_ok, seq_nx, e_ifS, e_T, e_bin, var2, bind_ok, e_c, opNotN_non, of_some, bl_ok, isNon_val v1, Bool.not_false, tst_t, e_seq, e_fld, var0, R1.f14, e_callB, e_cons, e_nil, R1.f13, R1.lenW, opLt_int, e_ret] at hb
              cases hr : ws.drop (at_ + 1) with
              | nil =>
                have : ws.length ≤ at_ + 1 := List.drop_eq_nil_iff.mp hr
                rw [decide_eq_false (by omega)] at hb
                simp only [tst_f, e_nx, seq_nx, e_ret, var2, st_ok] at hb
                exact ⟨u, h1, by rw [while_rt hcond hb]; rfl, v1, F1⟩
              | cons x y =>
                have : ¬ ws.length ≤ at_ + 1 := fun z => by rw [List.drop_eq_nil_iff.mpr z] at hr; cases hr
                rw [decide_eq_true (by omega)] at hb
                simp only [tst_t, e_ex, e_meth, var0, bind_ok, R1.getr, e_nil, R1.stop (n := k + 26), st_err, seq_err] at hb
                exact ⟨_, h1, by rw [while_err hcond hb]; rfl, F1⟩
            | cons g gs =>
              obtain ⟨o2, os2, rfl⟩ : ∃ o2 os2, os' = o2 :: os2 := by
                cases os' with
                | nil => simp at hos
                | cons x y => exact ⟨x, y, rfl⟩
              obtain ⟨p1, p2⟩ := R.end_more (n := k + 22) hw hbad (by omega) hd.1 (by omega)
              cases hg : g.full with
              | true =>
                obtain ⟨h1, e1, F1⟩ := p1 hg
                rw [e1] at hb
                simp only [hg, ↓reduceIte]
                exact ⟨_, h1, by rw [while_err hcond hb]; rfl, F1⟩
              | false =>
                obtain ⟨h1, e1, R1, F1, _⟩ := p2 hg
                rw [e1] at hb
                simp only [st_ok, seq_nx, e_ifS, e_T, e_bin, var2, bind_ok, e_c, opNotN_non, of_some, bl_ok, isNon_non, Bool.not_true, tst_f, e_nx] at hb
                simp only [hg, Bool.false_eq_true, ↓reduceIte]
                rw [while_go hcond hb]
                have hd' : okD (g.add f.close :: gs) := ⟨fun t ht => by
                  rcases List.mem_append.mp ht with q | q
                  · exact hd.2.1 t q
                  · have : t = f.close := by simpa using q
                    rw [this]
                    have := close_ok (n := 20 - (gs.length + 1 + 1)) hd.1 fun z => hbad (.inr z)
                    simp only [List.length_cons] at hl
                    rwa [show 20 - (gs.length + 1 + 1) + 1 = 20 - (gs.length + 1) by omega] at this, hd.2.2⟩
                simp only [List.length_cons] at hl
                exact (loop_ok hp ff (m + 1) (at_ + 1) h1 _ _ _ _ _ _ R1 (by omega) hd' (by omega) (by omega)).pre F1
        · rw [if_neg hc]
          obtain ⟨p1, p2, p3⟩ := body_plain (k := k) (a := a) (b := b) (c := c) R hw ho hc (hp w (List.mem_of_getElem? hw)) (by omega)
          cases hpl : pl w with
          | false =>
            obtain ⟨τ', h1, e1, F1⟩ := p1 hpl
            rw [if_neg (by simp)]
            exact ⟨_, h1, by rw [while_err hcond e1]; rfl, F1.up⟩
          | true =>
            rw [if_pos rfl]
            cases hf : f.full with
            | true =>
              obtain ⟨τ', h1, e1, F1⟩ := p2 hpl hf
              rw [if_pos rfl]
              exact ⟨_, h1, by rw [while_err hcond e1]; rfl, F1.up⟩
            | false =>
              obtain ⟨c', h1, e1, R1, F1, _⟩ := p3 hpl hf
              rw [if_neg (by simp)]
              rw [while_go hcond e1]
              have nw : w ≠ [40] ∧ w ≠ [91] ∧ w ≠ [41] ∧ w ≠ [93] := ⟨fun z => ho (.inl z), fun z => ho (.inr z), fun z => hc (.inl z), fun z => hc (.inr z)⟩
              have hd' : okD (f.add (.leaf w) :: fs) := ⟨fun t ht => by
                rcases List.mem_append.mp ht with q | q
                · exact hd.1 t q
                · have : t = .leaf w := by simpa using q
                  rw [this]
                  cases 20 - (fs.length + 1) <;> exact ⟨hpl, nw⟩, hd.2⟩
              exact (loop_ok hp ff (m + 1) (at_ + 1) h1 _ _ _ _ _ _ R1 (by omega) hd' hl (by omega)).pre F1
    · have : at_ = ws.length := by omega
      have hdr : ws.drop at_ = [] := List.drop_eq_nil_iff.mpr (by omega)
      rw [hdr]
      refine ⟨[some (.ref r), a, b, c], h, ?_, Fr.refl R.wf⟩
      rw [while_end (by rw [R.cond, decide_eq_false hat])]
      simp only [seq_nx, e_ret, e_meth, var0, bind_ok, R.getr, e_nil, R.stop (n := k + 26), st_err]
theorem f31 {n : Nat} {h : Hs} {u : U} : fam (n + 1) 31 [u] h = (b_Reading_whole (fam n) [some u, none, none, none] h).out := rfl
theorem f32 {n : Nat} {h : Hs} {u : U} : fam (n + 1) 32 [u] h = (b_read_paper (fam n) [some u] h).out := rfl
theorem f26 {n : Nat} {h : Hs} {u v x y : U} : fam (n + 1) 26 [u, v, x, y] h = (b_Reading_init (fam n) [some u, some v, some x, some y] h).out := rfl
def readEnd (res : Sum Nat T) (x : Sm.R U) (h : Hs) : Prop := match res with
  | .inl k => ∃ h', x = .err (erx k) h' ∧ Fr nX h h'
  | .inr t => ∃ u h', x = .ok u h' ∧ Val h' t u ∧ Fr nX h h'
theorem whole_ok {h : Hs} (hp : ∀ w ∈ ws, numB w = true → (parse w).isSome = true) (R : Rst h r W B ws 0 0 [] []) : match rd ws with
    | .inl j => ∃ h', fam (k + 28) 31 [.ref r] h = .err (erx j) h' ∧ Fr (fun i => W ≤ i) h h'
    | .inr t => ∃ u h', fam (k + 28) 31 [.ref r] h = .ok u h' ∧ Val h' t u ∧ Fr (fun i => W ≤ i) h h' := by
  rw [f31, whole_is]
  have l0 := R.lenW
  cases ws with
  | nil =>
    refine ⟨h, ?_, Fr.refl R.wf⟩
    have : eqZ 0 (([] : List Wo).length : Nat) = true := rfl
    have x14 : fldU 14 (.ref r) h = .ok (.int 0) h := R.f14
    simp only [e_seq, e_ifS, e_or, e_T, e_bin, e_fld, var0, bind_ok, x14, e_callB, e_cons, e_nil, R.f13, l0, of_some, opEq_int, this, bl_ok, ite_t, tst_t, e_ex, e_meth, R.getr, R.stop (n := k + 26), st_err, seq_err, out_err]
  | cons w rest =>
    have hz : eqZ 0 (((w :: rest : List Wo).length : Nat) : Int) = false := by
      rw [eqZ_dec]
      exact decide_eq_false (by simp; omega)
    have x14 : fldU 14 (.ref r) h = .ok (.int 0) h := R.f14
    have xw : opIxA (.ref W) (.int 0) h = some (.str w, h) := R.word (w := w) rfl
    show match (if w = [91] then rdGo rest 1 true [] else .inl 0) with
      | .inl j => _
      | .inr t => _
    by_cases hw : w = [91]
    · rw [if_pos hw]
      have t1 : (!eqN w [91]) = false := by rw [hw]; rfl
      have pre : (mSeq (mIfS (mOr (mT (mBin (opEq) (mFld 14 (mVar 0)) (mCallB fLen (mCons (mFld 13 (mVar 0)) mNil)))) (mT (mBin (opNe) (mBin opIxA (mFld 13 (mVar 0)) (mFld 14 (mVar 0))) (mC (.str [91]))))) (mEx (mMeth 27 (fam (k + 27) 27) (mVar 0) mNil)) mNx) (mSeq (mEx (mMeth 27 (fam (k + 27) 28) (mVar 0) mNil)) (mSeq (mWhile wcond (wbody (fam (k + 27))) fu) (mRet (mMeth 27 (fam (k + 27) 27) (mVar 0) mNil))))) [some (.ref r), none, none, none] h =
          (((fam (k + 27) 28 [.ref r] h).st [some (.ref r), none, none, none] fun _ h1 => .nx [some (.ref r), none, none, none] h1).seq (mSeq (mWhile wcond (wbody (fam (k + 27))) fu) (mRet (mMeth 27 (fam (k + 27) 27) (mVar 0) mNil)))) := by
        rw [e_seq]
        simp only [e_ifS, e_or, e_T, e_bin, e_fld, var0, bind_ok, x14, e_callB, e_cons, e_nil, R.f13, l0, of_some, opEq_int, hz, bl_ok, ite_f, xw, e_c, opNe_str, t1, tst_f, e_nx, seq_nx]
        rw [e_seq]
        simp only [e_ex, e_meth, var0, bind_ok, R.getr, e_nil]
      rw [pre]
      cases rest with
      | nil =>
        obtain ⟨h1, e1, F1⟩ := R.begin_bad (n := k + 25) (by simp) (by rw [hw]; rfl) (.inl rfl)
        rw [e1]
        exact ⟨h1, rfl, F1⟩
      | cons w2 rest2 =>
        unfold rdGo
        cases hs : sz w2 with
        | none =>
          obtain ⟨h1, e1, F1⟩ := R.begin_bad (n := k + 25) (by simp) (by rw [hw]; rfl) (.inr ⟨w2, rfl, hs⟩)
          rw [e1]
          exact ⟨h1, rfl, F1⟩
        | some z =>
          obtain ⟨o, h1, e1, R1, F1, _⟩ := R.begin_pap (n := k + 25) (w := w2) (by simp) (by rw [hw]; rfl) rfl (by rw [hs]; rfl)
          rw [e1]
          have hlen := R.len
          have q := loop_ok (k := k) hp fu 0 2 h1 [o] ⟨some w2, []⟩ [] none none none R1 (by omega) ⟨fun t ht => (nomatch ht), trivial⟩ (by simp) (by unfold fu; omega)
          have hd : (w :: w2 :: rest2).drop 2 = rest2 := rfl
          rw [hd] at q
          simp only [st_ok, seq_nx]
          rw [e_seq]
          revert q
          cases rdGo rest2 2 false [⟨some w2, []⟩] with
          | inl j =>
            rintro ⟨τ', h2, e2, F2⟩
            exact ⟨h2, by rw [e2]; rfl, F1.trans F2⟩
          | inr t =>
            rintro ⟨u, h2, e2, v2, F2⟩
            exact ⟨u, h2, by rw [e2]; rfl, v2, F1.trans F2⟩
    · rw [if_neg hw]
      refine ⟨h, ?_, Fr.refl R.wf⟩
      have t1 : (!eqN w [91]) = true := by rw [eqN_dec, decide_eq_false hw]; rfl
      simp only [e_seq, e_ifS, e_or, e_T, e_bin, e_fld, var0, bind_ok, x14, e_callB, e_cons, e_nil, R.f13, l0, of_some, opEq_int, hz, bl_ok, ite_f, xw, e_c, opNe_str, t1, tst_t, e_ex, e_meth, R.getr, R.stop (n := k + 26), st_err, seq_err, out_err]
theorem joinL_len {s : Nat} : ∀ {ls : List Wo}, (∀ w ∈ ls, w.length ≤ 1000) → (TL.joinL [s] ls).length ≤ 1001 * ls.length
  | [], _ => Nat.zero_le _
  | [p], h => by
    have := h p List.mem_cons_self
    show p.length ≤ 1001 * 1
    omega
  | p :: q :: r, h => by
    have h1 := h p List.mem_cons_self
    have ih := joinL_len (s := s) (ls := q :: r) fun w hw => h w (List.mem_cons_of_mem _ hw)
    have e : (TL.joinL [s] (p :: q :: r)).length = p.length + (1 + (TL.joinL [s] (q :: r)).length) := by
      show (p ++ ([s] ++ TL.joinL [s] (q :: r))).length = _
      simp
      omega
    rw [e]
    simp only [List.length_cons] at *
    omega
/-- read_paper of words: as rd says -/
theorem read_ok {h : Hs} (hw : h.wf) (hn : ws ≠ []) (hl : ws.length ≤ 10000) (hwl : ∀ w ∈ ws, w.length ≤ 1000) (hsp : ∀ w ∈ ws, 32 ∉ w) (hp : ∀ w ∈ ws, numB w = true → (parse w).isSome = true) : readEnd (rd ws) (fam (k + 29) 32 [.str (TL.joinL [32] ws)] h) h := by
  have hj := joinL_len (s := 32) hwl
  have sp : fSplit (.str (TL.joinL [32] ws)) [.str [32]] h = some (.ref h.n, h.new (.lst (ws.map U.str))) := by
    show (match allN (fun c => Nat.blt c 256) [32] && fits ((TL.joinL [32] ws).length + 2) with
      | true => some (U.ref h.n, h.new (.lst ((TL.spl [32] 0 [] (TL.joinL [32] ws)).map U.str)))
      | false => none) = _
    rw [fits_of (by omega), TL.spl_join hn hsp]
    rfl
  have g0 := Hs.get_new_same (o := .lst (ws.map U.str)) hw
  have w0 : (h.new (.lst (ws.map U.str))).wf := Hs.wf_new hw
  generalize hh0 : h.new (.lst (ws.map U.str)) = h0 at *
  have n0 : h0.n = h.n + 1 := by rw [← hh0]; rfl
  have F0 : Fr nX h h0 := by rw [← hh0]; exact Fr.new hw
  -- the new Reading
  have w1 : (h0.new (.ins 27 [])).wf := Hs.wf_new w0
  have F1 : Fr nX h0 (h0.new (.ins 27 [])) := Fr.new w0
  have g1 : (h0.new (.ins 27 [])).get h0.n = some (.ins 27 []) := Hs.get_new_same w0
  have i1 := get_lt w1 g1
  generalize hh1 : h0.new (.ins 27 []) = h1 at *
  have n1 : h1.n = h0.n + 1 := by rw [← hh1]; rfl
  let τ : Sl := [some (.ref h0.n), some (.ref h.n), some (.int 0), some (.int 0)]
  have s1 := setF_ok (f := 13) (u := .ref h.n) (τ := τ) (cs := [27]) g1 (by simp) (by simp)
  have w2 := Hs.wf_put (o := .ins 27 (ptF 13 (.ref h.n) [])) w1 i1
  have g2 := Hs.get_put_same (o := .ins 27 (ptF 13 (.ref h.n) [])) w1 i1
  have F2 : Fr (· = h0.n) h1 (h1.put h0.n (.ins 27 (ptF 13 (.ref h.n) []))) := Fr.put w1 i1 rfl
  generalize hh2 : h1.put h0.n (.ins 27 (ptF 13 (.ref h.n) [])) = h2 at *
  have i2 := get_lt w2 g2
  have s2 := setF_ok (f := 3) (u := .int 0) (τ := τ) (cs := [27]) g2 (by simp) (by simp [ptF])
  have w3 := Hs.wf_put (o := .ins 27 (ptF 3 (.int 0) (ptF 13 (.ref h.n) []))) w2 i2
  have g3 := Hs.get_put_same (o := .ins 27 (ptF 3 (.int 0) (ptF 13 (.ref h.n) []))) w2 i2
  have F3 : Fr (· = h0.n) h2 (h2.put h0.n (.ins 27 (ptF 3 (.int 0) (ptF 13 (.ref h.n) [])))) := Fr.put w2 i2 rfl
  generalize hh3 : h2.put h0.n (.ins 27 (ptF 3 (.int 0) (ptF 13 (.ref h.n) []))) = h3 at *
  have i3 := get_lt w3 g3
  have s3 := setF_ok (f := 14) (u := .int 0) (τ := τ) (cs := [27]) g3 (by simp) (by simp [ptF])
  have w4 := Hs.wf_put (o := .ins 27 (ptF 14 (.int 0) (ptF 3 (.int 0) (ptF 13 (.ref h.n) [])))) w3 i3
  have g4 := Hs.get_put_same (o := .ins 27 (ptF 14 (.int 0) (ptF 3 (.int 0) (ptF 13 (.ref h.n) [])))) w3 i3
  have F4 : Fr (· = h0.n) h3 (h3.put h0.n (.ins 27 (ptF 14 (.int 0) (ptF 3 (.int 0) (ptF 13 (.ref h.n) []))))) := Fr.put w3 i3 rfl
  have n4 : (h3.put h0.n (.ins 27 (ptF 14 (.int 0) (ptF 3 (.int 0) (ptF 13 (.ref h.n) []))))).n = h0.n + 1 := by rw [← n1, Hs.put_n, ← hh3, Hs.put_n, ← hh2, Hs.put_n]
  generalize hh4 : h3.put h0.n (.ins 27 (ptF 14 (.int 0) (ptF 3 (.int 0) (ptF 13 (.ref h.n) [])))) = h4 at *
  have F5 : Fr nX h4 (h4.new (.lst [])) := Fr.new w4
  have w5 := F5.wf
  have g5 : (h4.new (.lst [])).get h4.n = some (.lst []) := Hs.get_new_same w4
  have g5' := F5.gets g4
  generalize hh5 : h4.new (.lst []) = h5 at *
  have i5 := get_lt w5 g5'
  have s4 := setF_ok (f := 15) (u := .ref h4.n) (τ := τ) (cs := [27]) g5' (by simp) (by simp [ptF])
  have F6 : Fr (· = h0.n) h5 (h5.put h0.n (.ins 27 (ptF 15 (.ref h4.n) (ptF 14 (.int 0) (ptF 3 (.int 0) (ptF 13 (.ref h.n) [])))))) := Fr.put w5 i5 rfl
  have g6 := Hs.get_put_same (o := .ins 27 (ptF 15 (.ref h4.n) (ptF 14 (.int 0) (ptF 3 (.int 0) (ptF 13 (.ref h.n) []))))) w5 i5
  generalize hh6 : h5.put h0.n (.ins 27 (ptF 15 (.ref h4.n) (ptF 14 (.int 0) (ptF 3 (.int 0) (ptF 13 (.ref h.n) []))))) = h6 at *
  have FX : Fr (· = h0.n) h0 h6 := ((((((F1.up).trans F2).trans F3).trans F4).trans F5.up).trans F6)
  have R : Rst h6 h0.n h.n h4.n ws 0 0 [] [] := ⟨F6.wf, g6, FX.get g0 (by show ¬ h.n = h0.n; omega), F6.get g5 (by show ¬ h4.n = h0.n; omega), by omega, by omega, .nil, hl, Nat.zero_le _, hwl⟩
  have mk : fam (k + 28) 26 [.ref h0.n, .ref h.n, .int 0, .int 0] h1 = .ok .non h6 := by
    rw [f26]
    show (b_Reading_init (fam (k + 27)) τ h1).out = _
    have v0 : ∀ hx, mVar 0 τ hx = .ok (.ref h0.n) hx := fun _ => rfl
    have v1 : ∀ hx, mVar 1 τ hx = .ok (.ref h.n) hx := fun _ => rfl
    have v2 : ∀ hx, mVar 2 τ hx = .ok (.int 0) hx := fun _ => rfl
    have v3 : ∀ hx, mVar 3 τ hx = .ok (.int 0) hx := fun _ => rfl
    simp only [b_Reading_init, e_seq, e_setF, v0, v1, v2, v3, st_ok, s1, seq_nx, hh2, s2, hh3, s3, hh4, e_lst, e_nil, bind_ok, mkL_0, hh5, s4, hh6, out_nx]
  have pre : fam (k + 29) 32 [.str (TL.joinL [32] ws)] h = fam (k + 28) 31 [.ref h0.n] h6 := by
    rw [f32]
    have i0 : isiU isiC isiS [.str] (.str (TL.joinL [32] ws)) h = .ok (.bl true) h := rfl
    simp only [b_read_paper, e_seq, e_ifS, e_not, e_T, e_isi, var0, bind_ok, i0, bl_ok, Bool.not_true, tst_f, e_nx, seq_nx, e_ret, e_meth, e_make, e_cons, e_metB, metB_str, e_c, e_nil, sp, of_some, hh0, hh1, mk, made_ok, R.getr]
    cases fam (k + 28) 31 [.ref h0.n] h6 <;> rfl
  rw [pre]
  have FF : ∀ {h7 : Hs}, Fr (fun i => h.n ≤ i) h6 h7 → Fr nX h h7 := fun {h7} F7 => by
    have : Fr (fun i => h.n ≤ i ∨ nX i) h h7 := ((F0.up).trans (FX.mono fun i hi e => .inl (by
      have : i = h0.n := e
      omega))).trans (F7.mono fun i hi e => .inl e)
    exact this.from_new (Nat.le_refl _)
  have q := whole_ok (k := k) hp R
  unfold readEnd
  revert q
  cases rd ws with
  | inl j =>
    rintro ⟨h7, e, F7⟩
    exact ⟨h7, e, FF F7⟩
  | inr t =>
    rintro ⟨u, h7, e, v, F7⟩
    exact ⟨u, h7, e, v, FF F7⟩
end
end K89

set_option Elab.async false
set_option linter.all false
set_option maxRecDepth 100000
set_option maxHeartbeats 4000000
/-! words_of, paper_text. -/
namespace Sm
open PySem PySem.Spec PyProof.Rows L2
section
variable {it : MIt} {vs vs1 : List Nat} {tg g1 : Tgt} {t t1 : TM} {mi1 : IM} {e : EM} {τ : Sl} {us : List U} {h h' : Hs} {fi : Nat}
theorem lc2Go_inv (I : Nat → List U → Hs → Prop) (hat : ∀ j acc h, I j acc h → it.at j h = some us[j]?)
    (turn : ∀ j u acc h, us[j]? = some u → I j acc h → ∃ τ2 it1 h4 ys h5, tg.set u (wipeU vs τ) = some τ2 ∧ t τ2 h = .ok true h ∧ mi1 τ2 h = .ok it1 h4 ∧ mLcGo it1 vs1 g1 t1 e τ2 fi 0 h4 = .ok ys h5 ∧ I (j + 1) (acc ++ ys) h5) :
    ∀ f j acc h, us.length < f + j → j ≤ us.length → I j acc h → ∃ ys h', mLc2Go it vs tg t mi1 vs1 g1 t1 e τ fi f j h = .ok ys h' ∧ I us.length (acc ++ ys) h'
  | 0, j, acc, h, hf, hj, i => by omega
  | f + 1, j, acc, h, hf, hj, i => by
    have e1 := hat j acc h i
    unfold mLc2Go
    simp only [e1]
    cases eu : us[j]? with
    | none =>
      have : j = us.length := by
        have := List.getElem?_eq_none_iff.mp eu
        omega
      subst this
      exact ⟨[], h, rfl, by simpa using i⟩
    | some u =>
      have hj2 : j < us.length := (List.getElem?_eq_some_iff.mp eu).1
      obtain ⟨τ2, it1, h4, ys, h5, e2, e3, e4, e5, i2⟩ := turn j u acc h eu i
      obtain ⟨zs, h', e6, i3⟩ := lc2Go_inv I hat turn f (j + 1) (acc ++ ys) h5 (by omega) (by omega) i2
      exact ⟨ys ++ zs, h', by simp only [e2, e3, e4, e5, e6], by simpa using i3⟩
theorem e_lc2 {mi : IM} {f : Nat} : mLc2 mi vs tg t mi1 vs1 g1 t1 e f fi τ h = (mi τ h).bind fun it h1 => lcEnd (mLc2Go it vs tg t mi1 vs1 g1 t1 e τ fi f 0 h1) := by
  show ((mi τ h).bind _) = _
  congr 1
def starU (x : U) (h : Hs) (k : Hs → R (List U)) : R (List U) := match x with
  | .tup ys => (k h).bind fun xs h2 => .ok (ys ++ xs) h2
  | .ref i => match h.get i with
    | some (.lst ys) => (k h).bind fun xs h2 => .ok (ys ++ xs) h2
    | _ => .no
  | _ => .no
theorem e_star {a : EM} {r : AM} : mStar a r τ h = (a τ h).bind fun x h1 => starU x h1 (r τ) := rfl
theorem starU_lst {i : Nat} {ys : List U} {k : Hs → R (List U)} (g : h.get i = some (.lst ys)) : starU (.ref i) h k = (k h).bind fun xs h2 => .ok (ys ++ xs) h2 := by
  simp only [starU, g]
end
end Sm
namespace K89
open PySem PySem.Spec PyProof.Rows L2 Sm
/-- a leaf's word is what is written for it -/
def LO (w : Wo) : Prop := w.length ≤ 1000 ∧ (numB w = true → ∃ i, parse w = some i ∧ strI i = w ∧ (strI (i.natAbs : Nat)).length ≤ 400 ∧ i.natAbs.log2 < 1920)
section
variable {n : Nat} {h : Hs} {u v : U}
theorem f0 : fam (n + 1) 0 [u] h = (b_is_integer (fam n) [some u] h).out := rfl
theorem f17 : fam (n + 1) 17 [u] h = (b_is_kind (fam n) [some u] h).out := rfl
theorem f18 : fam (n + 1) 18 [u, v] h = (b_words_of (fam n) [some u, some v, none, none] h).out := rfl
theorem f19 : fam (n + 1) 19 [u] h = (b_paper_text (fam n) [some u, none] h).out := rfl
theorem int_int {i : Int} : fam (n + 1) 0 [.int i] h = .ok (.bl true) h := by
  rw [f0]
  have e1 : isiU isiC isiS [.int] (.int i) h = .ok (.bl true) h := rfl
  have e2 : isiU isiC isiS [.bool] (.int i) h = .ok (.bl false) h := rfl
  simp [b_is_integer, e1, e2]
theorem int_str {l : Wo} : fam (n + 1) 0 [.str l] h = .ok (.bl false) h := by
  rw [f0]
  have e1 : isiU isiC isiS [.int] (.str l) h = .ok (.bl false) h := rfl
  simp [b_is_integer, e1]
theorem int_tup {l : List U} : fam (n + 1) 0 [.tup l] h = .ok (.bl false) h := by
  rw [f0]
  have e1 : isiU isiC isiS [.int] (.tup l) h = .ok (.bl false) h := rfl
  simp [b_is_integer, e1]
theorem int_ins {c p : Nat} {fs : List (Nat × U)} (e : h.get p = some (.ins c fs)) (hc : 13 ≤ c) (hc2 : c ≤ 27) : fam (n + 1) 0 [.ref p] h = .ok (.bl false) h := by
  rw [f0]
  have e1 : isiU isiC isiS [.int] (.ref p) h = .ok (.bl false) h := isi_ins e hc hc2 rfl
  simp [b_is_integer, e1]
theorem kind_ins {c p : Nat} {fs : List (Nat × U)} {w : Wo} (e : h.get p = some (.ins c fs)) (hc : 13 ≤ c) (hc2 : c ≤ 25) (e4 : lkF 4 fs = some (.str w)) (hs : (sz w).isSome = true) : fam (n + 1) 17 [.ref p] h = .ok (.bl true) h := by
  rw [f17]
  have hm : isiC.any (Nat.beq c) = true := by
    have : ∀ c, c ≤ 25 → 13 ≤ c → isiC.any (Nat.beq c) = true := by decide
    exact this c hc2 hc
  have hk : anyK isiS (.own c) [.own 11] = some true := by
    have : ∀ c, c ≤ 25 → 13 ≤ c → anyK isiS (.own c) [.own 11] = some true := by decide
    exact this c hc2 hc
  have e1 : isiU isiC isiS [.own 11] (.ref p) h = .ok (.bl true) h := by
    unfold isiU
    simp only [kdU, e, hm, hk]
  have e2 : fldU 4 (.ref p) h = .ok (.str w) h := fldU_ok e e4
  simp [b_is_kind, e1, e2, look_some, hs]
/-- the words of each -/
def words1 (M : Nat → FM) (i : Nat) : EM := (mLc2 (mSeqI (mVar 0)) [2, 3] (.one 2) mYes (mSeqI (mCall (M 18) (mCons (mVar 2) (mCons (mBin opSub (mVar 1) (mC (.int 1))) mNil)))) [3] (.one 3) mYes (mVar 3) fu fu)
theorem lcStr {τ : Sl} {p : Nat} {ls : List Wo} (g : h.get p = some (.lst (ls.map U.str))) (hl : ls.length ≤ 100000) (hτ : 3 < τ.length) : mLcGo (.live p) [3] (.one 3) mYes (mVar 3) τ fu 0 h = .ok (ls.map U.str) h := by
  have q := lcGo_pure (it := .live p) (us := ls.map U.str) (vs := [3]) (tg := .one 3) (t := mYes) (e := mVar 3) (τ := τ) (h := h) (P := fun _ => true) (F := fun u => u) (fun j => at_live g) (fun u hu => ⟨_, rfl, rfl, fun _ => by
    unfold mVar
    rw [List.getElem?_set_self (by simpa [wipeU] using hτ)]⟩) (f := fu) (by simp; unfold fu; omega)
  rw [q, List.filter_eq_self.mpr (fun _ _ => rfl)]
  simp
theorem words_each {mi : EM} {ts : List T} {us : List U} {D : Nat} {τ0 : Sl} (hτ : ∃ a c d : Option U, τ0 = [a, some (.int ((D + 1 : Nat) : Int)), c, d]) (hw : h.wf) (v : Vals h ts us) (hl : us.length ≤ 10000) (em : mi τ0 h = .ok (.tup us) h) (hlen : (Ts.words ts).length ≤ 10000)
    (ih : ∀ t ∈ ts, ∀ u h1, Fr nX h h1 → Val h1 t u → ∃ p h2, fam n 18 [u, .int D] h1 = .ok (.ref p) h2 ∧ h2.get p = some (.lst (t.words.map U.str)) ∧ Fr nX h1 h2) :
    ∃ h', mLc2 (mSeqI mi) [2, 3] (.one 2) mYes (mSeqI (mCall (fam n 18) (mCons (mVar 2) (mCons (mBin opSub (mVar 1) (mC (.int 1))) mNil)))) [3] (.one 3) mYes (mVar 3) fu fu τ0 h = .ok (.ref h'.n) (h'.new (.lst ((Ts.words ts).map U.str))) ∧ Fr nX h h' := by
  obtain ⟨a, c, d, rfl⟩ := hτ
  rw [e_lc2, seqI_tup em]
  have tsl := v.length
  have key := lc2Go_inv (it := .vals us) (vs := [2, 3]) (tg := .one 2) (t := mYes) (mi1 := mSeqI (mCall (fam n 18) (mCons (mVar 2) (mCons (mBin opSub (mVar 1) (mC (.int 1))) mNil)))) (vs1 := [3]) (g1 := .one 3) (t1 := mYes) (e := mVar 3) (τ := [a, some (.int ((D + 1 : Nat) : Int)), c, d]) (fi := fu) (us := us)
    (fun j acc h1 => acc = (Ts.words (ts.take j)).map U.str ∧ Fr nX h h1) (fun j acc h1 _ => rfl) (fun j u acc h1 eu i => by
    obtain ⟨rfl, F⟩ := i
    obtain ⟨hj, ej⟩ := List.getElem?_eq_some_iff.mp eu
    obtain ⟨t, et, vt⟩ : ∃ t, ts[j]? = some t ∧ Val h t u := by
      have key2 : ∀ (ts : List T) (us : List U) (j : Nat), Vals h ts us → us[j]? = some u → ∃ t, ts[j]? = some t ∧ Val h t u := fun ts => by
        induction ts with
        | nil => intro us j v e; cases v; simp at e
        | cons t r ih2 =>
          intro us j v e
          cases v with
          | cons a b =>
            cases j with
            | zero => simp at e; subst e; exact ⟨t, rfl, a⟩
            | succ j => exact ih2 _ j b (by simpa using e)
      exact key2 ts us j v eu
    obtain ⟨p, h2, e2, g2, F2⟩ := ih t (List.mem_of_getElem? et) u h1 F (vt.ext (PE.fr F))
    have hlt : t.words.length ≤ (Ts.words ts).length := by
      have key3 : ∀ (ts : List T), t ∈ ts → t.words.length ≤ (Ts.words ts).length := fun ts => by
        induction ts with
        | nil => intro m; cases m
        | cons x r ih3 =>
          intro m
          show _ ≤ (x.words ++ Ts.words r).length
          rw [List.length_append]
          rcases List.mem_cons.mp m with rfl | m
          · omega
          · have := ih3 m; omega
      exact key3 ts (List.mem_of_getElem? et)
    have em2 : mCall (fam n 18) (mCons (mVar 2) (mCons (mBin opSub (mVar 1) (mC (.int 1))) mNil)) [a, some (.int ((D + 1 : Nat) : Int)), some u, none] h1 = .ok (.ref p) h2 := by
      have : (((D + 1 : Nat) : Int) - 1) = (D : Int) := by omega
      simp only [e_call, e_cons, var2, bind_ok, e_bin, var1, e_c, opSub_int, of_some, e_nil, this, e2]
    refine ⟨_, .live p, h2, t.words.map U.str, h2, rfl, rfl, seqI_lst em2 g2, lcStr g2 (by omega) (by simp [wipeU]), ?_, F.trans F2⟩
    rw [List.take_succ, et]
    have : Ts.words [t] = t.words := by
      show t.words ++ [] = t.words
      rw [List.append_nil]
    simp [Ts.words_append, this]) fu 0 [] h (by unfold fu; omega) (by omega) ⟨by simp [Ts.words], Fr.refl hw⟩
  obtain ⟨ys, h', e1, e2, F⟩ := key
  refine ⟨h', ?_, F⟩
  simp only [bind_ok, e1, lcEnd_ok]
  rw [← tsl, List.take_length, List.nil_append] at e2
  rw [e2, mkL_ok (by simp; omega)]
theorem words_leaf {w : Wo} {D : Int} (hw : h.wf) (e : plainU w = [u]) (hlo : LO w) : ∃ p h', fam (n + 2) 18 [u, .int D] h = .ok (.ref p) h' ∧ h'.get p = some (.lst [.str w]) ∧ Fr nX h h' := by
  rw [f18]
  have fin : ∀ h1 x, Fr nX h h1 → x = U.str w → ∃ p h', (Sm.R.ok (U.ref h1.n) (h1.new (.lst [x]))) = .ok (.ref p) h' ∧ h'.get p = some (.lst [.str w]) ∧ Fr nX h h' := fun h1 x F ex => ⟨h1.n, h1.new (.lst [x]), rfl, by rw [ex]; exact Hs.get_new_same F.wf, F.trans (Fr.new F.wf)⟩
  unfold plainU at e
  by_cases e1 : eqN w [45] = true
  · rw [if_pos e1] at e
    cases e
    have := eqN_iff.mp e1
    subst this
    simpa [b_words_of] using fin h (.str [45]) (Fr.refl hw) rfl
  · rw [if_neg e1] at e
    by_cases e2 : isWordB w = true
    · rw [if_pos e2] at e
      cases e
      obtain ⟨h1, q1, F1⟩ := is_word_ok (n := n) hw hlo.1
      rw [e2] at q1
      simpa [b_words_of, int_str, q1] using fin h1 (.str w) F1 rfl
    · rw [if_neg e2] at e
      by_cases e3 : numB w = true
      · obtain ⟨i, p1, p2, p3, p4⟩ := hlo.2 e3
        have eu : numU w = .int i := by
          unfold numU
          rw [if_pos e3, p1]
        rw [eu] at e
        cases e
        have s1 : fStr [.int i] h = some (.str w, h) := by
          show pick (Nat.blt i.natAbs.log2 1920) (.str (strI i)) h = _
          rw [show Nat.blt i.natAbs.log2 1920 = true by simpa [Nat.blt_eq] using p4, p2]
          rfl
        have s2 : fStr [.int (i.natAbs : Nat)] h = some (.str (strI (i.natAbs : Nat)), h) := by
          show pick (Nat.blt ((i.natAbs : Nat) : Int).natAbs.log2 1920) (.str (strI (i.natAbs : Nat))) h = _
          rw [show Nat.blt ((i.natAbs : Nat) : Int).natAbs.log2 1920 = true by simpa [Nat.blt_eq] using p4]
          rfl
        have s3 : fAbs [.int i] h = some (.int (i.natAbs : Nat), h) := rfl
        have s4 : decide ((((strI (i.natAbs : Nat)).length : Nat) : Int) ≤ 400) = true := decide_eq_true (by omega)
        have s5 : (mIf (mT (mBin (opLe) (mCallB fLen (mCons (mCallB fStr (mCons (mCallB fAbs (mCons (mVar 0) mNil)) mNil)) mNil)) (mC (.int 400)))) (mLst (mCons (mCallB fStr (mCons (mVar 0) mNil)) mNil)) (mLst (mCons (mC .non) mNil))) [some (.int i), some (.int D), none, none] h = .ok (.ref h.n) (h.new (.lst [.str w])) := by
          simp only [e_if, e_T, e_bin, e_callB, e_cons, e_nil, var0, bind_ok, s3, of_some, s2, fLen_str (l := strI (i.natAbs : Nat)) (by omega), e_c, opLe_int, s4, bl_ok, ite_t, e_lst, s1, mkL_1]
        simpa [b_words_of, int_int, -e_if, s5] using fin h (.str w) (Fr.refl hw) rfl
      · have eu : numU w = .non := by
          unfold numU
          rw [if_neg e3]
        rw [eu] at e
        cases e
theorem sub_words {t : T} : ∀ {ts : List T}, t ∈ ts → (∀ w ∈ t.words, w ∈ Ts.words ts) ∧ t.words.length ≤ (Ts.words ts).length
  | [], m => nomatch m
  | x :: r, m => by
    have e : Ts.words (x :: r) = x.words ++ Ts.words r := rfl
    rw [e, List.length_append]
    rcases List.mem_cons.mp m with rfl | m
    · exact ⟨fun w hw => List.mem_append_left _ hw, by omega⟩
    · obtain ⟨a, b⟩ := sub_words m
      exact ⟨fun w hw => List.mem_append_right _ (a w hw), by omega⟩
theorem words_ok : ∀ {d : Nat} {t : T} {u : U} {n : Nat} {h : Hs} (D : Nat), h.wf → okT d t → Val h t u → (∀ w ∈ t.words, LO w) → t.words.length ≤ 10000 → d ≤ D → d + 2 ≤ n → ∃ p h', fam n 18 [u, .int D] h = .ok (.ref p) h' ∧ h'.get p = some (.lst (t.words.map U.str)) ∧ Fr nX h h'
  | d, t, u, 0, h, D, hw, ho, v, hlo, hl, hD, hn => by omega
  | d, t, u, 1, h, D, hw, ho, v, hlo, hl, hD, hn => by omega
  | d, .leaf w, u, n + 2, h, D, hw, ho, .leaf e, hlo, hl, hD, hn => words_leaf hw e (hlo w (List.mem_singleton.mpr rfl))
  | 0, .tup ts, u, n + 2, h, D, hw, ho, v, hlo, hl, hD, hn => ho.elim
  | 0, .pap w ts, u, n + 2, h, D, hw, ho, v, hlo, hl, hD, hn => ho.elim
  | d + 1, .tup ts, .tup us, n + 2, h, 0, hw, ho, .tup v hu, hlo, hl, hD, hn => by omega
  | d + 1, .tup ts, .tup us, n + 2, h, D + 1, hw, ho, .tup v hu, hlo, hl, hD, hn => by
    have ew : (T.tup ts).words = [40] :: (Ts.words ts ++ [[41]]) := rfl
    rw [ew] at hlo hl
    have hl2 : (Ts.words ts).length ≤ 10000 := by simp at hl; omega
    obtain ⟨h1, e1, F1⟩ := words_each (n := n + 1) (mi := mVar 0) (D := D) (τ0 := [some (.tup us), some (.int ((D + 1 : Nat) : Int)), none, none]) ⟨_, _, _, rfl⟩ hw v hu rfl hl2 (fun t ht u h1 F vt => by
      obtain ⟨a, b⟩ := sub_words ht
      exact words_ok D F.wf (ho t ht) vt (fun w hw => hlo w (List.mem_cons_of_mem _ (List.mem_append_left _ (a w hw)))) (by omega) (by omega) (by omega))
    have w2 := Hs.wf_new (o := .lst ((Ts.words ts).map U.str)) F1.wf
    have g2 := Hs.get_new_same (o := .lst ((Ts.words ts).map U.str)) F1.wf
    have F2 : Fr nX h1 (h1.new (.lst ((Ts.words ts).map U.str))) := Fr.new F1.wf
    generalize h1.new (.lst ((Ts.words ts).map U.str)) = h2 at *
    have ml := mkL_ok (h := h2) (xs := U.str [40] :: ((Ts.words ts).map U.str ++ [U.str [41]])) (by simp; omega)
    refine ⟨h2.n, h2.new (.lst ((T.tup ts).words.map U.str)), ?_, Hs.get_new_same w2, (F1.trans F2).trans (Fr.new w2)⟩
    rw [f18]
    have z1 : eqZ ((D + 1 : Nat) : Int) 0 = false := by rw [eqZ_dec]; exact decide_eq_false (by omega)
    have i1 : isiU isiC isiS [.str] (.tup us) h = .ok (.bl false) h := rfl
    have i2 : isiU isiC isiS [.tuple] (.tup us) h = .ok (.bl true) h := rfl
    simp only [b_words_of, e_seq, e_ifS, e_T, e_bin, var0, var1, bind_ok, e_c, opIsN_non, isNon_tup, of_some, bl_ok, tst_f, e_nx, seq_nx, e_call, e_cons, e_nil, int_tup, e_isi, i1, opEq_int, z1, i2, tst_t, e_ret, e_lst, e_star, e1, starU_lst g2]
    rw [ml]
    simp [ew]
  | d + 1, .pap w ts, .ref p, n + 2, h, 0, hw, ho, v, hlo, hl, hD, hn => by omega
  | d + 1, .pap w ts, .ref p, n + 2, h, D + 1, hw, ho, .pap v hu eg c1 c2 e4 e6, hlo, hl, hD, hn => by
    rename_i us c fs
    have ew : (T.pap w ts).words = [91] :: w :: (Ts.words ts ++ [[93]]) := rfl
    rw [ew] at hlo hl
    have hl2 : (Ts.words ts).length ≤ 10000 := by simp at hl; omega
    have x4 : fldU 4 (.ref p) h = .ok (.str w) h := fldU_ok eg e4
    have x6 : mFld 6 (mVar 0) [some (.ref p), some (.int ((D + 1 : Nat) : Int)), none, none] h = .ok (.tup us) h := by
      rw [e_fld, var0, bind_ok]
      exact fldU_ok eg e6
    obtain ⟨h1, e1, F1⟩ := words_each (n := n + 1) (mi := mFld 6 (mVar 0)) (D := D) (τ0 := [some (.ref p), some (.int ((D + 1 : Nat) : Int)), none, none]) ⟨_, _, _, rfl⟩ hw v hu x6 hl2 (fun t ht u h1 F vt => by
      obtain ⟨a, b⟩ := sub_words ht
      exact words_ok D F.wf (ho.2 t ht) vt (fun w hw => hlo w (List.mem_cons_of_mem _ (List.mem_cons_of_mem _ (List.mem_append_left _ (a w hw))))) (by omega) (by omega) (by omega))
    have w2 := Hs.wf_new (o := .lst ((Ts.words ts).map U.str)) F1.wf
    have g2 := Hs.get_new_same (o := .lst ((Ts.words ts).map U.str)) F1.wf
    have F2 : Fr nX h1 (h1.new (.lst ((Ts.words ts).map U.str))) := Fr.new F1.wf
    generalize h1.new (.lst ((Ts.words ts).map U.str)) = h2 at *
    have ml := mkL_ok (h := h2) (xs := U.str [91] :: U.str w :: ((Ts.words ts).map U.str ++ [U.str [93]])) (by simp; omega)
    refine ⟨h2.n, h2.new (.lst ((T.pap w ts).words.map U.str)), ?_, Hs.get_new_same w2, (F1.trans F2).trans (Fr.new w2)⟩
    rw [f18]
    have z1 : eqZ ((D + 1 : Nat) : Int) 0 = false := by rw [eqZ_dec]; exact decide_eq_false (by omega)
    have i1 : isiU isiC isiS [.str] (.ref p) h = .ok (.bl false) h := isi_ins eg c1 (by omega) rfl
    have i2 : isiU isiC isiS [.tuple] (.ref p) h = .ok (.bl false) h := isi_ins eg c1 (by omega) rfl
    have i3 := int_ins (n := n) eg c1 (by omega)
    have i4 := kind_ins (n := n) eg c1 c2 e4 (by rw [ho.1]; rfl)
    simp only [b_words_of, e_seq, e_ifS, e_T, e_bin, var0, var1, bind_ok, e_c, opIsN_non, isNon_ref, of_some, bl_ok, tst_f, e_nx, seq_nx, e_call, e_cons, e_nil, i3, e_isi, i1, opEq_int, z1, i2, i4, tst_t, e_ret, e_lst, e_star, e_fld, x4, e1, starU_lst g2]
    rw [ml]
    simp [ew]
theorem sumL_le {ls : List Wo} (h : ∀ w ∈ ls, w.length ≤ 1000) : sumL ls ≤ 1000 * ls.length := by
  induction ls with
  | nil => exact Nat.zero_le _
  | cons w r ih =>
    have h1 := h w List.mem_cons_self
    have h2 := ih fun w hw => h w (List.mem_cons_of_mem _ hw)
    show w.length + sumL r ≤ 1000 * (r.length + 1)
    omega
theorem texts_map : ∀ ls : List Wo, texts (ls.map U.str) = some ls
  | [] => rfl
  | w :: r => by
    show (match texts (r.map U.str) with
      | some ls => some (w :: ls)
      | none => none) = _
    rw [texts_map r]
theorem join_ok {p : Nat} {ls : List Wo} (g : h.get p = some (.lst (ls.map U.str))) (hl : ls.length ≤ 10000) (hw : ∀ w ∈ ls, w.length ≤ 1000) : fJoin (.str [32]) [.ref p] h = some (.str (TL.joinL [32] ls), h) := by
  have := sumL_le hw
  show (match h.get p with
    | some (.lst xs) => match texts xs with
      | some ls => match Nat.ble (sumL ls + ls.length * 1) 16777216 with
        | true => some (U.str (TL.joinL [32] ls), h)
        | false => none
      | none => none
    | _ => none) = _
  rw [g]
  simp only [texts_map]
  rw [show Nat.ble (sumL ls + ls.length * 1) 16777216 = true from Nat.ble_eq_true_of_le (by omega)]
theorem notNon {p : Nat} {ls : List Wo} (g : h.get p = some (.lst (ls.map U.str))) : opInA false .non (.ref p) h = some (.bl false, h) := by
  have e1 : ∀ ls : List Wo, memF .non (ls.map U.str) = false := fun ls => by
    induction ls with
    | nil => rfl
    | cons w r ih => exact ih
  have e2 : ∀ ls : List Wo, allU flat (ls.map U.str) = true := fun ls => allU_map (fun _ => rfl) ls
  have : inM .non (.ref p) h = some false := by
    show (match h.get p with
      | some (.lst xs) => match flat .non && allU flat xs with
        | true => some (memF .non xs)
        | false => none
      | _ => none) = _
    rw [g]
    simp only [e2, e1]
    rfl
  show (match h.get p with
    | some (.dic kvs) => match toKey .non with
      | some k => some (U.bl (false != (getD kvs k).isSome), h)
      | none => none
    | _ => if false = true then opNotIn .non (.ref p) h else opIn .non (.ref p) h) = _
  rw [g]
  show (match inM .non (.ref p) h with
    | some b => some (U.bl b, h)
    | none => none) = _
  rw [this]
theorem text_ok {w : Wo} {ts : List T} (hw : h.wf) (ho : okT 20 (.pap w ts)) (v : Val h (.pap w ts) u) (hlo : ∀ x ∈ (T.pap w ts).words, LO x) (hl : (T.pap w ts).words.length ≤ 10000) (hn : 22 ≤ n) : ∃ h', fam (n + 1) 19 [u] h = .ok (.str (TL.joinL [32] (T.pap w ts).words)) h' ∧ Fr nX h h' := by
  obtain ⟨n, rfl⟩ : ∃ m, n = m + 1 := ⟨n - 1, by omega⟩
  obtain ⟨p, h1, e1, g1, F1⟩ := words_ok 20 hw ho v hlo hl (Nat.le_refl _) hn
  cases v with
  | pap v hu eg c1 c2 e4 e6 =>
    have i4 := kind_ins (n := n) eg c1 c2 e4 (by rw [ho.1]; rfl)
    refine ⟨h1, ?_, F1⟩
    rw [f19]
    have jo := join_ok g1 hl fun x hx => (hlo x hx).1
    have e20 : ((20 : Nat) : Int) = 20 := rfl
    rw [e20] at e1
    simp only [b_paper_text, e_seq, e_asg, e_if, e_T, e_call, e_cons, e_nil, var0, bind_ok, i4, bl_ok, ite_t, e_c, e1, st_ok, gN1, asgd_some, seq_nx, e_ifS, e_bin, var1, notNon g1, of_some, tst_f, e_nx, e_ret, e_metB, metB_str, jo, out_rt]
end
end K89

set_option Elab.async false
set_option linter.all false
set_option maxRecDepth 100000
set_option maxHeartbeats 4000000
/-! _law_fault. -/
namespace K89
open PySem PySem.Spec PyProof.Rows L2 Sm
def wordW : Wo := [119, 111, 114, 100]
def leU : LE → U
  | .word => .str wordW
  | .tup => .non
  | .need k => .int (k : Int)
def szD : List (Ky × U) := l_SIZES.map fun p => (.inr p.1, .int p.2)
section
variable {n : Nat} {h : Hs} {L D : Nat} {l : LE} {w : Wo}
theorem f36 : fam (n + 1) 36 [] h = .ok (.ref h.n) (h.new (.dic szD)) := rfl
theorem getD_sz : getD szD (.inr w) = (lookM l_SIZES w).map U.int := by
  have key : ∀ l : List (List Nat × Int), getD (l.map fun p => ((.inr p.1 : Ky), U.int p.2)) (.inr w) = (lookM l w).map U.int := fun l => by
    induction l with
    | nil => rfl
    | cons p r ih =>
      obtain ⟨k, i⟩ := p
      show (match eqN k w with
        | true => some (U.int i)
        | false => getD (r.map fun p => ((.inr p.1 : Ky), U.int p.2)) (.inr w)) = Option.map U.int (match eqN k w with
        | true => some i
        | false => lookM r w)
      cases eqN k w with
      | true => rfl
      | false => exact ih
  exact key l_SIZES
theorem in_sz (g : h.get D = some (.dic szD)) : opInA false (.str w) (.ref D) h = some (.bl (sz w).isSome, h) := by
  show (match h.get D with
    | some (.dic kvs) => match toKey (.str w) with
      | some k => some (U.bl (false != (getD kvs k).isSome), h)
      | none => none
    | _ => if false = true then opNotIn (.str w) (.ref D) h else opIn (.str w) (.ref D) h) = _
  rw [g]
  show some (U.bl (false != (getD szD (.inr w)).isSome), h) = _
  rw [getD_sz, Option.isSome_map, look_some]
  simp
theorem ix_sz {k : Nat} (g : h.get D = some (.dic szD)) (e : sz w = some k) : opIxA (.ref D) (.str w) h = some (.int (k : Int), h) := opIxA_dic g (by rw [getD_sz, look_of e]; rfl)
theorem le_word : opEq (leU l) (.str wordW) h = some (.bl (decide (l = .word)), h) := by cases l <;> rfl
theorem le_0 : opEq (leU l) (.int 0) h = some (.bl (decide (l = .need 0)), h) := by
  cases l with
  | word => rfl
  | tup => rfl
  | need k =>
    show some (U.bl (eqZ k 0), h) = _
    rw [eqZ_dec]
    congr 2
    simp
theorem ne_0 : opNe (leU l) (.int 0) h = some (.bl (decide (l ≠ .need 0)), h) := by
  cases l with
  | word => rfl
  | tup => rfl
  | need k =>
    show some (U.bl (!eqZ k 0), h) = _
    rw [eqZ_dec]
    congr 2
    simp
theorem ne_non : opNe (leU l) .non h = some (.bl (decide (l ≠ .tup)), h) := by cases l <;> rfl
theorem isNon_le : isNon (leU l) = decide (l = .tup) := by cases l <;> rfl
theorem ixN_last {α : Type} {xs : List α} {u : α} : ixN (xs ++ [u]).length (-1) = some xs.length := by
  have : (-1 + ((xs ++ [u]).length : Int)).toNat = xs.length := by
    rw [List.length_append]
    simp
    omega
  simp only [ixN]
  rw [if_neg (by omega), if_pos (by rw [List.length_append]; simp; omega)]
  rw [this]
theorem put_last {xs : List U} {u v : U} (g : h.get L = some (.lst (xs ++ [u]))) : opPut (.ref L) (.int (-1)) v h = some (h.put L (.lst (xs ++ [v]))) := by
  unfold opPut
  simp only [g, ixN_last]
  simp
theorem cut_last {α : Type} {xs : List α} {u : α} : cut (xs ++ [u]) none (some (-1)) = xs := by
  have e : HT.sIx (xs ++ [u]).length (xs ++ [u]).length (some (-1)) = xs.length := by
    show (if (-1 : Int) < 0 then ((-1 : Int) + ((xs ++ [u]).length : Int)).toNat else min (-1 : Int).toNat (xs ++ [u]).length) = _
    rw [if_pos (by omega), List.length_append]
    simp
    omega
  unfold cut
  rw [e]
  show List.take (xs.length - 0) (List.drop 0 (xs ++ [u])) = xs
  simp
theorem opSl_lst {xs : List U} {lo hi : Option Int} (g : h.get L = some (.lst xs)) : opSl (.ref L) lo hi h = some (.ref h.n, h.new (.lst (cut xs lo hi))) := by
  simp only [opSl, g]
def fbody (M : Nat → FM) : SM := (mSeq (mIfS (mAnd (mT (mBin (opEq) (mVar 2) (mLst mNil))) (mT (mBin (opGt) (mVar 3) (mC (.int 0))))) (mRet (mVar 3)) mNx) (mIfS (mOr (mT (mBin (opEq) (mVar 3) (mC (.int 0)))) (mT (mBin (opEq) (mBin opIxA (mVar 2) (mNeg (mC (.int 1)))) (mC (.str [119, 111, 114, 100]))))) (mSeq (mAsg (mIf (mT (mBin (opEq) (mVar 3) (mC (.int 0)))) (mBin (opEq) (mVar 4) (mC (.str [91]))) (mBin (opInA false) (mVar 4) (mVar 1))) (gN 5)) (mSeq (mIfS (mNot (mT (mVar 5))) (mRet (mVar 3)) mNx) (mAsg (mIf (mT (mBin (opEq) (mVar 3) (mC (.int 0)))) (mLst (mCons (mC (.str [119, 111, 114, 100])) mNil)) (mBin opAdd (mSlice (mVar 2) mNoP (mPart (mNeg (mC (.int 1))))) (mLst (mCons (mBin opIxA (mVar 1) (mVar 4)) mNil)))) (gN 2)))) (mIfS (mOr (mT (mBin (opEq) (mVar 4) (mC (.str [41])))) (mT (mBin (opEq) (mVar 4) (mC (.str [93]))))) (mSeq (mIfS (mT (mBin (opNe) (mBin opIxA (mVar 2) (mNeg (mC (.int 1)))) (mIf (mT (mBin (opEq) (mVar 4) (mC (.str [41])))) (mC .non) (mC (.int 0))))) (mRet (mVar 3)) mNx) (mEx (mMetB isLstU fPop (mVar 2) mNil))) (mSeq (mIfS (mOr (mT (mBin (opEq) (mBin opIxA (mVar 2) (mNeg (mC (.int 1)))) (mC (.int 0)))) (mAnd (mT (mBin (opInA true) (mVar 4) (mTup (mCons (mC (.str [40])) (mCons (mC (.str [91])) mNil))))) (mNot (mT (mCall (M 37) (mCons (mVar 4) mNil)))))) (mRet (mVar 3)) mNx) (mSeq (mAsg (mIf (mT (mBin (opIsN) (mBin opIxA (mVar 2) (mNeg (mC (.int 1)))) (mC .non))) (mC .non) (mBin opSub (mBin opIxA (mVar 2) (mNeg (mC (.int 1)))) (mC (.int 1)))) (gSubU (mVar 2) (mNeg (mC (.int 1))))) (mAsg (mBin opAdd (mVar 2) (mIf (mT (mBin (opEq) (mVar 4) (mC (.str [40])))) (mLst (mCons (mC .non) mNil)) (mIf (mT (mBin (opEq) (mVar 4) (mC (.str [91])))) (mLst (mCons (mC (.str [119, 111, 114, 100])) mNil)) (mLst mNil)))) (gN 2)))))))
theorem fault_is (M : Nat → FM) : b__law_fault M = (mSeq (mPar 1 2 (mCons (mCall (M 36) mNil) (mCons (mLst mNil) mNil))) (mSeq (mForE (mEnumI (mCons (mVar 0) mNil)) (gT 2 (gCons (gN 3) (gCons (gN 4) gNil))) (fbody M) fu) (mRet (mIf (mT (mBin (opNe) (mVar 2) (mLst mNil))) (mCallB fLen (mCons (mVar 0) mNil)) (mC .non))))) := rfl
/-- the state of the loop -/
structure Fst (b W D : Nat) (ws : List Wo) (line : List LE) (L : Nat) (h : Hs) : Prop where
  wf : h.wf
  gW : h.get W = some (.lst (ws.map U.str))
  gD : h.get D = some (.dic szD)
  gL : h.get L = some (.lst (line.reverse.map leU))
  w : W < b
  d : b ≤ D
  l : D < L
  len : line.length ≤ 100000
variable {b W : Nat} {ws : List Wo} {line ls : List LE}
/-- a new line -/
theorem Fst.fresh (F : Fst b W D ws line L h) {line' : List LE} {h1 : Hs} (F1 : Fr nX h h1) (hl : line'.length ≤ 100000) : Fst b W D ws line' h1.n (h1.new (.lst (line'.reverse.map leU))) ∧ Fr nX h (h1.new (.lst (line'.reverse.map leU))) := by
  have F2 : Fr nX h (h1.new (.lst (line'.reverse.map leU))) := F1.trans (Fr.new F1.wf)
  have := get_lt F1.wf (F1.gets F.gD)
  exact ⟨⟨F2.wf, F2.gets F.gW, F2.gets F.gD, Hs.get_new_same F1.wf, F.w, F.d, this, hl⟩, F2⟩
/-- the line is changed in place -/
theorem Fst.write (F : Fst b W D ws line L h) {line' : List LE} (hl : line'.length ≤ 100000) : Fst b W D ws line' L (h.put L (.lst (line'.reverse.map leU))) ∧ Fr (fun i => b ≤ i) h (h.put L (.lst (line'.reverse.map leU))) := by
  have i1 := get_lt F.wf F.gL
  have := F.w
  have := F.d
  have := F.l
  exact ⟨⟨Hs.wf_put F.wf i1, by rw [Hs.get_put_ne F.wf i1 (by omega)]; exact F.gW, by rw [Hs.get_put_ne F.wf i1 (by omega)]; exact F.gD, Hs.get_put_same F.wf i1, F.w, F.d, F.l, hl⟩, Fr.put F.wf i1 (by show b ≤ L; omega)⟩
theorem Fst.fr (F : Fst b W D ws line L h) {h1 : Hs} (F1 : Fr nX h h1) : Fst b W D ws line L h1 := ⟨F1.wf, F1.gets F.gW, F1.gets F.gD, F1.gets F.gL, F.w, F.d, F.l, F.len⟩
theorem Fst.top (F : Fst b W D ws (l :: ls) L h) : opIxA (.ref L) (.int (-1)) h = some (leU l, h) := by
  have g := F.gL
  rw [List.reverse_cons, List.map_append] at g
  exact opIxA_last g
/-- the first test -/
theorem Fst.test1 (F : Fst b W D ws line L h) {j : Nat} {a c d e : Option U} : (mAnd (mT (mBin (opEq) (mVar 2) (mLst mNil))) (mT (mBin (opGt) (mVar 3) (mC (.int 0))))) [a, c, some (.ref L), some (.int (j : Int)), d, e] h = .ok (line.isEmpty && decide (0 < j)) (h.new (.lst [])) ∧ Fst b W D ws line L (h.new (.lst [])) ∧ Fr nX h (h.new (.lst [])) := by
  have F1 : Fr nX h (h.new (.lst [])) := Fr.new F.wf
  have oe := opEq_nil (F1.gets F.gL) (Hs.get_new_same (o := .lst []) F.wf)
  have em : (line.reverse.map leU).isEmpty = line.isEmpty := by
    cases line with
    | nil => rfl
    | cons x y =>
      rw [List.reverse_cons, List.map_append]
      cases List.map leU y.reverse <;> rfl
  rw [em] at oe
  refine ⟨?_, F.fr F1, F1⟩
  simp only [e_and, e_T, e_bin, var2, bind_ok, e_lst, e_nil, mkL_0, oe, of_some, bl_ok]
  cases line.isEmpty with
  | false => rfl
  | true =>
    simp only [ite_t, e_T, e_bin, var3, bind_ok, e_c, opGt_int, of_some, bl_ok, Bool.true_and]
    congr 1
    simp
end
end K89

set_option Elab.async false
set_option linter.all false
set_option maxRecDepth 100000
set_option maxHeartbeats 4000000
/-! _law_fault: a turn, the loop. -/
namespace K89
open PySem PySem.Spec PyProof.Rows L2 Sm
/-- one turn, at a word that is not the first -/
def ftC (w : Wo) (l : LE) (ls : List LE) : Option (List LE) :=
    if l = .word then match sz w with
      | none => none
      | some k => some (.need k :: ls)
    else if w = [41] ∨ w = [93] then
      if l ≠ (if w = [41] then .tup else .need 0) then none else some ls
    else if l = .need 0 ∨ (w ≠ [40] ∧ w ≠ [91] ∧ lawPlain w = false) then none
    else some ((if w = [40] then [.tup] else if w = [91] then [.word] else []) ++ l.dec :: ls)
def ftS (w : Wo) : List LE → Option (List LE)
  | [] => none
  | l :: ls => ftC w l ls
theorem ftGo_c {w : Wo} {rest : List Wo} {at_ : Nat} {l : LE} {ls : List LE} : ftGo (w :: rest) at_ (l :: ls) = if l = .word then (match sz w with
      | none => some at_
      | some k => ftGo rest (at_ + 1) (.need k :: ls))
    else if w = [41] ∨ w = [93] then
      if l ≠ (if w = [41] then .tup else .need 0) then some at_ else ftGo rest (at_ + 1) ls
    else if l = .need 0 ∨ (w ≠ [40] ∧ w ≠ [91] ∧ lawPlain w = false) then some at_
    else ftGo rest (at_ + 1) ((if w = [40] then [.tup] else if w = [91] then [.word] else []) ++ l.dec :: ls) := by
  rw [ftGo] <;> rfl
def ftK (rest : List Wo) (at_ : Nat) : Option (List LE) → Option Nat
  | none => some at_
  | some line' => ftGo rest (at_ + 1) line'
theorem ftGo_S {w : Wo} {rest : List Wo} {at_ : Nat} {line : List LE} : ftGo (w :: rest) at_ line = ftK rest at_ (ftS w line) := by
  cases line with
  | nil => rfl
  | cons l ls =>
    rw [ftGo_c]
    show _ = ftK rest at_ (ftC w l ls)
    unfold ftC
    by_cases h1 : l = .word
    · simp only [if_pos h1]
      cases sz w <;> rfl
    · simp only [if_neg h1]
      by_cases h2 : w = [41] ∨ w = [93]
      · simp only [if_pos h2]
        by_cases h3 : l ≠ (if w = [41] then LE.tup else .need 0)
        · simp only [if_pos h3]
          rfl
        · simp only [if_neg h3]
          rfl
      · simp only [if_neg h2]
        by_cases h3 : l = .need 0 ∨ (w ≠ [40] ∧ w ≠ [91] ∧ lawPlain w = false)
        · simp only [if_pos h3]
          rfl
        · simp only [if_neg h3]
          rfl
theorem ftS_len {w : Wo} {line line' : List LE} (h : ftS w line = some line') : line'.length ≤ line.length + 1 := by
  cases line with
  | nil => cases h
  | cons l ls =>
    have h : ftC w l ls = some line' := h
    unfold ftC at h
    by_cases h1 : l = .word
    · rw [if_pos h1] at h
      cases e : sz w with
      | none => rw [e] at h; cases h
      | some k => rw [e] at h; cases h; simp
    · rw [if_neg h1] at h
      by_cases h2 : w = [41] ∨ w = [93]
      · rw [if_pos h2] at h
        by_cases h3 : l ≠ (if w = [41] then LE.tup else .need 0)
        · rw [if_pos h3] at h; cases h
        · rw [if_neg h3] at h; cases h; simp; omega
      · rw [if_neg h2] at h
        by_cases h3 : l = .need 0 ∨ (w ≠ [40] ∧ w ≠ [91] ∧ lawPlain w = false)
        · rw [if_pos h3] at h; cases h
        · rw [if_neg h3] at h
          cases h
          by_cases h4 : w = [40]
          · rw [if_pos h4]; simp
          · rw [if_neg h4]
            by_cases h5 : w = [91]
            · rw [if_pos h5]; simp
            · rw [if_neg h5]; simp
def fOut (b W D : Nat) (ws : List Wo) (j : Nat) (w : Wo) (h : Hs) (x : RS) : Option (List LE) → Prop
  | none => ∃ h', x = .rt (.int (j : Int)) h' ∧ Fr (fun i => b ≤ i) h h'
  | some line' => ∃ L' c' h', x = .nx [some (.ref W), some (.ref D), some (.ref L'), some (.int (j : Int)), some (.str w), c'] h' ∧ Fst b W D ws line' L' h' ∧ Fr (fun i => b ≤ i) h h'
section
variable {k j b W D L : Nat} {h : Hs} {ws : List Wo} {line ls : List LE} {l : LE} {w : Wo} {c : Option U}
/-- the first word -/
theorem turn_0 (F : Fst b W D ws [] L h) : fOut b W D ws 0 w h (fbody (fam (k + 1)) [some (.ref W), some (.ref D), some (.ref L), some (.int 0), some (.str w), c] h) (if w = [91] then some [.word] else none) := by
  obtain ⟨t1, F1, X1⟩ := F.test1 (j := 0) (a := some (.ref W)) (c := some (.ref D)) (d := some (.str w)) (e := c)
  have e0 : (([] : List LE).isEmpty && decide (0 < 0)) = false := rfl
  rw [e0] at t1
  have t1' : (mAnd (mT (mBin (opEq) (mVar 2) (mLst mNil))) (mT (mBin (opGt) (mVar 3) (mC (.int 0))))) [some (.ref W), some (.ref D), some (.ref L), some (.int 0), some (.str w), c] h = .ok false (h.new (.lst [])) := t1
  generalize h.new (.lst []) = h1 at *
  have z0 : eqZ 0 0 = true := rfl
  obtain ⟨F2, X2⟩ := F1.fresh (line' := [.word]) (Fr.refl F1.wf) (by simp)
  have f2 : h1.new (.lst ([LE.word].reverse.map leU)) = h1.new (.lst [.str wordW]) := rfl
  rw [f2] at F2 X2
  have pre : fbody (fam (k + 1)) [some (.ref W), some (.ref D), some (.ref L), some (.int 0), some (.str w), c] h = if w = [91] then .nx [some (.ref W), some (.ref D), some (.ref h1.n), some (.int 0), some (.str w), some (.bl true)] (h1.new (.lst [.str wordW])) else .rt (.int 0) h1 := by
    unfold fbody
    rw [e_seq, e_ifS, t1']
    simp only [tst_f, e_nx, seq_nx, e_ifS, e_or, e_T, e_bin, var3, bind_ok, e_c, opEq_int, z0, of_some, bl_ok, ite_t, tst_t, e_seq, e_asg, e_if, var4, opEq_str, st_ok, gN5, asgd_some, e_not, var5, eqN_dec]
    by_cases hw : w = [91]
    · rw [if_pos hw, decide_eq_true hw]
      simp only [Bool.not_true, tst_f, e_nx, seq_nx, e_if, e_asg, e_T, e_bin, var3, bind_ok, e_c, opEq_int, z0, of_some, bl_ok, ite_t, e_lst, e_cons, e_nil, mkL_1, st_ok, gN2, asgd_some]
      rfl
    · rw [if_neg hw, decide_eq_false hw]
      simp only [Bool.not_false, tst_t, e_ret, var3, st_ok, seq_rt]
  rw [pre]
  by_cases hw : w = [91]
  · rw [if_pos hw, if_pos hw]
    exact ⟨_, _, _, rfl, F2, (X1.trans X2).up⟩
  · rw [if_neg hw, if_neg hw]
    exact ⟨h1, rfl, X1.up⟩
/-- nothing is open -/
theorem turn_nil (F : Fst b W D ws [] L h) (hj : 0 < j) : fOut b W D ws j w h (fbody (fam (k + 1)) [some (.ref W), some (.ref D), some (.ref L), some (.int (j : Int)), some (.str w), c] h) none := by
  obtain ⟨t1, F1, X1⟩ := F.test1 (j := j) (a := some (.ref W)) (c := some (.ref D)) (d := some (.str w)) (e := c)
  have e0 : (([] : List LE).isEmpty && decide (0 < j)) = true := by rw [decide_eq_true hj]; rfl
  rw [e0] at t1
  refine ⟨_, ?_, X1.up⟩
  unfold fbody
  rw [e_seq, e_ifS, t1]
  simp only [tst_t, e_ret, var3, st_ok, seq_rt]
theorem turn_ok (F : Fst b W D ws (l :: ls) L h) (hj : 0 < j) (hlen : ls.length + 2 ≤ 100000) (hwl : w.length ≤ 1000) : fOut b W D ws j w h (fbody (fam (k + 1)) [some (.ref W), some (.ref D), some (.ref L), some (.int (j : Int)), some (.str w), c] h) (ftC w l ls) := by
  obtain ⟨t1, F1, X1⟩ := F.test1 (j := j) (a := some (.ref W)) (c := some (.ref D)) (d := some (.str w)) (e := c)
  have e0 : ((l :: ls : List LE).isEmpty && decide (0 < j)) = false := rfl
  rw [e0] at t1
  generalize h.new (.lst []) = h1 at *
  have zj : eqZ (j : Int) 0 = false := by rw [eqZ_dec]; exact decide_eq_false (by omega)
  have tp := F1.top
  have gL := F1.gL
  rw [List.reverse_cons, List.map_append] at gL
  have gL' : h1.get L = some (.lst (ls.reverse.map leU ++ [leU l])) := gL
  have lw : opEq (leU l) (.str [119, 111, 114, 100]) h1 = some (.bl (decide (l = .word)), h1) := le_word
  unfold fbody
  rw [e_seq, e_ifS, t1]
  simp only [tst_f, e_nx, seq_nx, e_ifS, e_or, e_T, e_bin, var3, bind_ok, e_c, opEq_int, zj, of_some, bl_ok, ite_f, var2, e_neg, tp, lw]
  unfold ftC
  by_cases h1w : l = .word
  · rw [if_pos h1w, decide_eq_true h1w]
    have is := in_sz (w := w) F1.gD
    have e5 : ∀ bb : Bool, (mIf (mT (mBin (opEq) (mVar 3) (mC (.int 0)))) (mBin (opEq) (mVar 4) (mC (.str [91]))) (mBin (opInA false) (mVar 4) (mVar 1))) [some (.ref W), some (.ref D), some (.ref L), some (.int (j : Int)), some (.str w), c] h1 = .ok (.bl (sz w).isSome) h1 := fun _ => by
      simp only [e_if, e_T, e_bin, var3, bind_ok, e_c, opEq_int, zj, of_some, bl_ok, ite_f, var4, var1, is]
    have e5' := e5 true
    rw [tst_t, e_seq, e_asg, e5']
    simp only [st_ok, gN5, asgd_some, seq_nx]
    cases hs : sz w with
    | none =>
      refine ⟨h1, ?_, X1.up⟩
      simp only [Option.isSome_none, e_seq, e_ifS, e_not, e_T, var5, bl_ok, bind_ok, Bool.not_false, tst_t, e_ret, var3, st_ok, seq_rt]
    | some kk =>
      have sl := opSl_lst (lo := none) (hi := some (-1)) gL'
      rw [cut_last] at sl
      have F2 : Fr nX h1 (h1.new (.lst (ls.reverse.map leU))) := Fr.new F1.wf
      have g2 := Hs.get_new_same (o := .lst (ls.reverse.map leU)) F1.wf
      have ixs := ix_sz (F2.gets F1.gD) hs
      generalize hh2 : h1.new (.lst (ls.reverse.map leU)) = h2 at *
      have F3 : Fr nX h2 (h2.new (.lst [.int (kk : Int)])) := Fr.new F2.wf
      have g3 := Hs.get_new_same (o := .lst [.int (kk : Int)]) F2.wf
      have g23 := F3.gets g2
      generalize hh3 : h2.new (.lst [.int (kk : Int)]) = h3 at *
      have ad := opAdd_lst g23 g3 (by simp; omega)
      obtain ⟨F4, X4⟩ := F1.fresh (line' := .need kk :: ls) (F2.trans F3) (by simp; omega)
      have e4 : h3.new (.lst ((LE.need kk :: ls).reverse.map leU)) = h3.new (.lst (ls.reverse.map leU ++ [.int (kk : Int)])) := by
        rw [List.reverse_cons, List.map_append]
        rfl
      rw [e4] at F4 X4
      refine ⟨_, some (.bl true), _, ?_, F4, (X1.trans X4).up⟩
      simp only [Option.isSome_some, e_seq, e_ifS, e_not, e_T, var5, bl_ok, bind_ok, Bool.not_true, tst_f, e_nx, seq_nx, e_asg, e_if, e_bin, var3, e_c, opEq_int, zj, of_some, ite_f, e_slice, var2, e_noP, e_part, e_neg, sl, hh2, e_lst, e_cons, var1, var4, ixs, e_nil, mkL_1, hh3, ad, st_ok, gN2, asgd_some]
  · rw [if_neg h1w, decide_eq_false h1w]
    rw [tst_f, e_ifS]
    have cl : (mOr (mT (mBin (opEq) (mVar 4) (mC (.str [41])))) (mT (mBin (opEq) (mVar 4) (mC (.str [93]))))) [some (.ref W), some (.ref D), some (.ref L), some (.int (j : Int)), some (.str w), c] h1 = .ok (decide (w = [41] ∨ w = [93])) h1 := by
      simp only [e_or, e_T, e_bin, var4, bind_ok, e_c, opEq_str, of_some, bl_ok, eqN_dec]
      by_cases q1 : w = [41]
      · rw [decide_eq_true q1, decide_eq_true (.inl q1)]
        rfl
      · rw [decide_eq_false q1]
        simp only [ite_f, e_T, e_bin, var4, bind_ok, e_c, opEq_str, of_some, bl_ok, eqN_dec]
        by_cases q2 : w = [93]
        · rw [decide_eq_true q2, decide_eq_true (.inr q2)]
        · rw [decide_eq_false q2, decide_eq_false (fun z => z.elim q1 q2)]
    rw [cl]
    by_cases h2 : w = [41] ∨ w = [93]
    · rw [if_pos h2, decide_eq_true h2, tst_t]
      have t3 : (mT (mBin (opNe) (mBin opIxA (mVar 2) (mNeg (mC (.int 1)))) (mIf (mT (mBin (opEq) (mVar 4) (mC (.str [41])))) (mC .non) (mC (.int 0))))) [some (.ref W), some (.ref D), some (.ref L), some (.int (j : Int)), some (.str w), c] h1 = .ok (decide (l ≠ (if w = [41] then LE.tup else .need 0))) h1 := by
        simp only [e_T, e_bin, var2, bind_ok, e_neg, e_c, tp, of_some, e_if, var4, opEq_str, bl_ok, eqN_dec]
        by_cases q1 : w = [41]
        · simp only [decide_eq_true q1, ite_t, e_c, bind_ok, ne_non, of_some, bl_ok, if_pos q1]
        · simp only [decide_eq_false q1, ite_f, e_c, bind_ok, ne_0, of_some, bl_ok, if_neg q1]
      rw [e_seq, e_ifS, t3]
      by_cases h3 : l ≠ (if w = [41] then LE.tup else .need 0)
      · rw [if_pos h3, decide_eq_true h3]
        exact ⟨h1, by simp only [tst_t, e_ret, var3, st_ok, seq_rt], X1.up⟩
      · rw [if_neg h3, decide_eq_false h3]
        obtain ⟨F4, X4⟩ := F1.write (line' := ls) (by omega)
        have pp := fPop_ok gL'
        have mb : ∀ r0 : Sm.R U, metB isLstU (.ref L) h1 r0 = r0 := fun r0 => metB_lst gL'
        refine ⟨L, c, _, ?_, F4, X1.up.trans X4⟩
        simp only [tst_f, e_nx, seq_nx, e_ex, e_metB, var2, bind_ok, mb, e_nil, pp, of_some, st_ok]
    · rw [if_neg h2, decide_eq_false h2, tst_f]
      have sub : ∀ h2, opSub (leU (.need 0)) (.int 1) h2 = some (.int (-1), h2) := fun _ => rfl
      have l0 : opEq (leU l) (.int 0) h1 = some (.bl (decide (l = .need 0)), h1) := le_0
      by_cases h0 : l = .need 0
      · have hc : l = .need 0 ∨ (w ≠ [40] ∧ w ≠ [91] ∧ lawPlain w = false) := .inl h0
        rw [if_pos hc]
        refine ⟨h1, ?_, X1.up⟩
        rw [e_seq]
        simp only [e_ifS, e_or, e_T, e_bin, var2, bind_ok, e_neg, e_c, tp, of_some, l0, decide_eq_true h0, bl_ok, ite_t, tst_t, e_ret, var3, st_ok, seq_rt]
      · -- the plain test
        have pt : ∃ hp, (mOr (mT (mBin (opEq) (mBin opIxA (mVar 2) (mNeg (mC (.int 1)))) (mC (.int 0)))) (mAnd (mT (mBin (opInA true) (mVar 4) (mTup (mCons (mC (.str [40])) (mCons (mC (.str [91])) mNil))))) (mNot (mT (mCall (fam (k + 1) 37) (mCons (mVar 4) mNil)))))) [some (.ref W), some (.ref D), some (.ref L), some (.int (j : Int)), some (.str w), c] h1 = .ok (decide (w ≠ [40] ∧ w ≠ [91] ∧ lawPlain w = false)) hp ∧ Fr nX h1 hp := by
          have ni : opInA true (.str w) (.tup [.str [40], .str [91]]) h1 = some (.bl (!(eqN [40] w || eqN [91] w)), h1) := by
            show some (U.bl (!(match eqN [40] w with
              | true => true
              | false => match eqN [91] w with
                | true => true
                | false => false)), h1) = _
            cases eqN [40] w <;> cases eqN [91] w <;> rfl
          by_cases q : w = [40] ∨ w = [91]
          · have e1 : (eqN [40] w || eqN [91] w) = true := by rcases q with rfl | rfl <;> rfl
            refine ⟨h1, ?_, Fr.refl F1.wf⟩
            rw [decide_eq_false (fun z => q.elim z.1 z.2.1)]
            simp only [e_or, e_T, e_bin, var2, bind_ok, e_neg, e_c, tp, of_some, l0, decide_eq_false h0, bl_ok, ite_f, e_and, var4, e_tup, e_cons, e_nil, mkT_2, ni, e1, Bool.not_true]
          · have e1 : (eqN [40] w || eqN [91] w) = false := by
              rw [eqN_dec, eqN_dec, decide_eq_false (fun z => q (.inl z.symm)), decide_eq_false (fun z => q (.inr z.symm))]
              rfl
            obtain ⟨hp, q1, X⟩ := law_plain_ok (n := k) (w := w) F1.wf hwl
            refine ⟨hp, ?_, X⟩
            simp only [e_or, e_T, e_bin, var2, bind_ok, e_neg, e_c, tp, of_some, l0, decide_eq_false h0, bl_ok, ite_f, e_and, var4, e_tup, e_cons, e_nil, mkT_2, ni, e1, Bool.not_false, ite_t, e_not, e_call, q1]
            congr 1
            cases lawPlain w with
            | true => simp
            | false => simp; exact ⟨fun z => q (.inl z), fun z => q (.inr z)⟩
        obtain ⟨hp, pt1, X3⟩ := pt
        rw [e_seq, e_ifS, pt1]
        have F3 := F1.fr X3
        by_cases h3 : w ≠ [40] ∧ w ≠ [91] ∧ lawPlain w = false
        · rw [if_pos (.inr h3), decide_eq_true h3]
          exact ⟨hp, by simp only [tst_t, e_ret, var3, st_ok, seq_rt], (X1.trans X3).up⟩
        · rw [if_neg (fun z => z.elim h0 h3), decide_eq_false h3]
          simp only [tst_f, e_nx, seq_nx]
          have tp3 := F3.top
          have gL3 := F3.gL
          rw [List.reverse_cons, List.map_append] at gL3
          have gL3' : hp.get L = some (.lst (ls.reverse.map leU ++ [leU l])) := gL3
          have dc : (mIf (mT (mBin (opIsN) (mBin opIxA (mVar 2) (mNeg (mC (.int 1)))) (mC .non))) (mC .non) (mBin opSub (mBin opIxA (mVar 2) (mNeg (mC (.int 1)))) (mC (.int 1)))) [some (.ref W), some (.ref D), some (.ref L), some (.int (j : Int)), some (.str w), c] hp = .ok (leU l.dec) hp := by
            simp only [e_if, e_T, e_bin, var2, bind_ok, e_neg, e_c, tp3, of_some, opIsN_non, bl_ok, isNon_le]
            cases l with
            | word => exact absurd rfl h1w
            | tup => rfl
            | need m =>
              have hm : m ≠ 0 := fun z => h0 (by rw [z])
              have : ((m : Int) - 1) = ((m - 1 : Nat) : Int) := by omega
              show (Sm.R.ok false hp).ite _ _ = _
              simp only [ite_f, e_bin, var2, bind_ok, e_neg, e_c, tp3, of_some, leU, opSub_int, LE.dec, this]
          have pl := put_last (v := leU l.dec) gL3'
          have gs : gSubU (mVar 2) (mNeg (mC (.int 1))) (leU l.dec) [some (.ref W), some (.ref D), some (.ref L), some (.int (j : Int)), some (.str w), c] hp = some ([some (.ref W), some (.ref D), some (.ref L), some (.int (j : Int)), some (.str w), c], hp.put L (.lst (ls.reverse.map leU ++ [leU l.dec]))) := by
            unfold gSubU
            simp only [var2, e_neg, e_c, bind_ok, pl]
          obtain ⟨F4, X4⟩ := F3.write (line' := l.dec :: ls) (by simp; omega)
          have e4 : hp.put L (.lst ((l.dec :: ls).reverse.map leU)) = hp.put L (.lst (ls.reverse.map leU ++ [leU l.dec])) := by
            rw [List.reverse_cons, List.map_append]
            rfl
          rw [e4] at F4 X4
          rw [e_seq, e_asg, dc]
          simp only [st_ok, gs, asgd_some, seq_nx]
          generalize hp.put L (.lst (ls.reverse.map leU ++ [leU l.dec])) = h4 at *
          -- the new end of the line
          have fin : ∀ (xs : List LE), (xs = [] ∨ ∃ x, xs = [x]) → (mIf (mT (mBin (opEq) (mVar 4) (mC (.str [40])))) (mLst (mCons (mC .non) mNil)) (mIf (mT (mBin (opEq) (mVar 4) (mC (.str [91])))) (mLst (mCons (mC (.str [119, 111, 114, 100])) mNil)) (mLst mNil))) [some (.ref W), some (.ref D), some (.ref L), some (.int (j : Int)), some (.str w), c] h4 = .ok (.ref h4.n) (h4.new (.lst (xs.map leU))) →
              fOut b W D ws j w h (mAsg (mBin opAdd (mVar 2) (mIf (mT (mBin (opEq) (mVar 4) (mC (.str [40])))) (mLst (mCons (mC .non) mNil)) (mIf (mT (mBin (opEq) (mVar 4) (mC (.str [91])))) (mLst (mCons (mC (.str [119, 111, 114, 100])) mNil)) (mLst mNil)))) (gN 2) [some (.ref W), some (.ref D), some (.ref L), some (.int (j : Int)), some (.str w), c] h4) (some (xs ++ l.dec :: ls)) := fun xs hx ex => by
            have X5 : Fr nX h4 (h4.new (.lst (xs.map leU))) := Fr.new F4.wf
            have g5 := Hs.get_new_same (o := .lst (xs.map leU)) F4.wf
            have gl5 := X5.gets F4.gL
            rw [e_asg, e_bin, var2]
            simp only [bind_ok, ex]
            generalize h4.new (.lst (xs.map leU)) = h5 at *
            have hxl : xs.length ≤ 1 := by rcases hx with rfl | ⟨x, rfl⟩ <;> simp
            have ad := opAdd_lst gl5 g5 (by simp; omega)
            obtain ⟨F6, X6⟩ := F4.fresh (line' := xs ++ l.dec :: ls) X5 (by simp; omega)
            have e6 : h5.new (.lst ((xs ++ l.dec :: ls).reverse.map leU)) = h5.new (.lst ((l.dec :: ls).reverse.map leU ++ xs.map leU)) := by
              rcases hx with rfl | ⟨x, rfl⟩ <;> simp
            rw [e6] at F6 X6
            refine ⟨_, c, _, ?_, F6, (((X1.trans X3).up.trans X4).trans X6.up)⟩
            simp only [ad, of_some, st_ok, gN2, asgd_some]
          by_cases q1 : w = [40]
          · rw [if_pos q1]
            refine fin [.tup] (.inr ⟨_, rfl⟩) ?_
            simp only [e_if, e_T, e_bin, var4, bind_ok, e_c, opEq_str, of_some, bl_ok, eqN_dec, decide_eq_true q1, ite_t, e_lst, e_cons, e_nil, mkL_1]
            rfl
          · rw [if_neg q1]
            by_cases q2 : w = [91]
            · rw [if_pos q2]
              refine fin [.word] (.inr ⟨_, rfl⟩) ?_
              simp only [e_if, e_T, e_bin, var4, bind_ok, e_c, opEq_str, of_some, bl_ok, eqN_dec, decide_eq_false q1, ite_f, decide_eq_true q2, ite_t, e_lst, e_cons, e_nil, mkL_1]
              rfl
            · rw [if_neg q2]
              refine fin [] (.inl rfl) ?_
              simp only [e_if, e_T, e_bin, var4, bind_ok, e_c, opEq_str, of_some, bl_ok, eqN_dec, decide_eq_false q1, ite_f, decide_eq_false q2, e_lst, e_nil, mkL_0]
              rfl
end
end K89

set_option Elab.async false
set_option linter.all false
set_option maxRecDepth 100000
set_option maxHeartbeats 4000000
/-! _law_fault is ft. -/
namespace K89
open PySem PySem.Spec PyProof.Rows L2 Sm
section
variable {k W : Nat} {h : Hs} {ws : List Wo}
theorem f38 {n : Nat} {u : U} : fam (n + 1) 38 [u] h = (b__law_fault (fam n) [some u, none, none, none, none, none] h).out := rfl
theorem ne_le {i j : Nat} {ls : List LE} (e : h.get i = some (.lst (ls.map leU))) (e2 : h.get j = some (.lst [])) : opNe (.ref i) (.ref j) h = some (.bl (!ls.isEmpty), h) := by
  have d1 : isD 64 h (.ref i) = true := by
    show (match h.get i with
      | some (.lst xs) => allU (isD 63 h) xs
      | _ => false) = true
    rw [e]
    exact allU_map (fun l => by cases l <;> rfl) ls
  have d2 : isD 64 h (.ref j) = true := isD_strs (ls := []) e2
  have : eqD 64 h (.ref i) (.ref j) = ls.isEmpty := by
    show (match h.get i, h.get j with
      | some (.lst xs), some (.lst ys) => all2 (eqD 63 h) xs ys
      | _, _ => false) = _
    rw [e, e2]
    cases ls <;> rfl
  unfold opNe
  rw [d1, d2, this]
  rfl
theorem enumI_lst {as : AM} {τ : Sl} {i : Nat} {xs : List U} (e : as τ h = .ok [.ref i] h) (g : h.get i = some (.lst xs)) : mEnumI as τ h = .ok (.liveE i) h := by
  unfold mEnumI
  rw [e]
  simp only [bind_ok, g]
def ftU : Option Nat → U
  | none => .non
  | some n => .int (n : Int)
theorem fault_ok (hw : h.wf) (gW : h.get W = some (.lst (ws.map U.str))) (hn : ws ≠ []) (hl : ws.length ≤ 10000) (hwl : ∀ w ∈ ws, w.length ≤ 1000) : ∃ h', fam (k + 2) 38 [.ref W] h = .ok (ftU (ft ws)) h' ∧ Fr nX h h' := by
  rw [f38, fault_is]
  have F1 : Fr nX h (h.new (.dic szD)) := Fr.new hw
  have g1 := Hs.get_new_same (o := .dic szD) hw
  have n1 : (h.new (.dic szD)).n = h.n + 1 := rfl
  generalize hh1 : h.new (.dic szD) = h1 at *
  have F2 : Fr nX h1 (h1.new (.lst [])) := Fr.new F1.wf
  have g2 := Hs.get_new_same (o := .lst []) F1.wf
  have n2 : (h1.new (.lst [])).n = h1.n + 1 := rfl
  generalize hh2 : h1.new (.lst []) = h2 at *
  have F12 := F1.trans F2
  have F0 : Fst h.n W h.n ws [] h1.n h2 := ⟨F2.wf, F12.gets gW, F2.gets g1, g2, get_lt hw gW, Nat.le_refl _, by omega, by simp⟩
  let us : List U := (ws.map U.str).mapIdx fun j u => .tup [.int (j : Nat), u]
  have hus : ∀ j : Nat, us[j]? = ((ws.map U.str)[j]?).map fun u => U.tup [.int (j : Nat), u] := fun j => List.getElem?_mapIdx
  have husl : us.length = ws.length := by simp [us]
  have loop := forI_inv (it := .liveE W) (g := gT 2 (gCons (gN 3) (gCons (gN 4) gNil))) (b := fbody (fam (k + 1))) (us := us)
    (fun j τ hx => ∃ L a c d line, τ = [some (.ref W), some (.ref h.n), some (.ref L), a, c, d] ∧ Fst h.n W h.n ws line L hx ∧ Fr (fun i => h.n ≤ i) h2 hx ∧ line.length ≤ j + 1 ∧ ((j = 0 ∧ line = []) ∨ (0 < j ∧ ftGo (ws.drop j) j line = ft ws)))
    (fun v hx => Fr (fun i => h.n ≤ i) h2 hx ∧ ∃ m : Nat, v = .int (m : Int) ∧ ft ws = some m)
    (fun j τ hx ⟨L, a, c, d, line, e, F, X, hlen, hq⟩ => by rw [at_liveE F.gW, hus])
    (fun j u τ hx eu ⟨L, a, c, d, line, e, F, X, hlen, hq⟩ => by
      rw [hus, List.getElem?_map] at eu
      obtain ⟨w, ew⟩ : ∃ w, ws[j]? = some w := by
        cases q : ws[j]? with
        | none => rw [q] at eu; cases eu
        | some w => exact ⟨w, rfl⟩
      rw [ew] at eu
      have eu2 : u = .tup [.int (j : Nat), .str w] := (Option.some.inj eu).symm
      have hj : j < ws.length := (List.getElem?_eq_some_iff.mp ew).1
      have hdr : ws.drop j = w :: ws.drop (j + 1) := by
        rw [List.drop_eq_getElem_cons hj]
        congr 1
        rw [List.getElem?_eq_getElem hj] at ew
        exact Option.some.inj ew
      have hwl' := hwl w (List.mem_of_getElem? ew)
      refine ⟨[some (.ref W), some (.ref h.n), some (.ref L), some (.int (j : Nat)), some (.str w), d], hx, by rw [e, eu2]; simp, ?_⟩
      rcases hq with ⟨rfl, rfl⟩ | ⟨hj0, hq⟩
      · have hft : ft ws = if w = [91] then ftGo (ws.drop 1) 1 [.word] else some 0 := by
          have : ws = w :: ws.drop 1 := by simpa using hdr
          rw [this]
          rfl
        have t := turn_0 (k := k) (w := w) (c := d) F
        by_cases hw9 : w = [91]
        · rw [if_pos hw9] at t hft
          obtain ⟨L', c', h', e1, F', X'⟩ := t
          exact .inl ⟨_, h', e1, L', _, _, c', [.word], rfl, F', X.trans X', by simp, .inr ⟨by omega, hft.symm⟩⟩
        · rw [if_neg hw9] at t hft
          obtain ⟨h', e1, X'⟩ := t
          exact .inr ⟨_, h', e1, X.trans X', 0, rfl, hft⟩
      · rw [hdr, ftGo_S] at hq
        have t : fOut h.n W h.n ws j w hx (fbody (fam (k + 1)) [some (.ref W), some (.ref h.n), some (.ref L), some (.int (j : Int)), some (.str w), d] hx) (ftS w line) := by
          cases line with
          | nil => exact turn_nil (k := k) F hj0
          | cons l ls => exact turn_ok (k := k) F hj0 (by simp at hlen; omega) hwl'
        cases es : ftS w line with
        | none =>
          rw [es] at t hq
          obtain ⟨h', e1, X'⟩ := t
          exact .inr ⟨_, h', e1, X.trans X', j, rfl, hq.symm⟩
        | some line' =>
          have hl2 := ftS_len es
          rw [es] at t hq
          obtain ⟨L', c', h', e1, F', X'⟩ := t
          exact .inl ⟨_, h', e1, L', _, _, c', line', rfl, F', X.trans X', by omega, .inr ⟨by omega, hq⟩⟩)
    fu 0 [some (.ref W), some (.ref h.n), some (.ref h1.n), none, none, none] h2 (by rw [husl]; unfold fu; omega) (Nat.zero_le _) ⟨h1.n, none, none, none, [], rfl, F0, Fr.refl F2.wf, by simp, .inl ⟨rfl, rfl⟩⟩
  have pre : (mSeq (mPar 1 2 (mCons (mCall (fam (k + 1) 36) mNil) (mCons (mLst mNil) mNil))) (mSeq (mForE (mEnumI (mCons (mVar 0) mNil)) (gT 2 (gCons (gN 3) (gCons (gN 4) gNil))) (fbody (fam (k + 1))) fu) (mRet (mIf (mT (mBin (opNe) (mVar 2) (mLst mNil))) (mCallB fLen (mCons (mVar 0) mNil)) (mC .non))))) [some (.ref W), none, none, none, none, none] h =
      (mForI (.liveE W) (gT 2 (gCons (gN 3) (gCons (gN 4) gNil))) (fbody (fam (k + 1))) fu 0 [some (.ref W), some (.ref h.n), some (.ref h1.n), none, none, none] h2).seq (mRet (mIf (mT (mBin (opNe) (mVar 2) (mLst mNil))) (mCallB fLen (mCons (mVar 0) mNil)) (mC .non))) := by
    rw [e_seq]
    have e36 : fam (k + 1) 36 [] h = .ok (.ref h.n) h1 := by rw [f36, hh1]
    simp only [e_par, e_cons, e_call, e_nil, bind_ok, e36, e_lst, mkL_0, hh2, st_ok]
    show (mSeq _ _ [some (.ref W), some (.ref h.n), some (.ref h1.n), none, none, none] h2) = _
    rw [e_seq, e_forE, enumI_lst (i := W) rfl F0.gW]
    rfl
  have up : ∀ {h3 : Hs}, Fr (fun i => h.n ≤ i) h2 h3 → Fr nX h h3 := fun {h3} X => by
    have : Fr (fun i => h.n ≤ i ∨ nX i) h h3 := F12.up.trans (X.mono fun i _ e => .inl e)
    exact this.from_new (Nat.le_refl _)
  rw [pre]
  rcases loop with ⟨τ', h3, e1, L, a, c, d, line, rfl, F, X, hlen, hq⟩ | ⟨v, h3, e1, X, m, rfl, hm⟩
  · rw [husl] at hq
    have hq2 : ftGo (ws.drop ws.length) ws.length line = ft ws := by
      rcases hq with ⟨z, _⟩ | ⟨_, z⟩
      · exact absurd (List.eq_nil_of_length_eq_zero z) hn
      · exact z
    rw [List.drop_length] at hq2
    have F4 : Fr nX h3 (h3.new (.lst [])) := Fr.new F.wf
    have g4 := Hs.get_new_same (o := .lst []) F.wf
    have ne := ne_le (F4.gets F.gL) g4
    have gl := fLen_lst (F4.gets F.gW)
    refine ⟨h3.new (.lst []), ?_, (up X).trans F4⟩
    rw [e1]
    have em : line.reverse.isEmpty = line.isEmpty := by cases line <;> simp
    rw [em] at ne
    simp only [seq_nx, e_ret, e_if, e_T, e_bin, var2, bind_ok, e_lst, e_nil, mkL_0, ne, of_some, bl_ok]
    cases line with
    | nil =>
      have : ft ws = none := hq2.symm
      rw [this]
      rfl
    | cons l ls =>
      have : ft ws = some ws.length := hq2.symm
      rw [this]
      simp only [List.isEmpty_cons, Bool.not_false, ite_t, e_callB, e_cons, var0, bind_ok, e_nil, gl, of_some, st_ok, out_rt, ftU, List.length_map]
  · refine ⟨h3, ?_, up X⟩
    rw [e1, hm]
    rfl
end
end K89

set_option Elab.async false
set_option linter.all false
set_option maxRecDepth 100000
set_option maxHeartbeats 4000000
/-! The draws. -/
namespace K89
open PySem PySem.Spec PyProof.Rows L2 Sm
def kScript : Wo := [115, 99, 114, 105, 112, 116]
def kSpot : Wo := [115, 112, 111, 116]
def kSeed : Wo := [115, 101, 101, 100]
def wellD (s : Nat) (spot seed : Int) : O := .dic [(.inr kScript, .ref s), (.inr kSpot, .int spot), (.inr kSeed, .int seed)]
def Well (h : Hs) (w : Nat) : Prop := ∃ s spot seed zs, h.get w = some (wellD s spot seed) ∧ 0 ≤ spot ∧ h.get s = some (.lst (zs.map U.int)) ∧ (zs : List Int).length ≤ 1000
theorem Well.fr {h h' : Hs} {w : Nat} (W : Well h w) (F : Fr nX h h') : Well h' w := by
  obtain ⟨s, a, b, zs, g1, g2, g3, g4⟩ := W
  exact ⟨s, a, b, zs, F.gets g1, g2, F.gets g3, g4⟩
/-- lists stay -/
theorem Fr.lst {h h' : Hs} {w i : Nat} {xs : List U} (W : Well h w) (F : Fr (· = w) h h') (g : h.get i = some (.lst xs)) : h'.get i = some (.lst xs) := by
  obtain ⟨s, a, b, zs, g1, g2, g3, g4⟩ := W
  refine F.get g fun e => ?_
  have e : i = w := e
  rw [e, g1] at g
  cases g
section
variable {n w : Nat} {h : Hs}
theorem f34 {u v : U} : fam (n + 1) 34 [u, v] h = (b__law_draw (fam n) [some u, some v] h).out := rfl
theorem f35 {u v : U} : fam (n + 1) 35 [u, v] h = (b__law_one (fam n) [some u, some v] h).out := rfl
theorem ixD {s : Nat} {spot seed : Int} (g : h.get w = some (wellD s spot seed)) : opIxA (.ref w) (.str [115, 99, 114, 105, 112, 116]) h = some (.ref s, h) ∧ opIxA (.ref w) (.str [115, 112, 111, 116]) h = some (.int spot, h) ∧ opIxA (.ref w) (.str [115, 101, 101, 100]) h = some (.int seed, h) :=
  ⟨opIxA_dic g rfl, opIxA_dic g rfl, opIxA_dic g rfl⟩
theorem putSpot {s : Nat} {spot seed x : Int} (g : h.get w = some (wellD s spot seed)) : opPut (.ref w) (.str [115, 112, 111, 116]) (.int x) h = some (h.put w (wellD s x seed)) := by
  unfold opPut
  simp only [g, wellD]
  rfl
theorem putSeed {s : Nat} {spot seed x : Int} (g : h.get w = some (wellD s spot seed)) : opPut (.ref w) (.str [115, 101, 101, 100]) (.int x) h = some (h.put w (wellD s spot x)) := by
  unfold opPut
  simp only [g, wellD]
  rfl
theorem gSub_ok {mo mi : EM} {τ : Sl} {a i v : U} {h1 : Hs} (e1 : mo τ h = .ok a h) (e2 : mi τ h = .ok i h) (e3 : opPut a i v h = some h1) : gSubU mo mi v τ h = some (τ, h1) := by
  unfold gSubU
  simp only [e1, e2, e3]
theorem opMod_ok {i j : Int} (hj : 0 < j) : opMod (.int i) (.int j) h = some (.int (i.fmod j), h) := by
  show pick (!(eqZ j 0)) _ h = _
  rw [eqZ_dec, decide_eq_false (by omega)]
  rfl
theorem opMul_l {i j : Int} (hs : small i = true) : opMul (.int i) (.int j) h = some (.int (i * j), h) := by
  show pick (small i || small j || _) _ h = _
  rw [hs]
  rfl
theorem opMul_r {i j : Int} (hs : small j = true) : opMul (.int i) (.int j) h = some (.int (i * j), h) := by
  show pick (small i || small j || _) _ h = _
  rw [hs, Bool.or_true]
  rfl
theorem draw_ok (hw : h.wf) (W : Well h w) {m : Int} (hm : 1 ≤ m) : ∃ (r : Nat) (h' : Hs), fam (n + 1) 34 [.ref w, .int m] h = .ok (.int (r : Int)) h' ∧ (r : Int) < m ∧ Fr (· = w) h h' ∧ Well h' w := by
  rw [f34]
  by_cases h2 : m < 2
  · refine ⟨0, h, ?_, by omega, Fr.refl hw, W⟩
    simp [b__law_draw, h2]
  · obtain ⟨s, spot, seed, zs, g1, g2, g3, g4⟩ := W
    have hwl := get_lt hw g1
    have sw : s ≠ w := fun e => by
      rw [e, g1] at g3
      cases g3
    have gs1 := gSub_ok (mo := mVar 0) (mi := mC (.str [115, 112, 111, 116])) (τ := [some (.ref w), some (.int m)]) (h := h) rfl rfl (putSpot (x := spot + 1) g1)
    have w1 := Hs.wf_put (o := wellD s (spot + 1) seed) hw hwl
    have k1 := Hs.get_put_same (o := wellD s (spot + 1) seed) hw hwl
    have k3 : (h.put w (wellD s (spot + 1) seed)).get s = some (.lst (zs.map U.int)) := by rw [Hs.get_put_ne hw hwl sw]; exact g3
    have F1 : Fr (· = w) h (h.put w (wellD s (spot + 1) seed)) := Fr.put hw hwl rfl
    have hwl1 := get_lt w1 k1
    obtain ⟨i1, i2, i3⟩ := ixD g1
    obtain ⟨j1, j2, j3⟩ := ixD k1
    have ln := fLen_lst k3
    rw [List.length_map] at ln
    have d2 : decide (m < 2) = false := decide_eq_false h2
    have hmod : ∀ x : Int, 0 ≤ x.fmod m ∧ x.fmod m < m := fun x => ⟨Int.fmod_nonneg_of_pos x (by omega), Int.fmod_lt_of_pos x (by omega)⟩
    by_cases hs : spot + 1 ≤ (zs.length : Int)
    · obtain ⟨z, ez⟩ : ∃ z, zs[spot.toNat]? = some z := ⟨zs[spot.toNat]'(by omega), List.getElem?_eq_getElem (by omega)⟩
      have ix := opIxA_lst (h := h.put w (wellD s (spot + 1) seed)) (n := spot + 1 - 1) (k := spot.toNat) (u := .int z) k3 (by omega) (by rw [List.getElem?_map, ez]; rfl)
      have dl : decide (spot + 1 ≤ (zs.length : Int)) = true := decide_eq_true hs
      refine ⟨(z.fmod m).toNat, _, ?_, by have := hmod z; omega, F1, s, spot + 1, seed, zs, k1, by omega, k3, g4⟩
      have ez2 : (((z.fmod m).toNat : Nat) : Int) = z.fmod m := Int.toNat_of_nonneg (hmod z).1
      rw [ez2]
      have fi : fInt [.int z] (h.put w (wellD s (spot + 1) seed)) = some (.int z, h.put w (wellD s (spot + 1) seed)) := rfl
      simp only [b__law_draw, e_seq, e_ifS, e_T, e_bin, var1, bind_ok, e_c, opLt_int, d2, of_some, bl_ok, tst_f, e_nx, seq_nx, e_asg, var0, i2, opAdd_int, st_ok, gs1, asgd_some, j2, e_callB, e_cons, e_nil, j1, ln, opLe_int, dl, tst_t, e_ret, opSub_int, ix, fi, opMod_ok (show 0 < m by omega), seq_rt, out_rt]
    · have dl : decide (spot + 1 ≤ (zs.length : Int)) = false := decide_eq_false hs
      have gs2 := gSub_ok (mo := mVar 0) (mi := mC (.str [115, 101, 101, 100])) (τ := [some (.ref w), some (.int m)]) (h := h.put w (wellD s (spot + 1) seed)) rfl rfl (putSeed (x := (seed * 8009 + 41117 + 31 * (spot + 1)).fmod 1000003) k1)
      have w2 := Hs.wf_put (o := wellD s (spot + 1) ((seed * 8009 + 41117 + 31 * (spot + 1)).fmod 1000003)) w1 hwl1
      have l1 := Hs.get_put_same (o := wellD s (spot + 1) ((seed * 8009 + 41117 + 31 * (spot + 1)).fmod 1000003)) w1 hwl1
      have l3 : ((h.put w (wellD s (spot + 1) seed)).put w (wellD s (spot + 1) ((seed * 8009 + 41117 + 31 * (spot + 1)).fmod 1000003))).get s = some (.lst (zs.map U.int)) := by rw [Hs.get_put_ne w1 hwl1 sw]; exact k3
      obtain ⟨m1, m2, m3⟩ := ixD l1
      refine ⟨((((seed * 8009 + 41117 + 31 * (spot + 1)).fmod 1000003).fdiv 17).fmod m).toNat, _, ?_, by have := hmod (((seed * 8009 + 41117 + 31 * (spot + 1)).fmod 1000003).fdiv 17); omega, F1.trans (Fr.put w1 hwl1 rfl), s, spot + 1, _, zs, l1, by omega, l3, g4⟩
      rw [Int.toNat_of_nonneg (hmod _).1]
      have fd : ∀ (x : Int) (hx : Hs), opFdiv (.int x) (.int 17) hx = some (.int (x.fdiv 17), hx) := fun _ _ => rfl
      simp only [b__law_draw, e_seq, e_ifS, e_T, e_bin, var1, bind_ok, e_c, opLt_int, d2, of_some, bl_ok, tst_f, e_nx, seq_nx, e_asg, var0, i2, opAdd_int, st_ok, gs1, asgd_some, j2, e_callB, e_cons, e_nil, j1, ln, opLe_int, dl, j3, opMul_r (show small 8009 = true from rfl), opMul_l (show small 31 = true from rfl), opMod_ok (show (0 : Int) < 1000003 by omega), gs2, e_ret, m3, fd, opMod_ok (show 0 < m by omega), seq_rt, out_rt]
theorem one_ok (hw : h.wf) (W : Well h w) {p : Nat} {xs : List U} (g : h.get p = some (.lst xs)) (hx : xs ≠ []) : ∃ u h', fam (n + 2) 35 [.ref w, .ref p] h = .ok u h' ∧ u ∈ xs ∧ Fr (· = w) h h' ∧ Well h' w := by
  rw [f35]
  have hl : 1 ≤ ((xs.length : Nat) : Int) := by
    cases xs with
    | nil => exact absurd rfl hx
    | cons a r => simp; omega
  obtain ⟨r, h', e1, hr, F, W'⟩ := draw_ok (n := n) hw W hl
  have g' := Fr.lst W F g
  obtain ⟨u, eu⟩ : ∃ u, xs[r]? = some u := ⟨xs[r]'(by omega), List.getElem?_eq_getElem (by omega)⟩
  have ix := opIxA_lst (n := (r : Int)) (k := r) g' rfl eu
  refine ⟨u, h', ?_, List.mem_of_getElem? eu, F, W'⟩
  simp only [b__law_one, e_ret, e_bin, var0, var1, bind_ok, e_call, e_cons, e_nil, e_callB, fLen_lst g, of_some, e1, ix, st_ok, out_rt]
end
end K89

set_option Elab.async false
set_option linter.all false
set_option maxRecDepth 100000
set_option maxHeartbeats 4000000
/-! The drawn words. -/
namespace K89
open PySem PySem.Spec PyProof.Rows L2 Sm
def plainW : List Wo := [[45], [97], [116, 46, 48], [48], [49, 50], [45, 53]]
def keysW : List Wo := l_SIZES.map (·.1)
def oddW : List Wo := [[], [40], [41], [91], [93], [45], [45, 45, 49], [45, 48], [48, 49], [65], [97], [48], [102, 111, 114, 109], [116, 111, 116, 97, 108], [110, 111, 98, 111, 100, 121], [97, 45, 98], List.replicate 401 49, List.replicate 400 57, List.replicate 101 120, List.replicate 100 120, [46]]
def Voc : List Wo := plainW ++ (keysW ++ oddW)
def goodW (w : Wo) : Bool := (lawPlain w == pl w) && (decide (w.length ≤ 1000) && (w.all (fun c => !(Nat.beq c 32)) && (!numB w || match parse w with
  | some i => decide (strI i = w) && (decide ((strI (i.natAbs : Nat)).length ≤ 400) && decide (i.natAbs.log2 < 1920))
  | none => false)))
theorem voc_good : Voc.all goodW = true := by decide +kernel
theorem voc_at {w : Wo} (h : w ∈ Voc) : lawPlain w = pl w ∧ LO w ∧ 32 ∉ w ∧ (numB w = true → (parse w).isSome = true) := by
  have g := List.all_eq_true.mp voc_good w h
  unfold goodW at g
  obtain ⟨g1, g2⟩ := Bool.and_eq_true_iff.mp g
  obtain ⟨g2, g3⟩ := Bool.and_eq_true_iff.mp g2
  obtain ⟨g3, g4⟩ := Bool.and_eq_true_iff.mp g3
  have key : numB w = true → ∃ i, parse w = some i ∧ strI i = w ∧ (strI (i.natAbs : Nat)).length ≤ 400 ∧ i.natAbs.log2 < 1920 := fun hb => by
    rw [hb] at g4
    cases e : parse w with
    | none =>
      rw [e] at g4
      cases g4
    | some i =>
      rw [e] at g4
      have g5 : (decide (strI i = w) && (decide ((strI (i.natAbs : Nat)).length ≤ 400) && decide (i.natAbs.log2 < 1920))) = true := g4
      obtain ⟨a, b⟩ := Bool.and_eq_true_iff.mp g5
      obtain ⟨b, c⟩ := Bool.and_eq_true_iff.mp b
      exact ⟨i, rfl, of_decide_eq_true a, of_decide_eq_true b, of_decide_eq_true c⟩
  refine ⟨by simpa using g1, ⟨of_decide_eq_true g2, key⟩, fun hm => ?_, fun hb => ?_⟩
  · have := List.all_eq_true.mp g3 32 hm
    cases this
  · obtain ⟨i, e, _⟩ := key hb
    rw [e]
    rfl
def Ln : Nat → Nat
  | 0 => 1
  | d + 1 => 3 + 3 * Ln d
structure Gd (d : Nat) (ws : List Wo) : Prop where
  voc : ∀ w ∈ ws, w ∈ Voc
  bd : Bd (d : Int) ws
  nt : net ws = 0
  len : ws.length ≤ Ln d
  ne : ws ≠ []
theorem Ln_pos : ∀ d, 1 ≤ Ln d
  | 0 => Nat.le_refl _
  | d + 1 => by show 1 ≤ 3 + 3 * Ln d; omega
theorem Ln_up (d : Nat) : Ln d ≤ Ln (d + 1) := by show Ln d ≤ 3 + 3 * Ln d; omega
theorem flat_ok {d : Nat} : ∀ {wss : List (List Wo)}, (∀ ws ∈ wss, Gd d ws) → (∀ w ∈ wss.flatten, w ∈ Voc) ∧ Bd (d : Int) wss.flatten ∧ net wss.flatten = 0 ∧ wss.flatten.length ≤ wss.length * Ln d
  | [], _ => ⟨fun w hw => (nomatch hw), Bd.nil (by omega), rfl, Nat.zero_le _⟩
  | ws :: r, h => by
    have g := h ws List.mem_cons_self
    obtain ⟨a, b, c, e⟩ := flat_ok (wss := r) fun x hx => h x (List.mem_cons_of_mem _ hx)
    rw [List.flatten_cons]
    refine ⟨fun w hw => ?_, g.bd.append (by rw [g.nt]; simpa using b), by rw [net_append, g.nt, c]; rfl, ?_⟩
    · rcases List.mem_append.mp hw with q | q
      · exact g.voc w q
      · exact a w q
    · have := g.len
      rw [List.length_append, List.length_cons, Nat.add_mul]
      omega
/-- words in brackets -/
theorem wrap_ok {d : Nat} {wss : List (List Wo)} (h : ∀ ws ∈ wss, Gd d ws) (hl : wss.length ≤ 3) : Gd (d + 1) ([40] :: (wss.flatten ++ [[41]])) := by
  obtain ⟨a, b, c, e⟩ := flat_ok h
  have e2 : wss.length * Ln d ≤ 3 * Ln d := Nat.mul_le_mul_right _ hl
  refine ⟨fun w hw => ?_, Bd.cons (by omega) ?_, ?_, ?_, ?_⟩
  · rcases List.mem_cons.mp hw with rfl | hw
    · decide +kernel
    · rcases List.mem_append.mp hw with q | q
      · exact a w q
      · have : w = [41] := by simpa using q
        rw [this]
        decide +kernel
  · have e1 : vd [40] = 1 := rfl
    rw [e1]
    have : (((d + 1 : Nat) : Int) - 1) = (d : Int) := by omega
    rw [this]
    refine b.append ?_
    rw [c]
    refine Bd.cons (by omega) (Bd.nil ?_)
    have : vd [41] = -1 := rfl
    omega
  · show vd [40] + net (wss.flatten ++ [[41]]) = 0
    rw [net_append, c]
    rfl
  · show (wss.flatten ++ [[41]]).length + 1 ≤ 3 + 3 * Ln d
    rw [List.length_append]
    simp only [List.length_cons, List.length_nil]
    omega
  · simp
theorem pap_ok {d k : Nat} {w : Wo} {wss : List (List Wo)} (h : ∀ ws ∈ wss, Gd d ws) (hs : sz w = some k) (hv : w ∈ Voc) (hl : wss.length ≤ 3) : Gd (d + 1) ([91] :: w :: (wss.flatten ++ [[93]])) := by
  obtain ⟨a, b, c, e⟩ := flat_ok h
  have e2 : wss.length * Ln d ≤ 3 * Ln d := Nat.mul_le_mul_right _ hl
  have v0 : vd w = 0 := vd_0 (sz_spec (by rw [hs]; simp))
  refine ⟨fun x hw => ?_, Bd.cons (by omega) (Bd.cons ?_ ?_), ?_, ?_, ?_⟩
  · rcases List.mem_cons.mp hw with rfl | hw
    · decide +kernel
    · rcases List.mem_cons.mp hw with rfl | hw
      · exact hv
      · rcases List.mem_append.mp hw with q | q
        · exact a x q
        · have : x = [93] := by simpa using q
          rw [this]
          decide +kernel
  · have e1 : vd [91] = 1 := rfl
    omega
  · have e1 : vd [91] = 1 := rfl
    rw [e1, v0]
    have : (((d + 1 : Nat) : Int) - 1 - 0) = (d : Int) := by omega
    rw [this]
    refine b.append ?_
    rw [c]
    refine Bd.cons (by omega) (Bd.nil ?_)
    have : vd [93] = -1 := rfl
    omega
  · show vd [91] + (vd w + net (wss.flatten ++ [[93]])) = 0
    rw [net_append, c, v0]
    rfl
  · show (wss.flatten ++ [[93]]).length + 1 + 1 ≤ 3 + 3 * Ln d
    rw [List.length_append]
    simp only [List.length_cons, List.length_nil]
    omega
  · simp
/-! ### lists of lists -/
theorem lists_app {h : Hs} {p : Nat} {ys : List U} : ∀ {xs : List U} {l : List (List U)}, lists h xs = some l → h.get p = some (.lst ys) → lists h (xs ++ [U.ref p]) = some (l ++ [ys])
  | [], l, e, g => by
    cases e
    show (match h.get p with
      | some (.lst ys) => match lists h [] with
        | some l => some (ys :: l)
        | none => none
      | _ => none) = _
    rw [g]
    rfl
  | x :: r, l, e, g => by
    cases x with
    | ref i =>
      have e1 : (match h.get i with
        | some (.lst ys) => match lists h r with
          | some l => some (ys :: l)
          | none => none
        | _ => none) = some l := e
      show (match h.get i with
        | some (.lst ys) => match lists h (r ++ [U.ref p]) with
          | some l => some (ys :: l)
          | none => none
        | _ => none) = _
      cases gi : h.get i with
      | none => rw [gi] at e1; cases e1
      | some o =>
        rw [gi] at e1
        cases o with
        | lst zs =>
          cases el : lists h r with
          | none =>
            simp only [el] at e1
            cases e1
          | some l2 =>
            simp only [el] at e1
            cases e1
            simp only [lists_app el g]
            rfl
        | dic _ => cases e1
        | ins _ _ => cases e1
    | _ => cases e
theorem lists_keep {h h' : Hs} (k : ∀ i xs, h.get i = some (.lst xs) → h'.get i = some (.lst xs)) : ∀ {xs : List U} {l : List (List U)}, lists h xs = some l → lists h' xs = some l
  | [], l, e => e
  | x :: r, l, e => by
    cases x with
    | ref i =>
      have e1 : (match h.get i with
        | some (.lst ys) => match lists h r with
          | some l => some (ys :: l)
          | none => none
        | _ => none) = some l := e
      show (match h'.get i with
        | some (.lst ys) => match lists h' r with
          | some l => some (ys :: l)
          | none => none
        | _ => none) = _
      cases gi : h.get i with
      | none => rw [gi] at e1; cases e1
      | some o =>
        rw [gi] at e1
        cases o with
        | lst zs =>
          cases el : lists h r with
          | none =>
            simp only [el] at e1
            cases e1
          | some l2 =>
            simp only [el] at e1
            cases e1
            simp only [k i zs gi, lists_keep k el]
        | dic _ => cases e1
        | ins _ _ => cases e1
    | _ => cases e
/-- what a draw of words promises -/
def WOk (m : FM) (d : Nat) (D : Int) : Prop := ∀ (h : Hs) (w : Nat), h.wf → Well h w → ∃ p ws h', m [.ref w, .int D] h = .ok (.ref p) h' ∧ Fr (· = w) h h' ∧ Well h' w ∧ h'.get p = some (.lst (ws.map U.str)) ∧ Gd d ws
def wstr (wss : List (List Wo)) : List (List U) := wss.map fun ws => ws.map U.str
theorem wstr_flat {wss : List (List Wo)} : (wstr wss).flatten = wss.flatten.map U.str := by
  unfold wstr
  rw [List.map_flatten]
/-- some draws -/
theorem many_ok {w c d : Nat} {h : Hs} {τ : Sl} {e : EM} (hw : h.wf) (W : Well h w) (hc : c ≤ 1000)
    (turn : ∀ j h1, h1.wf → Well h1 w → ∃ p ws h2, e ((wipeU [4] τ).set 4 (some (.int (j : Int)))) h1 = .ok (.ref p) h2 ∧ Fr (· = w) h1 h2 ∧ Well h2 w ∧ h2.get p = some (.lst (ws.map U.str)) ∧ Gd d ws) :
    ∃ rs wss h', mLcGo (.vals (upTo 0 c)) [4] (.one 4) mYes e τ fu 0 h = .ok rs h' ∧ Fr (· = w) h h' ∧ Well h' w ∧ lists h' rs = some (wstr wss) ∧ (∀ ws ∈ wss, Gd d ws) ∧ wss.length = c := by
  have upat : ∀ (c : Nat) (lo : Int) (j : Nat) (u : U), (upTo lo c)[j]? = some u → u = .int (lo + j) := fun c => by
    induction c with
    | zero => intro lo j u e; simp [Sm.upTo] at e
    | succ c ih =>
      intro lo j u e
      cases j with
      | zero =>
        have : U.int lo = u := by simpa [Sm.upTo] using e
        rw [← this]
        simp
      | succ j =>
        have := ih (lo + 1) j u (by simpa [Sm.upTo] using e)
        rw [this]
        congr 1
        omega
  have key := lcGo_inv (it := .vals (upTo 0 c)) (vs := [4]) (tg := .one 4) (t := mYes) (e := e) (τ := τ) (us := upTo 0 c)
    (fun j acc h1 => h1.wf ∧ Fr (· = w) h h1 ∧ Well h1 w ∧ ∃ wss, lists h1 acc = some (wstr wss) ∧ (∀ ws ∈ wss, Gd d ws) ∧ wss.length = j) (fun j acc h1 _ => rfl) (fun j u acc h1 eu ⟨w1, F, W1, wss, l1, g1, n1⟩ => by
    have := upat c 0 j u eu
    subst this
    obtain ⟨p, ws, h2, e2, F2, W2, gp, gd⟩ := turn j h1 w1 W1
    have ez : (0 : Int) + (j : Int) = (j : Int) := by omega
    refine ⟨_, rfl, .inl ⟨h1, .ref p, h2, rfl, by rw [ez]; exact e2, F2.wf, F.trans F2, W2, wss ++ [ws], ?_, fun x hx => ?_, by simp [n1]⟩⟩
    · have := lists_app (lists_keep (fun i xs g => Fr.lst W1 F2 g) l1) gp
      rw [this]
      simp [wstr]
    · rcases List.mem_append.mp hx with q | q
      · exact g1 x q
      · have : x = ws := by simpa using q
        rw [this]
        exact gd) fu 0 [] h (by rw [upTo_len]; unfold fu; omega) (Nat.zero_le _) ⟨hw, Fr.refl hw, W, [], rfl, fun x hx => (nomatch hx), rfl⟩
  obtain ⟨rs, h', e1, w1, F, W1, wss, l1, g1, n1⟩ := key
  rw [upTo_len] at n1
  exact ⟨rs, wss, h', e1, F, W1, by simpa using l1, g1, n1⟩
/-- sum(lists, []) -/
theorem sum_ok {h : Hs} {i z : Nat} {rs : List U} {wss : List (List Wo)} (hw : h.wf) (g : h.get i = some (.lst rs)) (gz : h.get z = some (.lst [])) (l : lists h rs = some (wstr wss)) (hl : wss.flatten.length ≤ 16777216) :
    ∃ p h', fSum [.ref i, .ref z] h = some (.ref p, h') ∧ Fr nX h h' ∧ h'.get p = some (.lst (wss.flatten.map U.str)) := by
  cases rs with
  | nil =>
    have e0 : wstr wss = [] := by
      have : some ([] : List (List U)) = some (wstr wss) := l
      exact (Option.some.inj this).symm
    have e1 : wss = [] := by
      cases wss with
      | nil => rfl
      | cons a r => cases e0
    refine ⟨z, h, ?_, Fr.refl hw, by rw [e1]; exact gz⟩
    simp only [fSum, g, gz, l, e0]
    rfl
  | cons a r =>
    refine ⟨h.n, _, ?_, Fr.new (o := .lst (wss.flatten.map U.str)) hw, Hs.get_new_same hw⟩
    simp only [fSum, g, gz, l, wstr_flat, List.nil_append, List.length_map, fits_of hl]
end K89

set_option Elab.async false
set_option linter.all false
set_option maxRecDepth 100000
set_option maxHeartbeats 4000000
/-! _law_words, _law_paper_words. -/
namespace K89
open PySem PySem.Spec PyProof.Rows L2 Sm
theorem Gd.up {d e : Nat} {ws : List Wo} (g : Gd d ws) (h : d ≤ e) : Gd e ws := ⟨g.voc, g.bd.mono (by omega), g.nt, by
  have : ∀ k, Ln d ≤ Ln (d + k) := fun k => by
    induction k with
    | zero => exact Nat.le_refl _
    | succ k ih => exact Nat.le_trans ih (Ln_up _)
  have := this (e - d)
  rw [show d + (e - d) = e by omega] at this
  exact Nat.le_trans g.len this, g.ne⟩
theorem plain_gd {w : Wo} (h : w ∈ plainW) : Gd 0 [w] := by
  have hv : ∀ w ∈ plainW, vd w = 0 ∧ w ∈ Voc := by decide +kernel
  obtain ⟨v, m⟩ := hv w h
  refine ⟨fun x hx => ?_, Bd.cons (by omega) (Bd.nil (by omega)), ?_, Nat.le_refl _, by simp⟩
  · have : x = w := by simpa using hx
    rw [this]
    exact m
  · show vd w + 0 = 0
    omega
section
variable {n w d : Nat} {h : Hs}
theorem f39 {u v : U} : fam (n + 1) 39 [u, v] h = (b__law_words (fam n) [some u, some v, none, none, none] h).out := rfl
theorem f40 {u v : U} : fam (n + 1) 40 [u, v] h = (b__law_paper_words (fam n) [some u, some v, none, none, none] h).out := rfl
/-- one plain word -/
theorem one_plain (hw : h.wf) (W : Well h w) {τ : Sl} : ∃ p ws h', (mLst (mCons (mCall (fam (n + 2) 35) (mCons (mVar 0) (mCons (mLst (mCons (mC (.str [45])) (mCons (mC (.str [97])) (mCons (mC (.str [116, 46, 48])) (mCons (mC (.str [48])) (mCons (mC (.str [49, 50])) (mCons (mC (.str [45, 53])) mNil))))))) mNil))) mNil)) (some (.ref w) :: τ) h = .ok (.ref p) h' ∧ Fr (· = w) h h' ∧ Well h' w ∧ h'.get p = some (.lst (ws.map U.str)) ∧ Gd 0 ws := by
  have F1 : Fr nX h (h.new (.lst (plainW.map U.str))) := Fr.new hw
  have g1 := Hs.get_new_same (o := .lst (plainW.map U.str)) hw
  have ml : mkL [.str [45], .str [97], .str [116, 46, 48], .str [48], .str [49, 50], .str [45, 53]] h = .ok (.ref h.n) (h.new (.lst (plainW.map U.str))) := mkL_ok (by simp)
  generalize h.new (.lst (plainW.map U.str)) = h1 at *
  obtain ⟨u, h2, e2, hu, F2, W2⟩ := one_ok (n := n) F1.wf (W.fr F1) g1 (by simp [plainW])
  obtain ⟨x, hx, rfl⟩ := List.mem_map.mp hu
  refine ⟨h2.n, [x], h2.new (.lst [.str x]), ?_, (F1.up.trans F2).trans (Fr.new F2.wf), W2.fr (Fr.new F2.wf), Hs.get_new_same F2.wf, plain_gd hx⟩
  simp only [e_lst, e_cons, e_call, var0, bind_ok, e_c, e_nil, ml, e2, mkL_1]
/-- a + sum(lists, []) + b -/
theorem around_ok {i : Nat} {rs : List U} {wss : List (List Wo)} {τ : Sl} {a : EM} {as : AM} {xs : List Wo} {y : Wo} (hw : h.wf) (W : Well h w) (ha : ∀ h1, as τ h1 = .ok (xs.map U.str) h1) (hx : xs.length ≤ 5) (g : h.get i = some (.lst rs)) (l : lists h rs = some (wstr wss)) (hl : wss.flatten.length ≤ 10000)
    (ei : ∀ h1, h1 = h.new (.lst (xs.map U.str)) → ∃ j h2, a τ h1 = .ok (.ref j) h2 ∧ Fr nX h1 h2 ∧ h2.get j = some (.lst rs) ∧ lists h2 rs = some (wstr wss)) :
    ∃ p h', (mBin opAdd (mBin opAdd (mLst as) (mCallB fSum (mCons a (mCons (mLst mNil) mNil)))) (mLst (mCons (mC (.str y)) mNil))) τ h = .ok (.ref p) h' ∧ Fr nX h h' ∧ h'.get p = some (.lst ((xs ++ (wss.flatten ++ [y])).map U.str)) := by
  have F1 : Fr nX h (h.new (.lst (xs.map U.str))) := Fr.new hw
  have g1 := Hs.get_new_same (o := .lst (xs.map U.str)) hw
  have m1 : mkL (xs.map U.str) h = .ok (.ref h.n) (h.new (.lst (xs.map U.str))) := mkL_ok (by simp; omega)
  obtain ⟨j, h2, e2, F2, gj, lj⟩ := ei _ rfl
  generalize h.new (.lst (xs.map U.str)) = h1 at *
  have F3 : Fr nX h2 (h2.new (.lst [])) := Fr.new F2.wf
  have g3 := Hs.get_new_same (o := .lst []) F2.wf
  obtain ⟨p, h4, e4, F4, g4⟩ := sum_ok (i := j) (z := h2.n) F3.wf (F3.gets gj) g3 (lists_keep (fun i xs q => F3.gets q) lj) (by omega)
  generalize hh3 : h2.new (.lst []) = h3 at *
  have g14 := ((F2.trans F3).trans F4).gets g1
  have ad := opAdd_lst g14 g4 (by rw [List.length_map, List.length_map]; omega)
  have F5 : Fr nX h4 (h4.new (.lst (xs.map U.str ++ wss.flatten.map U.str))) := Fr.new F4.wf
  have g5 := Hs.get_new_same (o := .lst (xs.map U.str ++ wss.flatten.map U.str)) F4.wf
  generalize hh5 : h4.new (.lst (xs.map U.str ++ wss.flatten.map U.str)) = h5 at *
  have F6 : Fr nX h5 (h5.new (.lst [.str y])) := Fr.new F5.wf
  have g6 := Hs.get_new_same (o := .lst [.str y]) F5.wf
  have g56 := F6.gets g5
  generalize hh6 : h5.new (.lst [.str y]) = h6 at *
  have ad2 := opAdd_lst g56 g6 (by rw [List.length_append, List.length_map, List.length_map]; simp only [List.length_cons, List.length_nil]; omega)
  refine ⟨h6.n, h6.new (.lst ((xs ++ (wss.flatten ++ [y])).map U.str)), ?_, (((((F1.trans F2).trans F3).trans F4).trans F5).trans F6).trans (Fr.new F6.wf), Hs.get_new_same F6.wf⟩
  simp only [e_bin, e_lst, ha, bind_ok, m1, e_callB, e_cons, e2, e_nil, mkL_0, hh3, e4, of_some, ad, hh5, e_c, mkL_1, hh6, ad2]
  simp
theorem words_step {D : Int} (hD : D = (d : Int)) (hn : 2 ≤ n) (hLn : 3 * Ln d ≤ 10000) (ih : d ≠ 0 → WOk (fam n 39) (d - 1) (D - 1) ∧ WOk (fam n 40) d (D - 1)) : WOk (fam (n + 1) 39) d D := by
  obtain ⟨n, rfl⟩ : ∃ m, n = m + 2 := ⟨n - 2, by omega⟩
  intro h w hw W
  have e40 := f39 (n := n + 2) (u := .ref w) (v := .int D) (h := h)
  cases d with
  | zero =>
    have hD0 : D = 0 := by omega
    subst hD0
    obtain ⟨r, h1, e1, hr, F1, W1⟩ := draw_ok (n := n + 1) hw W (m := 3) (by omega)
    obtain ⟨p, ws, h2, e2, F2, W2, g2, gd⟩ := one_plain (n := n) (τ := [some (.int 0), some (.int (r : Int)), none, none]) F1.wf W1
    have dr : decide ((r : Int) < 3) = true := decide_eq_true hr
    refine ⟨p, ws, h2, ?_, F1.trans F2, W2, g2, gd⟩
    rw [e40]
    unfold b__law_words
    rw [e_seq]
    have d0 : decide ((0 : Int) < 0) = false := by decide
    simp only [e_asg, e_call, e_cons, var0, bind_ok, e_if, e_T, e_bin, var1, e_c, opGt_int, d0, of_some, bl_ok, ite_f, e_nil, e1, st_ok, gN2, asgd_some, seq_nx]
    rw [e_seq]
    simp only [e_ifS, e_T, e_bin, var2, bind_ok, e_c, opLt_int, dr, of_some, bl_ok, tst_t]
    rw [e_ret, e2]
    rfl
  | succ d =>
    obtain ⟨ihw, ihp⟩ := ih (by omega)
    rw [Nat.add_sub_cancel] at ihw
    obtain ⟨r, h1, e1, hr, F1, W1⟩ := draw_ok (n := n + 1) hw W (m := 6) (by omega)
    have d0 : decide ((0 : Int) < D) = true := decide_eq_true (by omega)
    have pre : b__law_words (fam (n + 2)) [some (.ref w), some (.int D), none, none, none] h = (mSeq (mIfS (mT (mBin (opLt) (mVar 2) (mC (.int 3)))) (mRet (mLst (mCons (mCall (fam (n + 2) 35) (mCons (mVar 0) (mCons (mLst (mCons (mC (.str [45])) (mCons (mC (.str [97])) (mCons (mC (.str [116, 46, 48])) (mCons (mC (.str [48])) (mCons (mC (.str [49, 50])) (mCons (mC (.str [45, 53])) mNil))))))) mNil))) mNil))) mNx) (mSeq (mAsg (mLc (mRng1 (mCons (mCall (fam (n + 2) 34) (mCons (mVar 0) (mCons (mC (.int 4)) mNil))) mNil)) [4] (.one 4) mYes (mCall (fam (n + 2) 39) (mCons (mVar 0) (mCons (mBin opSub (mVar 1) (mC (.int 1))) mNil))) fu) (gN 3)) (mRet (mIf (mT (mBin (opEq) (mVar 2) (mC (.int 5)))) (mCall (fam (n + 2) 40) (mCons (mVar 0) (mCons (mBin opSub (mVar 1) (mC (.int 1))) mNil))) (mBin opAdd (mBin opAdd (mLst (mCons (mC (.str [40])) mNil)) (mCallB fSum (mCons (mVar 3) (mCons (mLst mNil) mNil)))) (mLst (mCons (mC (.str [41])) mNil))))))) [some (.ref w), some (.int D), some (.int (r : Int)), none, none] h1 := by
      unfold b__law_words
      rw [e_seq]
      simp only [e_asg, e_call, e_cons, var0, bind_ok, e_if, e_T, e_bin, var1, e_c, opGt_int, d0, of_some, bl_ok, ite_t, e_nil, e1, st_ok, gN2, asgd_some, seq_nx]
    rw [pre] at e40
    by_cases h3 : (r : Int) < 3
    · obtain ⟨p, ws, h2, e2, F2, W2, g2, gd⟩ := one_plain (n := n) (τ := [some (.int D), some (.int (r : Int)), none, none]) F1.wf W1
      refine ⟨p, ws, h2, ?_, F1.trans F2, W2, g2, gd.up (Nat.zero_le _)⟩
      rw [e40, e_seq]
      simp only [e_ifS, e_T, e_bin, var2, bind_ok, e_c, opLt_int, decide_eq_true h3, of_some, bl_ok, tst_t]
      rw [e_ret, e2]
      rfl
    · obtain ⟨c, h2, e2, hc, F2, W2⟩ := draw_ok (n := n + 1) F1.wf W1 (m := 4) (by omega)
      have sq : mRng1 (mCons (mCall (fam (n + 2) 34) (mCons (mVar 0) (mCons (mC (.int 4)) mNil))) mNil) [some (.ref w), some (.int D), some (.int (r : Int)), none, none] h1 = .ok (.vals (Sm.upTo 0 c)) h2 := seqI_rng (by simp only [e_cons, e_call, var0, bind_ok, e_c, e_nil, e2]) (by omega)
      obtain ⟨rs, wss, h3', e3, F3, W3, l3, g3, n3⟩ := many_ok (c := c) (d := d) (τ := [some (.ref w), some (.int D), some (.int (r : Int)), none, none]) (e := mCall (fam (n + 2) 39) (mCons (mVar 0) (mCons (mBin opSub (mVar 1) (mC (.int 1))) mNil))) F2.wf W2 (by omega) (fun j hx w1 Wx => by
        obtain ⟨p, ws, h2, q1, q2, q3, q4, q5⟩ := ihw hx w w1 Wx
        refine ⟨p, ws, h2, ?_, q2, q3, q4, q5⟩
        show mCall (fam (n + 2) 39) (mCons (mVar 0) (mCons (mBin opSub (mVar 1) (mC (.int 1))) mNil)) [some (.ref w), some (.int D), some (.int (r : Int)), none, some (.int (j : Int))] hx = _
        simp only [e_call, e_cons, var0, bind_ok, e_bin, var1, e_c, opSub_int, of_some, e_nil, q1])
      have hlr : rs.length ≤ 1000 := by
        have key : ∀ (rs : List U) (l : List (List U)), lists h3' rs = some l → rs.length = l.length := fun rs => by
          induction rs with
          | nil => intro l e; cases e; rfl
          | cons x r ih2 =>
            intro l e
            cases x with
            | ref i =>
              have e1 : (match h3'.get i with
                | some (.lst ys) => match lists h3' r with
                  | some l => some (ys :: l)
                  | none => none
                | _ => none) = some l := e
              cases gi : h3'.get i with
              | none => rw [gi] at e1; cases e1
              | some o =>
                rw [gi] at e1
                cases o with
                | lst zs =>
                  cases el : lists h3' r with
                  | none => simp only [el] at e1; cases e1
                  | some l2 =>
                    simp only [el] at e1
                    cases e1
                    rw [List.length_cons, List.length_cons, ih2 l2 el]
                | dic _ => cases e1
                | ins _ _ => cases e1
            | _ => cases e
        rw [key rs _ l3]
        unfold wstr
        rw [List.length_map]
        omega
      have ml : mkL rs h3' = .ok (.ref h3'.n) (h3'.new (.lst rs)) := mkL_ok (by omega)
      have F4 : Fr nX h3' (h3'.new (.lst rs)) := Fr.new F3.wf
      have g4 := Hs.get_new_same (o := .lst rs) F3.wf
      have W4 := W3.fr F4
      have l4 := lists_keep (fun i xs q => F4.gets q) l3
      generalize hh4 : h3'.new (.lst rs) = h4 at *
      have pre2 : (mSeq (mAsg (mLc (mRng1 (mCons (mCall (fam (n + 2) 34) (mCons (mVar 0) (mCons (mC (.int 4)) mNil))) mNil)) [4] (.one 4) mYes (mCall (fam (n + 2) 39) (mCons (mVar 0) (mCons (mBin opSub (mVar 1) (mC (.int 1))) mNil))) fu) (gN 3)) (mRet (mIf (mT (mBin (opEq) (mVar 2) (mC (.int 5)))) (mCall (fam (n + 2) 40) (mCons (mVar 0) (mCons (mBin opSub (mVar 1) (mC (.int 1))) mNil))) (mBin opAdd (mBin opAdd (mLst (mCons (mC (.str [40])) mNil)) (mCallB fSum (mCons (mVar 3) (mCons (mLst mNil) mNil)))) (mLst (mCons (mC (.str [41])) mNil)))))) [some (.ref w), some (.int D), some (.int (r : Int)), none, none] h1 =
          (mRet (mIf (mT (mBin (opEq) (mVar 2) (mC (.int 5)))) (mCall (fam (n + 2) 40) (mCons (mVar 0) (mCons (mBin opSub (mVar 1) (mC (.int 1))) mNil))) (mBin opAdd (mBin opAdd (mLst (mCons (mC (.str [40])) mNil)) (mCallB fSum (mCons (mVar 3) (mCons (mLst mNil) mNil)))) (mLst (mCons (mC (.str [41])) mNil))))) [some (.ref w), some (.int D), some (.int (r : Int)), some (.ref h3'.n), none] h4 := by
        rw [e_seq, e_asg, e_lc, sq]
        simp only [bind_ok, e3, lcEnd_ok, ml, st_ok, gN3, asgd_some, seq_nx]
      have pre3 := e40
      rw [e_seq] at pre3
      simp only [e_ifS, e_T, e_bin, var2, bind_ok, e_c, opLt_int, decide_eq_false h3, of_some, bl_ok, tst_f, e_nx, seq_nx] at pre3
      rw [pre2] at pre3
      rw [e_ret, e_if] at pre3
      simp only [e_T, e_bin, var2, bind_ok, e_c, opEq_int, of_some, bl_ok, eqZ_dec] at pre3
      by_cases h5 : (r : Int) = 5
      · rw [decide_eq_true h5] at pre3
        obtain ⟨p, ws, h5', q1, q2, q3, q4, q5⟩ := ihp h4 w F4.wf W4
        refine ⟨p, ws, h5', ?_, (((F1.trans F2).trans F3).trans F4.up).trans q2, q3, q4, q5⟩
        rw [pre3]
        simp only [ite_t, e_call, e_cons, var0, bind_ok, e_bin, var1, e_c, opSub_int, of_some, e_nil, q1, st_ok, out_rt]
      · rw [decide_eq_false h5] at pre3
        have gd := wrap_ok g3 (by omega)
        obtain ⟨f1, f2, f3, f4⟩ := flat_ok g3
        have hbig : wss.length * Ln d ≤ 3 * Ln d := Nat.mul_le_mul_right _ (by omega)
        have hup := Ln_up d
        have hfl : wss.flatten.length ≤ 10000 := by omega
        · obtain ⟨p, h5', a1, a2, a3⟩ := around_ok (i := h3'.n) (rs := rs) (wss := wss) (τ := [some (.ref w), some (.int D), some (.int (r : Int)), some (.ref h3'.n), none]) (a := mVar 3) (as := mCons (mC (.str [40])) mNil) (xs := [[40]]) (y := [41]) F4.wf W4 (fun h1 => rfl) (by simp) g4 l4 hfl (fun h1 e => by
            have F5 : Fr nX h4 h1 := by rw [e]; exact Fr.new F4.wf
            exact ⟨h3'.n, h1, rfl, Fr.refl F5.wf, F5.gets g4, lists_keep (fun i xs q => F5.gets q) l4⟩)
          refine ⟨p, _, h5', ?_, (((F1.trans F2).trans F3).trans F4.up).trans a2.up, W4.fr a2, a3, gd⟩
          rw [pre3]
          rw [ite_f, a1]
          rfl
/-- the same, where the lists are drawn meanwhile -/
theorem around_gen {τ : Sl} {a : EM} {as : AM} {xs : List Wo} {y : Wo} (hw : h.wf) (W : Well h w) (ha : ∀ h1, as τ h1 = .ok (xs.map U.str) h1) (hx : xs.length ≤ 5)
    (ei : ∀ h1, Fr nX h h1 → ∃ (j : Nat) (h2 : Hs) (rs : List U) (wss : List (List Wo)), a τ h1 = .ok (.ref j) h2 ∧ Fr (· = w) h1 h2 ∧ Well h2 w ∧ h2.get j = some (.lst rs) ∧ lists h2 rs = some (wstr wss) ∧ (∀ ws ∈ wss, Gd d ws) ∧ wss.length ≤ 3) (hLn : 3 * Ln d ≤ 10000) :
    ∃ (p : Nat) (h' : Hs) (wss : List (List Wo)), (mBin opAdd (mBin opAdd (mLst as) (mCallB fSum (mCons a (mCons (mLst mNil) mNil)))) (mLst (mCons (mC (.str y)) mNil))) τ h = .ok (.ref p) h' ∧ Fr (· = w) h h' ∧ Well h' w ∧ h'.get p = some (.lst ((xs ++ (wss.flatten ++ [y])).map U.str)) ∧ (∀ ws ∈ wss, Gd d ws) ∧ wss.length ≤ 3 := by
  have F1 : Fr nX h (h.new (.lst (xs.map U.str))) := Fr.new hw
  have g1 := Hs.get_new_same (o := .lst (xs.map U.str)) hw
  have m1 : mkL (xs.map U.str) h = .ok (.ref h.n) (h.new (.lst (xs.map U.str))) := mkL_ok (by simp; omega)
  obtain ⟨j, h2, rs, wss, e2, F2, W2, gj, lj, gds, hl3⟩ := ei _ F1
  have g12 := Fr.lst (W.fr F1) F2 g1
  obtain ⟨f1, f2, f3, f4⟩ := flat_ok gds
  have hbig : wss.length * Ln d ≤ 3 * Ln d := Nat.mul_le_mul_right _ hl3
  have hl : wss.flatten.length ≤ 10000 := by omega
  generalize h.new (.lst (xs.map U.str)) = h1 at *
  have F3 : Fr nX h2 (h2.new (.lst [])) := Fr.new F2.wf
  have g3 := Hs.get_new_same (o := .lst []) F2.wf
  obtain ⟨p, h4, e4, F4, g4⟩ := sum_ok (i := j) (z := h2.n) F3.wf (F3.gets gj) g3 (lists_keep (fun i xs q => F3.gets q) lj) (by omega)
  generalize hh3 : h2.new (.lst []) = h3 at *
  have g14 := (F3.trans F4).gets g12
  have ad := opAdd_lst g14 g4 (by rw [List.length_map, List.length_map]; omega)
  have F5 : Fr nX h4 (h4.new (.lst (xs.map U.str ++ wss.flatten.map U.str))) := Fr.new F4.wf
  have g5 := Hs.get_new_same (o := .lst (xs.map U.str ++ wss.flatten.map U.str)) F4.wf
  generalize hh5 : h4.new (.lst (xs.map U.str ++ wss.flatten.map U.str)) = h5 at *
  have F6 : Fr nX h5 (h5.new (.lst [.str y])) := Fr.new F5.wf
  have g6 := Hs.get_new_same (o := .lst [.str y]) F5.wf
  have g56 := F6.gets g5
  generalize hh6 : h5.new (.lst [.str y]) = h6 at *
  have ad2 := opAdd_lst g56 g6 (by rw [List.length_append, List.length_map, List.length_map]; simp only [List.length_cons, List.length_nil]; omega)
  have FZ : Fr nX h2 (h6.new (.lst ((xs ++ (wss.flatten ++ [y])).map U.str))) := (((F3.trans F4).trans F5).trans F6).trans (Fr.new F6.wf)
  refine ⟨h6.n, h6.new (.lst ((xs ++ (wss.flatten ++ [y])).map U.str)), wss, ?_, (F1.up.trans F2).trans FZ.up, W2.fr FZ, Hs.get_new_same F6.wf, gds, hl3⟩
  simp only [e_bin, e_lst, ha, bind_ok, m1, e_callB, e_cons, e2, e_nil, mkL_0, hh3, e4, of_some, ad, hh5, e_c, mkL_1, hh6, ad2]
  simp
theorem lists_len {h : Hs} : ∀ {rs : List U} {l : List (List U)}, lists h rs = some l → rs.length = l.length
  | [], l, e => by cases e; rfl
  | x :: r, l, e => by
    cases x with
    | ref i =>
      have e1 : (match h.get i with
        | some (.lst ys) => match lists h r with
          | some l => some (ys :: l)
          | none => none
        | _ => none) = some l := e
      cases gi : h.get i with
      | none => rw [gi] at e1; cases e1
      | some o =>
        rw [gi] at e1
        cases o with
        | lst zs =>
          cases el : lists h r with
          | none => simp only [el] at e1; cases e1
          | some l2 =>
            simp only [el] at e1
            cases e1
            rw [List.length_cons, List.length_cons, lists_len el]
        | dic _ => cases e1
        | ins _ _ => cases e1
    | _ => cases e
theorem sorted_keys : ∀ x ∈ sortS keysW, ∃ k, sz x = some k ∧ k ≤ 3 ∧ x ∈ Voc := by
  have : ∀ x ∈ sortS keysW, (match sz x with
    | some k => decide (k ≤ 3)
    | none => false) = true ∧ x ∈ Voc := by decide +kernel
  intro x hx
  obtain ⟨a, b⟩ := this x hx
  cases e : sz x with
  | none => rw [e] at a; cases a
  | some k =>
    rw [e] at a
    exact ⟨k, rfl, of_decide_eq_true a, b⟩
theorem paper_step {D : Int} (hn : 2 ≤ n) (hLn : 3 * Ln d ≤ 10000) (ihw : WOk (fam n 39) d D) : WOk (fam (n + 1) 40) (d + 1) D := by
  obtain ⟨n, rfl⟩ : ∃ m, n = m + 2 := ⟨n - 2, by omega⟩
  intro h w hw W
  have F1 : Fr nX h (h.new (.dic szD)) := Fr.new hw
  have g1 := Hs.get_new_same (o := .dic szD) hw
  have e36 : fam (n + 2) 36 [] h = .ok (.ref h.n) (h.new (.dic szD)) := f36
  generalize hh1 : h.new (.dic szD) = h1 at *
  have fl : fList [.ref h.n] h1 = some (.ref h1.n, h1.new (.lst (keysW.map U.str))) := by
    simp only [fList, g1]
    rfl
  have F2 : Fr nX h1 (h1.new (.lst (keysW.map U.str))) := Fr.new F1.wf
  have g2 := Hs.get_new_same (o := .lst (keysW.map U.str)) F1.wf
  generalize hh2 : h1.new (.lst (keysW.map U.str)) = h2 at *
  have fs : fSorted [.ref h1.n] h2 = some (.ref h2.n, h2.new (.lst ((sortS keysW).map U.str))) := by
    simp only [fSorted, g2, texts_map]
    rfl
  have F3 : Fr nX h2 (h2.new (.lst ((sortS keysW).map U.str))) := Fr.new F2.wf
  have g3 := Hs.get_new_same (o := .lst ((sortS keysW).map U.str)) F2.wf
  generalize hh3 : h2.new (.lst ((sortS keysW).map U.str)) = h3 at *
  have F123 := (F1.trans F2).trans F3
  obtain ⟨u, h4, e4, hu, F4, W4⟩ := one_ok (n := n) F3.wf (W.fr F123) g3 (by
    intro z
    have : (sortS keysW).length = 0 := by
      have := congrArg List.length z
      simpa using this
    exact absurd this (by decide +kernel))
  obtain ⟨x, hx, rfl⟩ := List.mem_map.mp hu
  obtain ⟨k, hk, hk3, hxv⟩ := sorted_keys x hx
  -- the sizes stand
  have gD4 : h4.get h.n = some (.dic szD) := F4.get ((F2.trans F3).gets g1) (fun e => by
    have e : h.n = w := e
    obtain ⟨s, a, b, zs, q, _⟩ := W
    have := get_lt hw q
    omega)
  obtain ⟨p, h5, wss, e5, F5, W5, g5, gds, hl3⟩ := around_gen (w := w) (d := d) (τ := [some (.ref w), some (.int D), some (.ref h.n), some (.str x), none])
    (a := mLc (mRng1 (mCons (mBin opIxA (mVar 2) (mVar 3)) mNil)) [4] (.one 4) mYes (mCall (fam (n + 2) 39) (mCons (mVar 0) (mCons (mVar 1) mNil))) fu)
    (as := mCons (mC (.str [91])) (mCons (mVar 3) mNil)) (xs := [[91], x]) (y := [93]) F4.wf W4 (fun h1 => rfl) (by simp) (fun h6 F6 => by
      have gD6 := F6.gets gD4
      have W6 := W4.fr F6
      have sq : mRng1 (mCons (mBin opIxA (mVar 2) (mVar 3)) mNil) [some (.ref w), some (.int D), some (.ref h.n), some (.str x), none] h6 = .ok (.vals (Sm.upTo 0 k)) h6 := seqI_rng (by simp only [e_cons, e_bin, var2, var3, bind_ok, ix_sz gD6 hk, of_some, e_nil]) (by omega)
      obtain ⟨rs, wss, h7, e7, F7, W7, l7, g7, n7⟩ := many_ok (c := k) (d := d) (τ := [some (.ref w), some (.int D), some (.ref h.n), some (.str x), none]) (e := mCall (fam (n + 2) 39) (mCons (mVar 0) (mCons (mVar 1) mNil))) F6.wf W6 (by omega) (fun j hx w1 Wx => by
        obtain ⟨p, ws, h2, q1, q2, q3, q4, q5⟩ := ihw hx w w1 Wx
        refine ⟨p, ws, h2, ?_, q2, q3, q4, q5⟩
        show mCall (fam (n + 2) 39) (mCons (mVar 0) (mCons (mVar 1) mNil)) [some (.ref w), some (.int D), some (.ref h.n), some (.str x), some (.int (j : Int))] hx = _
        simp only [e_call, e_cons, var0, bind_ok, var1, e_nil, q1])
      have hlr : rs.length ≤ 1000 := by
        rw [lists_len l7]
        unfold wstr
        rw [List.length_map]
        omega
      have ml : mkL rs h7 = .ok (.ref h7.n) (h7.new (.lst rs)) := mkL_ok (by omega)
      have F8 : Fr nX h7 (h7.new (.lst rs)) := Fr.new F7.wf
      refine ⟨h7.n, h7.new (.lst rs), rs, wss, ?_, F7.trans F8.up, W7.fr F8, Hs.get_new_same F7.wf, lists_keep (fun i xs q => F8.gets q) l7, g7, by omega⟩
      rw [e_lc, sq]
      simp only [bind_ok, e7, lcEnd_ok, ml]) hLn
  refine ⟨p, [91] :: x :: (wss.flatten ++ [[93]]), h5, ?_, (F123.up.trans F4).trans F5, W5, g5, pap_ok gds hk hxv hl3⟩
  rw [f40]
  unfold b__law_paper_words
  rw [e_seq]
  simp only [e_asg, e_call, e_nil, bind_ok, e36, st_ok, gN2, asgd_some, seq_nx]
  rw [e_seq]
  simp only [e_asg, e_call, e_cons, var0, var2, bind_ok, e_callB, e_nil, fl, of_some, hh2, fs, hh3, e4, st_ok, gN3, asgd_some, seq_nx]
  rw [e_ret, e5]
  rfl
theorem ln3 {d : Nat} (h : d ≤ 3) : 3 * Ln d ≤ 10000 := by
  have : ∀ d, d ≤ 3 → 3 * Ln d ≤ 10000 := by decide
  exact this d h
theorem words_all : ∀ d n : Nat, d ≤ 3 → 2 * d + 3 ≤ n → WOk (fam n 39) d (d : Int)
  | d, 0, hd, hn => by omega
  | 0, n + 1, hd, hn => words_step (n := n) rfl (by omega) (ln3 hd) (fun z => absurd rfl z)
  | d + 1, 1, hd, hn => by omega
  | d + 1, n + 2, hd, hn => words_step (n := n + 1) rfl (by omega) (ln3 hd) (fun _ => by
      have e : (((d + 1 : Nat) : Int) - 1) = (d : Int) := by omega
      rw [e]
      exact ⟨words_all d (n + 1) (by omega) (by omega), paper_step (n := n) (by omega) (ln3 (by omega)) (words_all d n (by omega) (by omega))⟩)
theorem papers_all (n : Nat) (hn : 10 ≤ n) : WOk (fam n 40) 4 3 := by
  obtain ⟨n, rfl⟩ : ∃ m, n = m + 1 := ⟨n - 1, by omega⟩
  exact paper_step (n := n) (d := 3) (by omega) (ln3 (Nat.le_refl _)) (words_all 3 n (Nat.le_refl _) (by omega))
end
end K89

set_option Elab.async false
set_option linter.all false
set_option maxRecDepth 100000
set_option maxHeartbeats 4000000
/-! The well; a text that is asked. -/
namespace K89
open PySem PySem.Spec PyProof.Rows L2 Sm
/-- the script's list -/
def Src (h : Hs) (u : U) (zs : List Int) : Prop := u = .frz (zs.map U.int) ∨ ∃ i, u = .ref i ∧ h.get i = some (.lst (zs.map U.int))
section
variable {n : Nat} {h : Hs} {u : U} {zs : List Int}
theorem Src.fr (s : Src h u zs) {h' : Hs} (F : Fr nX h h') : Src h' u zs := by
  rcases s with e | ⟨i, e, g⟩
  · exact .inl e
  · exact .inr ⟨i, e, F.gets g⟩
theorem Src.seq (s : Src h u zs) {m : EM} {τ : Sl} (em : m τ h = .ok u h) : ∃ it, mSeqI m τ h = .ok it h ∧ ∀ j : Nat, it.at j h = some (zs.map U.int)[j]? := by
  rcases s with rfl | ⟨i, rfl, g⟩
  · exact ⟨_, seqI_frz em, fun j => rfl⟩
  · exact ⟨_, seqI_lst em g, fun j => at_live g⟩
theorem Src.enum (s : Src h u zs) {as : AM} {τ : Sl} (em : as τ h = .ok [u] h) : ∃ it, mEnumI as τ h = .ok it h ∧ ∀ j : Nat, it.at j h = some (((zs.map U.int)[j]?).map fun x => .tup [.int (j : Nat), x]) := by
  rcases s with rfl | ⟨i, rfl, g⟩
  · refine ⟨.valsE (zs.map U.int), ?_, fun j => at_valsE⟩
    unfold mEnumI
    rw [em]
    rfl
  · exact ⟨_, enumI_lst em g, fun j => at_liveE g⟩
theorem f33 : fam (n + 1) 33 [u] h = (b__law_well (fam n) [some u, none, none] h).out := rfl
theorem well_ok (hw : h.wf) (s : Src h u zs) (hl : zs.length ≤ 1000) : ∃ w h', fam (n + 1) 33 [u] h = .ok (.ref w) h' ∧ Fr nX h h' ∧ Well h' w := by
  rw [f33]
  -- the numbers
  obtain ⟨it1, i1, a1⟩ := s.seq (m := mVar 0) (τ := [some u, none, none]) rfl
  have c1 := lcGo_pure (it := it1) (us := zs.map U.int) (vs := [1]) (tg := .one 1) (t := mYes) (e := mCallB fInt (mCons (mVar 1) mNil)) (τ := [some u, none, none]) (h := h) (P := fun _ => true) (F := fun u => u) a1 (fun x hx => ⟨_, rfl, rfl, fun _ => by
    obtain ⟨z, _, rfl⟩ := List.mem_map.mp hx
    rfl⟩) (f := fu) (by simp; unfold fu; omega)
  rw [List.filter_eq_self.mpr (fun _ _ => rfl), List.map_id'] at c1
  have m1 : mkL (zs.map U.int) h = .ok (.ref h.n) (h.new (.lst (zs.map U.int))) := mkL_ok (by simp; omega)
  have F1 : Fr nX h (h.new (.lst (zs.map U.int))) := Fr.new hw
  have g1 := Hs.get_new_same (o := .lst (zs.map U.int)) hw
  have s1 := s.fr F1
  have e1 : mLc (mSeqI (mVar 0)) [1] (.one 1) mYes (mCallB fInt (mCons (mVar 1) mNil)) fu [some u, none, none] h = .ok (.ref h.n) (h.new (.lst (zs.map U.int))) := by
    rw [e_lc, i1]
    simp only [bind_ok, c1, lcEnd_ok, m1]
  generalize hh1 : h.new (.lst (zs.map U.int)) = h1 at *
  -- the seed
  obtain ⟨it2, i2, a2⟩ := s1.enum (as := mCons (mVar 0) mNil) (τ := [some u, none, none]) rfl
  let us2 : List U := (zs.map U.int).mapIdx fun j x => .tup [.int (j : Nat), x]
  have hus : ∀ j : Nat, us2[j]? = ((zs.map U.int)[j]?).map fun x => U.tup [.int (j : Nat), x] := fun j => List.getElem?_mapIdx
  have husl : us2.length = zs.length := by simp [us2]
  have key := lcGo_inv (it := it2) (us := us2) (vs := [2, 1]) (tg := .many [2, 1]) (t := mYes) (e := mBin opMul (mBin opAdd (mVar 2) (mC (.int 1))) (mVar 1)) (τ := [some u, none, none]) (fun j acc hx => hx = h1 ∧ acc.length = j ∧ ∃ l : List Int, acc = l.map U.int) (fun j acc hx ⟨e, _⟩ => by rw [e, a2, hus]) (fun j x acc hx eu ⟨e, ej, l, el⟩ => by
    subst e el
    rw [hus, List.getElem?_map] at eu
    cases ez : zs[j]? with
    | none => rw [ez] at eu; cases eu
    | some z =>
      have hj : j < zs.length := (List.getElem?_eq_some_iff.mp ez).1
      rw [ez] at eu
      have ex : x = .tup [.int (j : Nat), .int z] := (Option.some.inj eu).symm
      subst ex
      have sm : small ((j : Int) + 1) = true := by
        unfold small
        have : ((j : Int) + 1).natAbs < 18446744073709551616 := by omega
        simpa [Nat.blt_eq] using this
      refine ⟨[some u, some (.int z), some (.int (j : Nat))], rfl, .inl ⟨hx, .int (((j : Int) + 1) * z), hx, rfl, ?_, rfl, by rw [List.length_append, ej]; rfl, l ++ [((j : Int) + 1) * z], by simp⟩⟩
      simp only [e_bin, var2, bind_ok, e_c, opAdd_int, of_some, var1, opMul_l sm]) fu 0 [] h1 (by rw [husl]; unfold fu; omega) (Nat.zero_le _) ⟨rfl, rfl, [], rfl⟩
  obtain ⟨ys, hx, c2, rfl, ely, l, el⟩ := key
  simp only [List.nil_append] at el ely
  subst el
  rw [husl, List.length_map] at ely
  have m2 : mkL (l.map U.int) hx = .ok (.ref hx.n) (hx.new (.lst (l.map U.int))) := mkL_ok (by simp; omega)
  have F2 : Fr nX hx (hx.new (.lst (l.map U.int))) := Fr.new F1.wf
  have g2 := Hs.get_new_same (o := .lst (l.map U.int)) F1.wf
  have e2 : mLc (mEnumI (mCons (mVar 0) mNil)) [2, 1] (.many [2, 1]) mYes (mBin opMul (mBin opAdd (mVar 2) (mC (.int 1))) (mVar 1)) fu [some u, none, none] hx = .ok (.ref hx.n) (hx.new (.lst (l.map U.int))) := by
    rw [e_lc, i2]
    simp only [bind_ok, c2, lcEnd_ok, m2]
  have fs : fSum [.ref hx.n] (hx.new (.lst (l.map U.int))) = some (.int (sumZ l), hx.new (.lst (l.map U.int))) := by
    have iu : ∀ l : List Int, intsU (l.map U.int) = some l := fun l => by
      induction l with
      | nil => rfl
      | cons i r ih =>
        show (match intsU (r.map U.int) with
          | some l => some (i :: l)
          | none => none) = _
        rw [ih]
    simp only [fSum, g2, iu]
  generalize hh2 : hx.new (.lst (l.map U.int)) = h2 at *
  have W : Well (h2.new (wellD h.n 0 (50021 + sumZ l))) h2.n := ⟨h.n, 0, _, zs, Hs.get_new_same F2.wf, Int.le_refl _, Hs.get_new_old F2.wf (F2.gets g1), hl⟩
  refine ⟨h2.n, _, ?_, (F1.trans F2).trans (Fr.new F2.wf), W⟩
  unfold b__law_well
  have dm : ∀ (p q s : EM) (τ : Sl) (hz : Hs), (mPcons p q (mPcons p q mPnil)) τ hz = (mPcons p q (mPcons p q mPnil)) τ hz := fun _ _ _ _ _ => rfl
  simp only [e_ret, mDisp, mPcons, mPnil, e_c, bind_ok, e1, e_bin, e_callB, e_cons, e2, e_nil, fs, of_some, opAdd_int]
  rfl
/-- what is heard -/
def heardU : Sum Nat T → U
  | .inl k => .tup [.str [116, 101, 120, 116], .int 0, .int (k : Int)]
  | .inr _ => .non
/-- words that can be asked -/
structure Ed (ws : List Wo) : Prop where
  voc : ∀ w ∈ ws, w ∈ Voc
  len : ws.length ≤ 5000
  ne : ws ≠ []
variable {k : Nat} {ws : List Wo} {τ : Sl} {a : EM}
theorem Ed.read (e : Ed ws) (hw : h.wf) : readEnd (rd ws) (fam (k + 29) 32 [.str (TL.joinL [32] ws)] h) h :=
  read_ok hw e.ne (by have := e.len; omega) (fun w hx => (voc_at (e.voc w hx)).2.1.1) (fun w hx => (voc_at (e.voc w hx)).2.2.1) (fun w hx => (voc_at (e.voc w hx)).2.2.2)
theorem said_ok (e : Ed ws) (hw : h.wf) (ea : a τ h = .ok (.str (TL.joinL [32] ws)) h) : ∃ h', mSaid (saidBy saidT) (mCall (fam (k + 29) 32) (mCons a mNil)) τ h = .ok (heardU (rd ws)) h' ∧ Fr nX h h' := by
  have q := e.read (k := k) hw
  have ec : mCall (fam (k + 29) 32) (mCons a mNil) τ h = fam (k + 29) 32 [.str (TL.joinL [32] ws)] h := by
    simp only [e_call, e_cons, ea, bind_ok, e_nil]
  unfold mSaid
  rw [ec]
  revert q
  cases rd ws with
  | inl j =>
    rintro ⟨h', e1, F⟩
    refine ⟨h', ?_, F⟩
    rw [e1]
    have : saidBy saidT (erx j) = some (heardU (.inl j)) := rfl
    simp only [this]
  | inr t =>
    rintro ⟨u, h', e1, v, F⟩
    exact ⟨h', by rw [e1]; rfl, F⟩
theorem heard_same {r : Sum Nat T} : opNe (heardU r) (heardU r) h = some (.bl false, h) := by
  cases r with
  | inr t => rfl
  | inl j =>
    have e1 : isD 64 h (heardU (.inl j)) = true := rfl
    have e2 : eqD 64 h (heardU (.inl j)) (heardU (.inl j)) = true := by
      show (match eqN [116, 101, 120, 116] [116, 101, 120, 116] with
        | true => (match eqZ 0 0 with
          | true => (match eqZ (j : Int) (j : Int) with
            | true => true
            | false => false)
          | false => false)
        | false => false) = true
      have z1 : eqN [116, 101, 120, 116] [116, 101, 120, 116] = true := rfl
      have z2 : eqZ 0 0 = true := rfl
      rw [z1, z2, eqZ_iff.mpr rfl]
    unfold opNe
    rw [e1, e2]
    rfl
/-- what is read is written back -/
theorem again_ok (e : Ed ws) (hw : h.wf) (ea : ∀ h1, a τ h1 = .ok (.str (TL.joinL [32] ws)) h1) (ag : agree (rd ws) none ws) : ∃ h', (mT (mBin (opNe) (mCall (fam (k + 30) 19) (mCons (mCall (fam (k + 30) 32) (mCons a mNil)) mNil)) a)) τ h = .ok false h' ∧ Fr nX h h' := by
  obtain ⟨t, et, tw, ot, w, ts, rfl⟩ := ag
  have q := e.read (k := k + 1) hw
  rw [et] at q
  obtain ⟨u, h1, e1, v, F1⟩ := q
  have hx : ∀ x ∈ (T.pap w ts).words, LO x := fun x hx => by
    rw [tw] at hx
    exact (voc_at (e.voc x hx)).2.1
  obtain ⟨h2, e2, F2⟩ := text_ok (n := k + 29) F1.wf ot v hx (by rw [tw]; have := e.len; omega) (by omega)
  rw [tw] at e2
  refine ⟨h2, ?_, F1.trans F2⟩
  have e1' : fam (k + 30) 32 [.str (TL.joinL [32] ws)] h = .ok u h1 := e1
  have e2' : fam (k + 30) 19 [u] h1 = .ok (.str (TL.joinL [32] ws)) h2 := e2
  simp only [e_T, e_bin, e_call, e_cons, ea, bind_ok, e_nil, e1', e2', opNe_str, eqN_same, of_some, bl_ok, Bool.not_true]
end
end K89

set_option Elab.async false
set_option linter.all false
set_option maxRecDepth 100000
set_option maxHeartbeats 4000000
/-! _law_deep_right. -/
namespace K89
open PySem PySem.Spec PyProof.Rows L2 Sm
def totalW : Wo := [116, 111, 116, 97, 108]
def alikeW : Wo := [97, 108, 105, 107, 101]
def deepT (m : Nat) : List Wo := (([[91], totalW] ++ (List.replicate m [[40]]).flatten) ++ (List.replicate m [[41]]).flatten) ++ [[93]]
def deepP (m : Nat) : List Wo := ((List.replicate m [[91], alikeW]).flatten ++ [[45]]) ++ (List.replicate m [[93]]).flatten
def bdB : Int → List Wo → Bool
  | k, [] => decide (0 ≤ k)
  | k, w :: r => decide (0 ≤ k) && bdB (k - vd w) r
theorem bdB_ok : ∀ {ws : List Wo} {k : Int}, bdB k ws = true → Bd k ws
  | [], k, h => Bd.nil (of_decide_eq_true h)
  | w :: r, k, h => by
    obtain ⟨a, b⟩ := Bool.and_eq_true_iff.mp (show (decide (0 ≤ k) && bdB (k - vd w) r) = true from h)
    exact Bd.cons (of_decide_eq_true a) (bdB_ok b)
def isErr (r : Sum Nat T) (n : Nat) : Bool := match r with
  | .inl k => decide (k = n)
  | .inr _ => false
theorem isErr_ok {r : Sum Nat T} {n : Nat} (h : isErr r n = true) : r = .inl n := by
  cases r with
  | inl k => rw [of_decide_eq_true (show decide (k = n) = true from h)]
  | inr t => cases h
def chk (ws : List Wo) (deep due : Nat) : Bool := if deep ≤ 20 then bdB 20 ws && (ft ws).isNone else isErr (rd ws) due
theorem chk_ok {ws : List Wo} {deep due : Nat} (e : Ed ws) (h : chk ws deep due = true) : if deep ≤ 20 then agree (rd ws) none ws else rd ws = .inl due := by
  unfold chk at h
  by_cases hd : deep ≤ 20
  · rw [if_pos hd] at h ⊢
    obtain ⟨a, b⟩ := Bool.and_eq_true_iff.mp h
    have q := rd_ft (fun w hw => (voc_at (e.voc w hw)).1) (bdB_ok a) e.ne
    cases c : ft ws with
    | none =>
      rw [c] at q
      exact q
    | some n =>
      rw [c] at b
      cases b
  · rw [if_neg hd] at h ⊢
    exact isErr_ok h
theorem chkT : ∀ m ∈ [17, 18, 19, 20, 21, 40, 1200], chk (deepT m) (m + 1) 21 = true := by decide +kernel
theorem chkP : ∀ m ∈ [18, 19, 20, 21, 30], chk (deepP m) m 40 = true := by decide +kernel
theorem rep_mem {m : Nat} {xs : List Wo} {w : Wo} (h : w ∈ (List.replicate m xs).flatten) : w ∈ xs := by
  obtain ⟨l, hl, hw⟩ := List.mem_flatten.mp h
  rw [(List.mem_replicate.mp hl).2] at hw
  exact hw
theorem rep_len {m : Nat} {xs : List Wo} : (List.replicate m xs).flatten.length = m * xs.length := by
  induction m with
  | zero => simp
  | succ m ih => rw [List.replicate_succ, List.flatten_cons, List.length_append, ih, Nat.add_mul, Nat.one_mul]; omega
theorem edT {m : Nat} (h : m ≤ 1200) : Ed (deepT m) := by
  have v : ∀ x ∈ [[91], totalW, [40], [41], [93]], x ∈ Voc := by decide +kernel
  refine ⟨fun w hw => v w ?_, ?_, by simp [deepT]⟩
  · unfold deepT at hw
    rcases List.mem_append.mp hw with hw | hw
    · rcases List.mem_append.mp hw with hw | hw
      · rcases List.mem_append.mp hw with hw | hw
        · simp at hw
          rcases hw with rfl | rfl <;> simp
        · have := rep_mem hw
          simp at this
          subst this
          simp
      · have := rep_mem hw
        simp at this
        subst this
        simp
    · simp at hw
      subst hw
      simp
  · unfold deepT
    rw [List.length_append, List.length_append, List.length_append, rep_len, rep_len]
    simp
    omega
theorem edP {m : Nat} (h : m ≤ 1000) : Ed (deepP m) := by
  have v : ∀ x ∈ [[91], alikeW, [45], [93]], x ∈ Voc := by decide +kernel
  refine ⟨fun w hw => v w ?_, ?_, by simp [deepP]⟩
  · unfold deepP at hw
    rcases List.mem_append.mp hw with hw | hw
    · rcases List.mem_append.mp hw with hw | hw
      · have := rep_mem hw
        simp at this
        rcases this with rfl | rfl <;> simp
      · simp at hw
        subst hw
        simp
    · have := rep_mem hw
      simp at this
      subst this
      simp
  · unfold deepP
    rw [List.length_append, List.length_append, rep_len, rep_len]
    simp
    omega
/-! ### lists of words, made -/
def GL (m : EM) (τ : Sl) (xs : List Wo) : Prop := ∀ h : Hs, h.wf → ∃ p h', m τ h = .ok (.ref p) h' ∧ Fr nX h h' ∧ h'.get p = some (.lst (xs.map U.str))
section
variable {a b : EM} {as : AM} {τ : Sl} {xs ys : List Wo}
theorem GL.lst (ha : ∀ h, as τ h = .ok (xs.map U.str) h) (hl : xs.length ≤ 10000) : GL (mLst as) τ xs := fun h hw => by
  refine ⟨h.n, h.new (.lst (xs.map U.str)), ?_, Fr.new hw, Hs.get_new_same hw⟩
  rw [e_lst, ha, bind_ok, mkL_ok (by simp; omega)]
theorem GL.add (ga : GL a τ xs) (gb : GL b τ ys) (hl : xs.length + ys.length ≤ 16777216) : GL (mBin opAdd a b) τ (xs ++ ys) := fun h hw => by
  obtain ⟨p, h1, e1, F1, g1⟩ := ga h hw
  obtain ⟨q, h2, e2, F2, g2⟩ := gb h1 F1.wf
  have ad := opAdd_lst (F2.gets g1) g2 (by rw [List.length_map, List.length_map]; exact hl)
  refine ⟨h2.n, h2.new (.lst ((xs ++ ys).map U.str)), ?_, (F1.trans F2).trans (Fr.new F2.wf), Hs.get_new_same F2.wf⟩
  simp only [e_bin, e1, bind_ok, e2, ad, of_some, List.map_append]
theorem GL.mul {k : Nat} (ga : GL a τ xs) (hb : ∀ h, b τ h = .ok (.int (k : Int)) h) (hk : k ≤ 10000) (hl : xs.length ≤ 100) : GL (mBin opMul a b) τ (List.replicate k xs).flatten := fun h hw => by
  obtain ⟨p, h1, e1, F1, g1⟩ := ga h hw
  have hm : xs.length * k ≤ 100 * 10000 := Nat.mul_le_mul hl hk
  have om : opMul (.ref p) (.int (k : Int)) h1 = some (.ref h1.n, h1.new (.lst ((List.replicate k xs).flatten.map U.str))) := by
    show (match h1.get p with
      | some (.lst a) => match small (k : Int) && Nat.blt (k : Int).natAbs 1000000000 && fits (a.length * (k : Int).toNat) with
        | true => some (U.ref h1.n, h1.new (.lst (List.replicate (k : Int).toNat a).flatten))
        | false => none
      | _ => none) = _
    rw [g1]
    have s1 : small (k : Int) = true := by
      unfold small
      have : (k : Int).natAbs < 18446744073709551616 := by omega
      simpa [Nat.blt_eq] using this
    have s2 : Nat.blt (k : Int).natAbs 1000000000 = true := by
      have : (k : Int).natAbs < 1000000000 := by omega
      simpa [Nat.blt_eq] using this
    simp only [s1, s2, Int.toNat_natCast, List.length_map, fits_of (show xs.length * k ≤ 16777216 by omega), Bool.and_self, List.map_flatten, List.map_replicate]
  refine ⟨h1.n, _, ?_, F1.trans (Fr.new F1.wf), Hs.get_new_same F1.wf⟩
  simp only [e_bin, e1, bind_ok, hb, om, of_some]
end
section
variable {k w : Nat} {h : Hs}
theorem f41 {n : Nat} {u : U} : fam (n + 1) 41 [u] h = (b__law_deep_right (fam n) [some u, none, none, none, none, none, none, none, none, none] h).out := rfl
def dbody (M : Nat → FM) : SM := (mSeq (mAsg (mMetB isStrU fJoin (mC (.str [32])) (mCons (mVar 5) mNil)) (gN 8)) (mSeq (mAsg (mSaid (saidBy saidT) (mCall (M 32) (mCons (mVar 8) mNil))) (gN 9)) (mIfS (mOr (mT (mBin (opNe) (mVar 9) (mIf (mT (mBin (opLe) (mVar 6) (mC (.int 20)))) (mC .non) (mTup (mCons (mC (.str [116, 101, 120, 116])) (mCons (mC (.int 0)) (mCons (mVar 7) mNil))))))) (mAnd (mT (mBin (opIsN) (mVar 9) (mC .non))) (mT (mBin (opNe) (mCall (M 19) (mCons (mCall (M 32) (mCons (mVar 8) mNil)) mNil)) (mVar 8))))) (mRet (mC (.bl false))) mNx)))
theorem deep_is (M : Nat → FM) : b__law_deep_right M = (mSeq (mPar 1 2 (mCons (mCall (M 35) (mCons (mVar 0) (mCons (mLst (mCons (mC (.int 17)) (mCons (mC (.int 18)) (mCons (mC (.int 19)) (mCons (mC (.int 20)) (mCons (mC (.int 21)) (mCons (mC (.int 40)) (mCons (mC (.int 1200)) mNil)))))))) mNil))) (mCons (mCall (M 35) (mCons (mVar 0) (mCons (mLst (mCons (mC (.int 18)) (mCons (mC (.int 19)) (mCons (mC (.int 20)) (mCons (mC (.int 21)) (mCons (mC (.int 30)) mNil)))))) mNil))) mNil))) (mSeq (mAsg (mBin opAdd (mBin opAdd (mBin opAdd (mLst (mCons (mC (.str [91])) (mCons (mC (.str [116, 111, 116, 97, 108])) mNil))) (mBin opMul (mLst (mCons (mC (.str [40])) mNil)) (mVar 1))) (mBin opMul (mLst (mCons (mC (.str [41])) mNil)) (mVar 1))) (mLst (mCons (mC (.str [93])) mNil))) (gN 3)) (mSeq (mAsg (mBin opAdd (mBin opAdd (mBin opMul (mLst (mCons (mC (.str [91])) (mCons (mC (.str [97, 108, 105, 107, 101])) mNil))) (mVar 2)) (mLst (mCons (mC (.str [45])) mNil))) (mBin opMul (mLst (mCons (mC (.str [93])) mNil)) (mVar 2))) (gN 4)) (mSeq (mForE (mSeqI (mTup (mCons (mTup (mCons (mVar 3) (mCons (mBin opAdd (mVar 1) (mC (.int 1))) (mCons (mC (.int 21)) mNil)))) (mCons (mTup (mCons (mVar 4) (mCons (mVar 2) (mCons (mC (.int 40)) mNil)))) mNil)))) (gT 3 (gCons (gN 5) (gCons (gN 6) (gCons (gN 7) gNil)))) (dbody M) fu) (mRet (mC (.bl true))))))) := rfl
theorem deep_turn {ws : List Wo} {p deep due : Nat} {x0 x1 x2 x3 x4 x8 x9 : Option U} (e : Ed ws) (hw : h.wf) (g : h.get p = some (.lst (ws.map U.str))) (hc : if deep ≤ 20 then agree (rd ws) none ws else rd ws = .inl due) :
    ∃ y8 y9 h', dbody (fam (k + 30)) [x0, x1, x2, x3, x4, some (.ref p), some (.int (deep : Int)), some (.int (due : Int)), x8, x9] h = .nx [x0, x1, x2, x3, x4, some (.ref p), some (.int (deep : Int)), some (.int (due : Int)), y8, y9] h' ∧ Fr nX h h' := by
  have jo := join_ok g (by have := e.len; omega) fun w hx => (voc_at (e.voc w hx)).2.1.1
  obtain ⟨h1, s1, F1⟩ := said_ok (k := k + 1) (a := mVar 8) (τ := [x0, x1, x2, x3, x4, some (.ref p), some (.int (deep : Int)), some (.int (due : Int)), some (.str (TL.joinL [32] ws)), x9]) e hw rfl
  have s1' : mSaid (saidBy saidT) (mCall (fam (k + 30) 32) (mCons (mVar 8) mNil)) [x0, x1, x2, x3, x4, some (.ref p), some (.int (deep : Int)), some (.int (due : Int)), some (.str (TL.joinL [32] ws)), x9] h = .ok (heardU (rd ws)) h1 := s1
  have pre : dbody (fam (k + 30)) [x0, x1, x2, x3, x4, some (.ref p), some (.int (deep : Int)), some (.int (due : Int)), x8, x9] h = (mIfS (mOr (mT (mBin (opNe) (mVar 9) (mIf (mT (mBin (opLe) (mVar 6) (mC (.int 20)))) (mC .non) (mTup (mCons (mC (.str [116, 101, 120, 116])) (mCons (mC (.int 0)) (mCons (mVar 7) mNil))))))) (mAnd (mT (mBin (opIsN) (mVar 9) (mC .non))) (mT (mBin (opNe) (mCall (fam (k + 30) 19) (mCons (mCall (fam (k + 30) 32) (mCons (mVar 8) mNil)) mNil)) (mVar 8))))) (mRet (mC (.bl false))) mNx) [x0, x1, x2, x3, x4, some (.ref p), some (.int (deep : Int)), some (.int (due : Int)), some (.str (TL.joinL [32] ws)), some (heardU (rd ws))] h1 := by
    unfold dbody
    rw [e_seq]
    simp only [e_asg, e_metB, e_c, bind_ok, metB_str, e_cons, var5, e_nil, jo, of_some, st_ok, gN8, asgd_some, seq_nx]
    rw [e_seq, e_asg, s1']
    simp only [st_ok, gN9, asgd_some, seq_nx]
  by_cases hd : deep ≤ 20
  · rw [if_pos hd] at hc
    obtain ⟨h2, a2, F2⟩ := again_ok (k := k) (a := mVar 8) (τ := [x0, x1, x2, x3, x4, some (.ref p), some (.int (deep : Int)), some (.int (due : Int)), some (.str (TL.joinL [32] ws)), some (heardU (rd ws))]) e F1.wf (fun _ => rfl) hc
    obtain ⟨t, et, _⟩ := hc
    have hU : heardU (rd ws) = .non := by rw [et]; rfl
    have d20 : decide ((deep : Int) ≤ 20) = true := decide_eq_true (by omega)
    have nn : opNe .non .non h1 = some (.bl false, h1) := rfl
    refine ⟨some (.str (TL.joinL [32] ws)), some (heardU (rd ws)), h2, ?_, F1.trans F2⟩
    rw [pre, e_ifS, e_or]
    have t1 : (mT (mBin (opNe) (mVar 9) (mIf (mT (mBin (opLe) (mVar 6) (mC (.int 20)))) (mC .non) (mTup (mCons (mC (.str [116, 101, 120, 116])) (mCons (mC (.int 0)) (mCons (mVar 7) mNil))))))) [x0, x1, x2, x3, x4, some (.ref p), some (.int (deep : Int)), some (.int (due : Int)), some (.str (TL.joinL [32] ws)), some (heardU (rd ws))] h1 = .ok false h1 := by
      simp only [e_T, e_bin, var9, bind_ok, e_if, var6, e_c, opLe_int, d20, of_some, bl_ok, ite_t, hU, nn]
    rw [t1, ite_f, e_and]
    have t2 : (mT (mBin (opIsN) (mVar 9) (mC .non))) [x0, x1, x2, x3, x4, some (.ref p), some (.int (deep : Int)), some (.int (due : Int)), some (.str (TL.joinL [32] ws)), some (heardU (rd ws))] h1 = .ok true h1 := by
      simp only [e_T, e_bin, var9, bind_ok, e_c, opIsN_non, of_some, bl_ok, hU, isNon_non]
    rw [t2, ite_t, a2, tst_f, e_nx]
  · rw [if_neg hd] at hc
    have d20 : decide ((deep : Int) ≤ 20) = false := decide_eq_false (by omega)
    refine ⟨some (.str (TL.joinL [32] ws)), some (heardU (rd ws)), h1, ?_, F1⟩
    rw [pre, e_ifS, e_or]
    have ns := heard_same (r := .inl due) (h := h1)
    have t1 : (mT (mBin (opNe) (mVar 9) (mIf (mT (mBin (opLe) (mVar 6) (mC (.int 20)))) (mC .non) (mTup (mCons (mC (.str [116, 101, 120, 116])) (mCons (mC (.int 0)) (mCons (mVar 7) mNil))))))) [x0, x1, x2, x3, x4, some (.ref p), some (.int (deep : Int)), some (.int (due : Int)), some (.str (TL.joinL [32] ws)), some (heardU (rd ws))] h1 = .ok false h1 := by
      have : U.tup [.str [116, 101, 120, 116], .int 0, .int (due : Int)] = heardU (.inl due) := rfl
      simp only [e_T, e_bin, var9, bind_ok, e_if, var6, e_c, opLe_int, d20, of_some, bl_ok, ite_f, e_tup, e_cons, var7, e_nil, mkT_3, hc, this, ns]
    rw [t1, ite_f, e_and]
    have t2 : (mT (mBin (opIsN) (mVar 9) (mC .non))) [x0, x1, x2, x3, x4, some (.ref p), some (.int (deep : Int)), some (.int (due : Int)), some (.str (TL.joinL [32] ws)), some (heardU (rd ws))] h1 = .ok false h1 := by
      simp only [e_T, e_bin, var9, bind_ok, e_c, opIsN_non, of_some, bl_ok, hc]
      rfl
    rw [t2, ite_f, tst_f, e_nx]
theorem deep_ok (hw : h.wf) (W : Well h w) : ∃ h', fam (k + 31) 41 [.ref w] h = .ok (.bl true) h' ∧ Fr (· = w) h h' ∧ Well h' w := by
  rw [f41, deep_is]
  -- the two draws
  have c7 : ∀ hx : Hs, (mLst (mCons (mC (.int 17)) (mCons (mC (.int 18)) (mCons (mC (.int 19)) (mCons (mC (.int 20)) (mCons (mC (.int 21)) (mCons (mC (.int 40)) (mCons (mC (.int 1200)) mNil)))))))) [some (.ref w), none, none, none, none, none, none, none, none, none] hx = .ok (.ref hx.n) (hx.new (.lst ([17, 18, 19, 20, 21, 40, 1200].map U.int))) := fun _ => rfl
  have c5 : ∀ hx : Hs, (mLst (mCons (mC (.int 18)) (mCons (mC (.int 19)) (mCons (mC (.int 20)) (mCons (mC (.int 21)) (mCons (mC (.int 30)) mNil)))))) [some (.ref w), none, none, none, none, none, none, none, none, none] hx = .ok (.ref hx.n) (hx.new (.lst ([18, 19, 20, 21, 30].map U.int))) := fun _ => rfl
  have F1 : Fr nX h (h.new (.lst ([17, 18, 19, 20, 21, 40, 1200].map U.int))) := Fr.new hw
  obtain ⟨u, h2, e2, hu, F2, W2⟩ := one_ok (n := k + 28) F1.wf (W.fr F1) (Hs.get_new_same hw) (by simp)
  have F3 : Fr nX h2 (h2.new (.lst ([18, 19, 20, 21, 30].map U.int))) := Fr.new F2.wf
  obtain ⟨v, h4, e4, hv, F4, W4⟩ := one_ok (n := k + 28) F3.wf (W2.fr F3) (Hs.get_new_same F2.wf) (by simp)
  obtain ⟨m, hm, rfl⟩ : ∃ m : Nat, m ∈ [17, 18, 19, 20, 21, 40, 1200] ∧ u = .int (m : Int) := by
    simp only [List.map_cons, List.map_nil, List.mem_cons, List.not_mem_nil, or_false] at hu
    rcases hu with rfl | rfl | rfl | rfl | rfl | rfl | rfl
    · exact ⟨17, by simp, rfl⟩
    · exact ⟨18, by simp, rfl⟩
    · exact ⟨19, by simp, rfl⟩
    · exact ⟨20, by simp, rfl⟩
    · exact ⟨21, by simp, rfl⟩
    · exact ⟨40, by simp, rfl⟩
    · exact ⟨1200, by simp, rfl⟩
  obtain ⟨t, ht, rfl⟩ : ∃ t : Nat, t ∈ [18, 19, 20, 21, 30] ∧ v = .int (t : Int) := by
    simp only [List.map_cons, List.map_nil, List.mem_cons, List.not_mem_nil, or_false] at hv
    rcases hv with rfl | rfl | rfl | rfl | rfl
    · exact ⟨18, by simp, rfl⟩
    · exact ⟨19, by simp, rfl⟩
    · exact ⟨20, by simp, rfl⟩
    · exact ⟨21, by simp, rfl⟩
    · exact ⟨30, by simp, rfl⟩
  have hm2 : m ≤ 1200 := by
    have : ∀ m ∈ [17, 18, 19, 20, 21, 40, 1200], m ≤ 1200 := by decide
    exact this m hm
  have ht2 : t ≤ 1000 := by
    have : ∀ m ∈ [18, 19, 20, 21, 30], m ≤ 1000 := by decide
    exact this t ht
  have eT := edT hm2
  have eP := edP ht2
  have kT := chk_ok eT (chkT m hm)
  have kP := chk_ok eP (chkP t ht)
  have F04 : Fr (· = w) h h4 := ((F1.up.trans F2).trans F3.up).trans F4
  -- the words
  have gT' : GL (mBin opAdd (mBin opAdd (mBin opAdd (mLst (mCons (mC (.str [91])) (mCons (mC (.str [116, 111, 116, 97, 108])) mNil))) (mBin opMul (mLst (mCons (mC (.str [40])) mNil)) (mVar 1))) (mBin opMul (mLst (mCons (mC (.str [41])) mNil)) (mVar 1))) (mLst (mCons (mC (.str [93])) mNil))) [some (.ref w), some (.int (m : Int)), some (.int (t : Int)), none, none, none, none, none, none, none] (deepT m) :=
    GL.add (GL.add (GL.add (GL.lst (fun _ => rfl) (by simp)) (GL.mul (GL.lst (fun _ => rfl) (by simp)) (fun _ => rfl) (by omega) (by simp)) (by rw [rep_len]; simp; omega)) (GL.mul (GL.lst (fun _ => rfl) (by simp)) (fun _ => rfl) (by omega) (by simp)) (by rw [List.length_append, rep_len, rep_len]; simp; omega)) (GL.lst (fun _ => rfl) (by simp)) (by rw [List.length_append, List.length_append, rep_len, rep_len]; simp; omega)
  obtain ⟨pt, h5, e5, F5, g5⟩ := gT' h4 F4.wf
  have gP' : GL (mBin opAdd (mBin opAdd (mBin opMul (mLst (mCons (mC (.str [91])) (mCons (mC (.str [97, 108, 105, 107, 101])) mNil))) (mVar 2)) (mLst (mCons (mC (.str [45])) mNil))) (mBin opMul (mLst (mCons (mC (.str [93])) mNil)) (mVar 2))) [some (.ref w), some (.int (m : Int)), some (.int (t : Int)), some (.ref pt), none, none, none, none, none, none] (deepP t) :=
    GL.add (GL.add (GL.mul (GL.lst (fun _ => rfl) (by simp)) (fun _ => rfl) (by omega) (by simp)) (GL.lst (fun _ => rfl) (by simp)) (by rw [rep_len]; simp; omega)) (GL.mul (GL.lst (fun _ => rfl) (by simp)) (fun _ => rfl) (by omega) (by simp)) (by rw [List.length_append, rep_len, rep_len]; simp; omega)
  obtain ⟨pp, h6, e6, F6, g6⟩ := gP' h5 F5.wf
  have g5' := F6.gets g5
  -- the loop
  have loop := forI_inv (it := .vals [.tup [.ref pt, .int ((m + 1 : Nat) : Int), .int 21], .tup [.ref pp, .int (t : Int), .int 40]]) (g := gT 3 (gCons (gN 5) (gCons (gN 6) (gCons (gN 7) gNil)))) (b := dbody (fam (k + 30))) (us := [.tup [.ref pt, .int ((m + 1 : Nat) : Int), .int 21], .tup [.ref pp, .int (t : Int), .int 40]])
    (fun j τ hx => ∃ x5 x6 x7 x8 x9, τ = [some (.ref w), some (.int (m : Int)), some (.int (t : Int)), some (.ref pt), some (.ref pp), x5, x6, x7, x8, x9] ∧ Fr nX h6 hx) (fun _ _ => False)
    (fun j τ hx _ => rfl)
    (fun j u τ hx eu ⟨x5, x6, x7, x8, x9, eτ, X⟩ => by
      subst eτ
      cases j with
      | zero =>
        have : u = .tup [.ref pt, .int ((m + 1 : Nat) : Int), .int 21] := by simpa using eu.symm
        subst this
        obtain ⟨y8, y9, h', e1, X1⟩ := deep_turn (k := k) (x0 := some (.ref w)) (x1 := some (.int (m : Int))) (x2 := some (.int (t : Int))) (x3 := some (.ref pt)) (x4 := some (.ref pp)) (x8 := x8) (x9 := x9) (due := 21) eT X.wf (X.gets g5') kT
        exact ⟨_, hx, rfl, .inl ⟨_, h', e1, _, _, _, _, _, rfl, X.trans X1⟩⟩
      | succ j =>
        cases j with
        | zero =>
          have : u = .tup [.ref pp, .int (t : Int), .int 40] := by simpa using eu.symm
          subst this
          obtain ⟨y8, y9, h', e1, X1⟩ := deep_turn (k := k) (x0 := some (.ref w)) (x1 := some (.int (m : Int))) (x2 := some (.int (t : Int))) (x3 := some (.ref pt)) (x4 := some (.ref pp)) (x8 := x8) (x9 := x9) (due := 40) eP X.wf (X.gets g6) kP
          exact ⟨_, hx, rfl, .inl ⟨_, h', e1, _, _, _, _, _, rfl, X.trans X1⟩⟩
        | succ j => simp at eu)
    fu 0 [some (.ref w), some (.int (m : Int)), some (.int (t : Int)), some (.ref pt), some (.ref pp), none, none, none, none, none] h6 (by simp; unfold fu; omega) (Nat.zero_le _) ⟨none, none, none, none, none, rfl, Fr.refl F6.wf⟩
  rcases loop with ⟨τ', h7, e7, _, _, _, _, _, _, X7⟩ | ⟨_, _, _, z⟩
  · refine ⟨h7, ?_, F04.trans ((F5.trans F6).trans X7).up, W4.fr ((F5.trans F6).trans X7)⟩
    rw [e_seq]
    have e2' : fam (k + 30) 35 [.ref w, .ref h.n] (h.new (.lst ([17, 18, 19, 20, 21, 40, 1200].map U.int))) = .ok (.int (m : Int)) h2 := e2
    have e4' : fam (k + 30) 35 [.ref w, .ref h2.n] (h2.new (.lst ([18, 19, 20, 21, 30].map U.int))) = .ok (.int (t : Int)) h4 := e4
    simp only [e_par, e_cons, e_call, var0, bind_ok, c7, e_nil, e2', c5, e4', st_ok]
    show (mSeq _ _ [some (.ref w), some (.int (m : Int)), some (.int (t : Int)), none, none, none, none, none, none, none] h4).out = _
    rw [e_seq, e_asg, e5]
    simp only [st_ok, gN3, asgd_some, seq_nx]
    rw [e_seq, e_asg, e6]
    simp only [st_ok, gN4, asgd_some, seq_nx]
    rw [e_seq, e_forE]
    have m1 : ((m : Int) + 1) = ((m + 1 : Nat) : Int) := by omega
    have sq : mSeqI (mTup (mCons (mTup (mCons (mVar 3) (mCons (mBin opAdd (mVar 1) (mC (.int 1))) (mCons (mC (.int 21)) mNil)))) (mCons (mTup (mCons (mVar 4) (mCons (mVar 2) (mCons (mC (.int 40)) mNil)))) mNil))) [some (.ref w), some (.int (m : Int)), some (.int (t : Int)), some (.ref pt), some (.ref pp), none, none, none, none, none] h6 = .ok (.vals [.tup [.ref pt, .int ((m + 1 : Nat) : Int), .int 21], .tup [.ref pp, .int (t : Int), .int 40]]) h6 :=
      seqI_tup (by simp only [e_tup, e_cons, var3, bind_ok, e_bin, var1, e_c, opAdd_int, of_some, e_nil, mkT_3, var4, var2, mkT_2, m1])
    rw [sq]
    simp only [st_ok, e7, seq_nx, e_ret, e_c, out_rt]
  · exact z.elim
end
end K89

set_option Elab.async false
set_option linter.all false
set_option maxRecDepth 100000
set_option maxHeartbeats 4000000
/-! A turn of the law. -/
namespace K89
open PySem PySem.Spec PyProof.Rows L2 Sm
theorem cut_take {α : Type} {xs : List α} {n : Nat} : cut xs none (some (n : Int)) = xs.take n := by
  unfold cut
  rw [HT.sIx_nat]
  show List.take (min n xs.length - 0) (List.drop 0 xs) = _
  simp [List.take_eq_take_iff]
theorem cut_drop {α : Type} {xs : List α} {n : Nat} : cut xs (some (n : Int)) none = xs.drop n := by
  unfold cut
  rw [HT.sIx_nat]
  show List.take (xs.length - min n xs.length) (List.drop (min n xs.length) xs) = _
  rw [List.take_of_length_le (by rw [List.length_drop]; omega)]
  by_cases h : n ≤ xs.length
  · rw [Nat.min_eq_left h]
  · rw [Nat.min_eq_right (by omega), List.drop_of_length_le (Nat.le_refl _), List.drop_of_length_le (by omega)]
/-- lists of words, made behind h0 -/
def GX (h0 : Hs) (m : EM) (τ : Sl) (xs : List Wo) : Prop := ∀ h : Hs, Fr nX h0 h → ∃ p h', m τ h = .ok (.ref p) h' ∧ Fr nX h h' ∧ h'.get p = some (.lst (xs.map U.str))
section
variable {h0 : Hs} {a b : EM} {as : AM} {τ : Sl} {xs ys : List Wo} {p : Nat}
theorem GX.lst (ha : ∀ h, as τ h = .ok (xs.map U.str) h) (hl : xs.length ≤ 10000) : GX h0 (mLst as) τ xs := fun h F => GL.lst ha hl h F.wf
theorem GX.add (ga : GX h0 a τ xs) (gb : GX h0 b τ ys) (hl : xs.length + ys.length ≤ 16777216) : GX h0 (mBin opAdd a b) τ (xs ++ ys) := fun h F => by
  obtain ⟨p, h1, e1, F1, g1⟩ := ga h F
  obtain ⟨q, h2, e2, F2, g2⟩ := gb h1 (F.trans F1)
  have ad := opAdd_lst (F2.gets g1) g2 (by rw [List.length_map, List.length_map]; exact hl)
  refine ⟨h2.n, h2.new (.lst ((xs ++ ys).map U.str)), ?_, (F1.trans F2).trans (Fr.new F2.wf), Hs.get_new_same F2.wf⟩
  simp only [e_bin, e1, bind_ok, e2, ad, of_some, List.map_append]
theorem GX.take (g : h0.get p = some (.lst (xs.map U.str))) {n : Nat} {hi : PM} (hv : ∀ h, a τ h = .ok (.ref p) h) (hh : ∀ h, hi τ h = .ok (some (n : Int)) h) : GX h0 (mSlice a mNoP hi) τ (xs.take n) := fun h F => by
  have sl := opSl_lst (lo := none) (hi := some (n : Int)) (F.gets g)
  rw [cut_take, ← List.map_take] at sl
  refine ⟨h.n, _, ?_, Fr.new F.wf, Hs.get_new_same F.wf⟩
  simp only [e_slice, hv, bind_ok, e_noP, hh, sl, of_some]
theorem GX.drop (g : h0.get p = some (.lst (xs.map U.str))) {n : Nat} {lo : PM} (hv : ∀ h, a τ h = .ok (.ref p) h) (hh : ∀ h, lo τ h = .ok (some (n : Int)) h) : GX h0 (mSlice a lo mNoP) τ (xs.drop n) := fun h F => by
  have sl := opSl_lst (lo := some (n : Int)) (hi := none) (F.gets g)
  rw [cut_drop, ← List.map_drop] at sl
  refine ⟨h.n, _, ?_, Fr.new F.wf, Hs.get_new_same F.wf⟩
  simp only [e_slice, hv, bind_ok, e_noP, hh, sl, of_some]
theorem GX.var (g : h0.get p = some (.lst (xs.map U.str))) (hv : ∀ h, a τ h = .ok (.ref p) h) : GX h0 a τ xs := fun h F => ⟨p, h, hv h, Fr.refl F.wf, F.gets g⟩
end
/-! ### how deep edited words are -/
theorem vd_le (w : Wo) : -1 ≤ vd w ∧ vd w ≤ 1 := by
  unfold vd
  split
  · omega
  · split <;> omega
theorem Bd.pos {k : Int} {ws : List Wo} (h : Bd k ws) : 0 ≤ k := by
  have := h 0
  simpa [net] using this
theorem Bd.next {k : Int} {ws : List Wo} {n : Nat} (h : Bd k (ws.drop n)) : Bd (k + 1) (ws.drop (n + 1)) := by
  have e : ws.drop (n + 1) = (ws.drop n).drop 1 := by rw [List.drop_drop]
  rw [e]
  cases q : ws.drop n with
  | nil => exact Bd.nil (by have := h.pos; omega)
  | cons w r =>
    rw [q] at h
    exact h.tail.mono (by have := vd_le w; omega)
theorem Bd.split {k : Int} {ws : List Wo} (h : Bd k ws) (n : Nat) : Bd k (ws.take n) ∧ Bd (k - net (ws.take n)) (ws.drop n) := by
  have e : ws = ws.take n ++ ws.drop n := (List.take_append_drop n ws).symm
  rw [e] at h
  exact ⟨h.left, h.right⟩
theorem Bd.put {k : Int} {w : Wo} {r : List Wo} (h : Bd k r) : Bd (k + 1) (w :: r) := Bd.cons (by have := h.pos; omega) (h.mono (by have := vd_le w; omega))
structure Ee (ws : List Wo) : Prop where
  voc : ∀ w ∈ ws, w ∈ Voc
  len : ws.length ≤ 4000
  bd : Bd 20 ws
section
variable {ws : List Wo} {o : Wo} {n : Nat}
theorem Gd.same (g : Gd 4 ws) : Ee ws := ⟨g.voc, Nat.le_trans g.len (by decide), g.bd.mono (by decide)⟩
theorem Gd.drop1 (g : Gd 4 ws) : Ee (ws.take n ++ ws.drop (n + 1)) := by
  obtain ⟨a, b⟩ := g.bd.split n
  have hl := Nat.le_trans g.len (show Ln 4 ≤ 1000 by decide)
  refine ⟨fun w hw => ?_, ?_, (Bd.append (a.mono (show ((4 : Nat) : Int) ≤ 5 by decide)) ((b.next).mono (by omega))).mono (by decide)⟩
  · rcases List.mem_append.mp hw with q | q
    · exact g.voc w (List.mem_of_mem_take q)
    · exact g.voc w (List.mem_of_mem_drop q)
  · rw [List.length_append, List.length_take, List.length_drop]; omega
theorem Gd.ins (g : Gd 4 ws) (ho : o ∈ Voc) : Ee ((ws.take n ++ [o]) ++ ws.drop n) := by
  obtain ⟨a, b⟩ := g.bd.split n
  have hl := Nat.le_trans g.len (show Ln 4 ≤ 1000 by decide)
  rw [List.append_assoc]
  refine ⟨fun w hw => ?_, ?_, (Bd.append (a.mono (show ((4 : Nat) : Int) ≤ 5 by decide)) ((b.put (w := o)).mono (by omega))).mono (by decide)⟩
  · rcases List.mem_append.mp hw with q | q
    · exact g.voc w (List.mem_of_mem_take q)
    · rcases List.mem_cons.mp q with rfl | q
      · exact ho
      · exact g.voc w (List.mem_of_mem_drop q)
  · rw [List.length_append, List.length_append, List.length_take, List.length_drop, List.length_cons, List.length_nil]; omega
theorem Gd.set (g : Gd 4 ws) (ho : o ∈ Voc) : Ee ((ws.take n ++ [o]) ++ ws.drop (n + 1)) := by
  obtain ⟨a, b⟩ := g.bd.split n
  have hl := Nat.le_trans g.len (show Ln 4 ≤ 1000 by decide)
  rw [List.append_assoc]
  refine ⟨fun w hw => ?_, ?_, (Bd.append (a.mono (show ((4 : Nat) : Int) ≤ 6 by decide)) (((b.next).put (w := o)).mono (by omega))).mono (by decide)⟩
  · rcases List.mem_append.mp hw with q | q
    · exact g.voc w (List.mem_of_mem_take q)
    · rcases List.mem_cons.mp q with rfl | q
      · exact ho
      · exact g.voc w (List.mem_of_mem_drop q)
  · rw [List.length_append, List.length_append, List.length_take, List.length_drop, List.length_cons, List.length_nil]; omega
theorem Gd.cut (g : Gd 4 ws) : Ee (ws.take n) := by
  obtain ⟨a, b⟩ := g.bd.split n
  have hl := Nat.le_trans g.len (show Ln 4 ≤ 1000 by decide)
  exact ⟨fun w hw => g.voc w (List.mem_of_mem_take hw), by rw [List.length_take]; omega, a.mono (by decide)⟩
theorem Gd.more (g : Gd 4 ws) (ho : o ∈ Voc) : Ee (ws ++ [o]) := by
  have hl := Nat.le_trans g.len (show Ln 4 ≤ 1000 by decide)
  refine ⟨fun w hw => ?_, ?_, (Bd.append (g.bd.mono (show ((4 : Nat) : Int) ≤ 5 by decide)) (by rw [g.nt]; exact (Bd.put (k := 4) (Bd.nil (by decide))).mono (by decide))).mono (by decide)⟩
  · rcases List.mem_append.mp hw with q | q
    · exact g.voc w q
    · have : w = o := by simpa using q
      rw [this]
      exact ho
  · rw [List.length_append, List.length_cons, List.length_nil]; omega
end
/-! ### the law's body -/
def lchain : SM := (mIfS (mT (mBin (opEq) (mVar 5) (mC (.int 1)))) (mAsg (mBin opAdd (mSlice (mVar 3) mNoP (mPart (mVar 4))) (mSlice (mVar 3) (mPart (mBin opAdd (mVar 4) (mC (.int 1)))) mNoP)) (gN 3)) (mIfS (mT (mBin (opEq) (mVar 5) (mC (.int 2)))) (mAsg (mBin opAdd (mBin opAdd (mSlice (mVar 3) mNoP (mPart (mVar 4))) (mLst (mCons (mVar 6) mNil))) (mSlice (mVar 3) (mPart (mVar 4)) mNoP)) (gN 3)) (mIfS (mT (mBin (opEq) (mVar 5) (mC (.int 3)))) (mAsg (mBin opAdd (mBin opAdd (mSlice (mVar 3) mNoP (mPart (mVar 4))) (mLst (mCons (mVar 6) mNil))) (mSlice (mVar 3) (mPart (mBin opAdd (mVar 4) (mC (.int 1)))) mNoP)) (gN 3)) (mIfS (mT (mBin (opEq) (mVar 5) (mC (.int 4)))) (mAsg (mSlice (mVar 3) mNoP (mPart (mVar 4))) (gN 3)) (mIfS (mT (mBin (opEq) (mVar 5) (mC (.int 5)))) (mAsg (mBin opAdd (mVar 3) (mLst (mCons (mVar 6) mNil))) (gN 3)) mNx)))))
def ltail (M : Nat → FM) : SM := (mSeq (mAsg (mIf (mT (mBin (opNe) (mVar 3) (mLst mNil))) (mVar 3) (mLst (mCons (mC (.str [])) mNil))) (gN 3)) (mSeq (mAsg (mTup (mCons (mMetB isStrU fJoin (mC (.str [32])) (mCons (mVar 3) mNil)) (mCons (mCall (M 38) (mCons (mVar 3) mNil)) mNil))) (gT 2 (gCons (gN 7) (gCons (gN 8) gNil)))) (mSeq (mAsg (mSaid (saidBy saidT) (mCall (M 32) (mCons (mVar 7) mNil))) (gN 9)) (mIfS (mOr (mT (mBin (opNe) (mVar 9) (mIf (mT (mBin (opNotN) (mVar 8) (mC .non))) (mTup (mCons (mC (.str [116, 101, 120, 116])) (mCons (mC (.int 0)) (mCons (mVar 8) mNil)))) (mC .non)))) (mAnd (mT (mBin (opIsN) (mVar 8) (mC .non))) (mT (mBin (opNe) (mCall (M 19) (mCons (mCall (M 32) (mCons (mVar 7) mNil)) mNil)) (mVar 7))))) (mRet (mC (.bl false))) mNx))))
def oddA : AM := (mCons (mC (.str [])) (mCons (mC (.str [40])) (mCons (mC (.str [41])) (mCons (mC (.str [91])) (mCons (mC (.str [93])) (mCons (mC (.str [45])) (mCons (mC (.str [45, 45, 49])) (mCons (mC (.str [45, 48])) (mCons (mC (.str [48, 49])) (mCons (mC (.str [65])) (mCons (mC (.str [97])) (mCons (mC (.str [48])) (mCons (mC (.str [102, 111, 114, 109])) (mCons (mC (.str [116, 111, 116, 97, 108])) (mCons (mC (.str [110, 111, 98, 111, 100, 121])) (mCons (mC (.str [97, 45, 98])) (mCons (mBin opMul (mC (.str [49])) (mC (.int 401))) (mCons (mBin opMul (mC (.str [57])) (mC (.int 400))) (mCons (mBin opMul (mC (.str [120])) (mC (.int 101))) (mCons (mBin opMul (mC (.str [120])) (mC (.int 100))) (mCons (mC (.str [46])) mNil)))))))))))))))))))))
def lbody (M : Nat → FM) : SM := (mSeq (mAsg (mCall (M 40) (mCons (mVar 1) (mCons (mC (.int 3)) mNil))) (gN 3)) (mSeq (mPar 4 5 (mCons (mCall (M 34) (mCons (mVar 1) (mCons (mCallB fLen (mCons (mVar 3) mNil)) mNil))) (mCons (mCall (M 34) (mCons (mVar 1) (mCons (mC (.int 6)) mNil))) mNil))) (mSeq (mAsg (mCall (M 35) (mCons (mVar 1) (mCons (mLst oddA) mNil))) (gN 6)) (mSeq lchain (ltail M)))))
theorem law_is (M : Nat → FM) : b_law M = (mSeq (mAsg (mCall (M 33) (mCons (mVar 0) mNil)) (gN 1)) (mSeq (mIfS (mNot (mT (mCall (M 41) (mCons (mVar 1) mNil)))) (mRet (mC (.bl false))) mNx) (mSeq (mForE (mRng1 (mCons (mC (.int 20)) mNil)) (gN 2) (lbody M) fu) (mRet (mC (.bl true)))))) := rfl
theorem f42 {n : Nat} {h : Hs} {u : U} : fam (n + 1) 42 [u] h = (b_law (fam n) [some u, none, none, none, none, none, none, none, none, none] h).out := rfl
section
variable {k p at_ way : Nat} {h : Hs} {ws : List Wo} {o : Wo} {x0 x1 x2 x7 x8 x9 : Option U}
theorem asg3 {a : EM} {ys : List Wo} (hw : h.wf) (g : GX h a [x0, x1, x2, some (.ref p), some (.int (at_ : Int)), some (.int (way : Int)), some (.str o), x7, x8, x9] ys) (e : Ee ys) : ∃ p' ws' h', mAsg a (gN 3) [x0, x1, x2, some (.ref p), some (.int (at_ : Int)), some (.int (way : Int)), some (.str o), x7, x8, x9] h = .nx [x0, x1, x2, some (.ref p'), some (.int (at_ : Int)), some (.int (way : Int)), some (.str o), x7, x8, x9] h' ∧ Fr nX h h' ∧ h'.get p' = some (.lst (ws'.map U.str)) ∧ Ee ws' := by
  obtain ⟨p', h', e1, F1, g1⟩ := g h (Fr.refl hw)
  refine ⟨p', ys, h', ?_, F1, g1, e⟩
  rw [e_asg, e1]
  simp only [st_ok, gN3, asgd_some]
theorem chain_ok (hw : h.wf) (g : h.get p = some (.lst (ws.map U.str))) (gd : Gd 4 ws) (ho : o ∈ Voc) : ∃ p' ws' h', lchain [x0, x1, x2, some (.ref p), some (.int (at_ : Int)), some (.int (way : Int)), some (.str o), x7, x8, x9] h = .nx [x0, x1, x2, some (.ref p'), some (.int (at_ : Int)), some (.int (way : Int)), some (.str o), x7, x8, x9] h' ∧ Fr nX h h' ∧ h'.get p' = some (.lst (ws'.map U.str)) ∧ Ee ws' := by
  have hl := Nat.le_trans gd.len (show Ln 4 ≤ 1000 by decide)
  have m1 : ((at_ : Int) + 1) = ((at_ + 1 : Nat) : Int) := by omega
  have gt : GX h (mSlice (mVar 3) mNoP (mPart (mVar 4))) [x0, x1, x2, some (.ref p), some (.int (at_ : Int)), some (.int (way : Int)), some (.str o), x7, x8, x9] (ws.take at_) := GX.take g (fun _ => rfl) (fun _ => rfl)
  have gd0 : GX h (mSlice (mVar 3) (mPart (mVar 4)) mNoP) [x0, x1, x2, some (.ref p), some (.int (at_ : Int)), some (.int (way : Int)), some (.str o), x7, x8, x9] (ws.drop at_) := GX.drop g (fun _ => rfl) (fun _ => rfl)
  have gd1 : GX h (mSlice (mVar 3) (mPart (mBin opAdd (mVar 4) (mC (.int 1)))) mNoP) [x0, x1, x2, some (.ref p), some (.int (at_ : Int)), some (.int (way : Int)), some (.str o), x7, x8, x9] (ws.drop (at_ + 1)) := GX.drop g (fun _ => rfl) (fun hx => by simp only [e_part, e_bin, var4, bind_ok, e_c, opAdd_int, of_some, m1])
  have go : GX h (mLst (mCons (mVar 6) mNil)) [x0, x1, x2, some (.ref p), some (.int (at_ : Int)), some (.int (way : Int)), some (.str o), x7, x8, x9] [o] := GX.lst (fun _ => rfl) (by simp)
  have gv : GX h (mVar 3) [x0, x1, x2, some (.ref p), some (.int (at_ : Int)), some (.int (way : Int)), some (.str o), x7, x8, x9] ws := GX.var g (fun _ => rfl)
  have lt : (ws.take at_).length ≤ 1000 := by rw [List.length_take]; omega
  have ld0 : (ws.drop at_).length ≤ 1000 := by rw [List.length_drop]; omega
  have ld1 : (ws.drop (at_ + 1)).length ≤ 1000 := by rw [List.length_drop]; omega
  have tw : ∀ c : Int, (mT (mBin (opEq) (mVar 5) (mC (.int c)))) [x0, x1, x2, some (.ref p), some (.int (at_ : Int)), some (.int (way : Int)), some (.str o), x7, x8, x9] h = .ok (decide ((way : Int) = c)) h := fun c => by
    simp only [e_T, e_bin, var5, bind_ok, e_c, opEq_int, of_some, bl_ok, eqZ_dec]
  unfold lchain
  rw [e_ifS, tw]
  by_cases q1 : (way : Int) = 1
  · rw [decide_eq_true q1, tst_t]
    exact asg3 hw (GX.add gt gd1 (by omega)) gd.drop1
  · rw [decide_eq_false q1, tst_f, e_ifS, tw]
    by_cases q2 : (way : Int) = 2
    · rw [decide_eq_true q2, tst_t]
      exact asg3 hw (GX.add (GX.add gt go (by simp; omega)) gd0 (by rw [List.length_append]; simp only [List.length_cons, List.length_nil]; omega)) (gd.ins ho)
    · rw [decide_eq_false q2, tst_f, e_ifS, tw]
      by_cases q3 : (way : Int) = 3
      · rw [decide_eq_true q3, tst_t]
        exact asg3 hw (GX.add (GX.add gt go (by simp; omega)) gd1 (by rw [List.length_append]; simp only [List.length_cons, List.length_nil]; omega)) (gd.set ho)
      · rw [decide_eq_false q3, tst_f, e_ifS, tw]
        by_cases q4 : (way : Int) = 4
        · rw [decide_eq_true q4, tst_t]
          exact asg3 hw gt gd.cut
        · rw [decide_eq_false q4, tst_f, e_ifS, tw]
          by_cases q5 : (way : Int) = 5
          · rw [decide_eq_true q5, tst_t]
            exact asg3 hw (GX.add gv go (by simp; omega)) (gd.more ho)
          · rw [decide_eq_false q5, tst_f, e_nx]
            exact ⟨p, ws, h, rfl, Fr.refl hw, g, gd.same⟩
end
end K89

set_option Elab.async false
set_option linter.all false
set_option maxRecDepth 100000
set_option maxHeartbeats 4000000
/-! The law. -/
namespace K89
open PySem PySem.Spec PyProof.Rows L2 Sm
section
variable {k p w : Nat} {h : Hs} {ws : List Wo} {x0 x1 x2 x4 x5 x6 x7 x8 x9 : Option U}
/-- words that are not there: one empty word -/
theorem some_ok (hw : h.wf) (g : h.get p = some (.lst (ws.map U.str))) (e : Ee ws) : ∃ p' ws' h', (mIf (mT (mBin (opNe) (mVar 3) (mLst mNil))) (mVar 3) (mLst (mCons (mC (.str [])) mNil))) [x0, x1, x2, some (.ref p), x4, x5, x6, x7, x8, x9] h = .ok (.ref p') h' ∧ Fr nX h h' ∧ h'.get p' = some (.lst (ws'.map U.str)) ∧ Ed ws' ∧ Bd 20 ws' := by
  have F1 : Fr nX h (h.new (.lst [])) := Fr.new hw
  have g1 := F1.gets g
  have ne := opNe_nil g1 (Hs.get_new_same hw)
  have t : (mT (mBin (opNe) (mVar 3) (mLst mNil))) [x0, x1, x2, some (.ref p), x4, x5, x6, x7, x8, x9] h = .ok (!ws.isEmpty) (h.new (.lst [])) := by
    simp only [e_T, e_bin, var3, bind_ok, e_lst, e_nil, mkL_0, ne, of_some, bl_ok]
  generalize h.new (.lst []) = h1 at *
  rw [e_if, t]
  cases ws with
  | nil =>
    refine ⟨h1.n, [[]], h1.new (.lst [.str []]), ?_, F1.trans (Fr.new F1.wf), Hs.get_new_same F1.wf, ⟨?_, by simp, by simp⟩, ?_⟩
    · simp only [List.isEmpty_nil, Bool.not_true, ite_f, e_lst, e_cons, e_c, bind_ok, e_nil, mkL_1]
    · intro x hx
      have : x = [] := by simpa using hx
      rw [this]
      decide +kernel
    · exact Bd.cons (by decide) (Bd.nil (by decide))
  | cons a r =>
    refine ⟨p, a :: r, h1, ?_, F1, g1, ⟨e.voc, by have := e.len; omega, by simp⟩, e.bd⟩
    simp only [List.isEmpty_cons, Bool.not_false, ite_t, var3]
theorem tail_ok (hw : h.wf) (g : h.get p = some (.lst (ws.map U.str))) (e : Ee ws) : ∃ y3 y7 y8 y9 h', ltail (fam (k + 30)) [x0, x1, x2, some (.ref p), x4, x5, x6, x7, x8, x9] h = .nx [x0, x1, x2, y3, x4, x5, x6, y7, y8, y9] h' ∧ Fr nX h h' := by
  obtain ⟨p1, w1, h1, e1, F1, g1, ed, bd⟩ := some_ok (x0 := x0) (x1 := x1) (x2 := x2) (x4 := x4) (x5 := x5) (x6 := x6) (x7 := x7) (x8 := x8) (x9 := x9) hw g e
  have jo := join_ok g1 (by have := ed.len; omega) fun w hx => (voc_at (ed.voc w hx)).2.1.1
  obtain ⟨h2, e2, F2⟩ := fault_ok (k := k + 28) F1.wf g1 ed.ne (by have := ed.len; omega) fun w hx => (voc_at (ed.voc w hx)).2.1.1
  have e2' : fam (k + 30) 38 [.ref p1] h1 = .ok (ftU (ft w1)) h2 := e2
  obtain ⟨h3, s3, F3⟩ := said_ok (k := k + 1) (a := mVar 7) (τ := [x0, x1, x2, some (.ref p1), x4, x5, x6, some (.str (TL.joinL [32] w1)), some (ftU (ft w1)), x9]) ed F2.wf rfl
  have s3' : mSaid (saidBy saidT) (mCall (fam (k + 30) 32) (mCons (mVar 7) mNil)) [x0, x1, x2, some (.ref p1), x4, x5, x6, some (.str (TL.joinL [32] w1)), some (ftU (ft w1)), x9] h2 = .ok (heardU (rd w1)) h3 := s3
  have ag := rd_ft (fun w hx => (voc_at (ed.voc w hx)).1) bd ed.ne
  have pre : ltail (fam (k + 30)) [x0, x1, x2, some (.ref p), x4, x5, x6, x7, x8, x9] h = (mIfS (mOr (mT (mBin (opNe) (mVar 9) (mIf (mT (mBin (opNotN) (mVar 8) (mC .non))) (mTup (mCons (mC (.str [116, 101, 120, 116])) (mCons (mC (.int 0)) (mCons (mVar 8) mNil)))) (mC .non)))) (mAnd (mT (mBin (opIsN) (mVar 8) (mC .non))) (mT (mBin (opNe) (mCall (fam (k + 30) 19) (mCons (mCall (fam (k + 30) 32) (mCons (mVar 7) mNil)) mNil)) (mVar 7))))) (mRet (mC (.bl false))) mNx) [x0, x1, x2, some (.ref p1), x4, x5, x6, some (.str (TL.joinL [32] w1)), some (ftU (ft w1)), some (heardU (rd w1))] h3 := by
    unfold ltail
    rw [e_seq, e_asg, e1]
    simp only [st_ok, gN3, asgd_some, seq_nx]
    rw [e_seq]
    simp only [e_asg, e_tup, e_cons, e_metB, e_c, bind_ok, metB_str, var3, e_nil, jo, of_some, e_call, e2', mkT_2, st_ok, gT2, e_gCons, gN7, gsB_some, gN8, e_gNil, asgd_some, seq_nx]
    rw [e_seq, e_asg, s3']
    simp only [st_ok, gN9, asgd_some, seq_nx]
  refine ⟨some (.ref p1), some (.str (TL.joinL [32] w1)), some (ftU (ft w1)), some (heardU (rd w1)), ?_⟩
  rw [pre, e_ifS, e_or]
  cases hft : ft w1 with
  | some n =>
    rw [hft] at ag
    have ag : rd w1 = .inl n := ag
    have ns := heard_same (r := .inl n) (h := h3)
    have t1 : (mT (mBin (opNe) (mVar 9) (mIf (mT (mBin (opNotN) (mVar 8) (mC .non))) (mTup (mCons (mC (.str [116, 101, 120, 116])) (mCons (mC (.int 0)) (mCons (mVar 8) mNil)))) (mC .non)))) [x0, x1, x2, some (.ref p1), x4, x5, x6, some (.str (TL.joinL [32] w1)), some (ftU (some n)), some (heardU (rd w1))] h3 = .ok false h3 := by
      have : U.tup [.str [116, 101, 120, 116], .int 0, .int (n : Int)] = heardU (.inl n) := rfl
      simp only [e_T, e_bin, var9, bind_ok, e_if, var8, e_c, opNotN_non, ftU, isNon_int, Bool.not_false, of_some, bl_ok, ite_t, e_tup, e_cons, e_nil, mkT_3, ag, this, ns]
    have t2 : (mT (mBin (opIsN) (mVar 8) (mC .non))) [x0, x1, x2, some (.ref p1), x4, x5, x6, some (.str (TL.joinL [32] w1)), some (ftU (some n)), some (heardU (rd w1))] h3 = .ok false h3 := by
      simp only [e_T, e_bin, var8, bind_ok, e_c, opIsN_non, ftU, isNon_int, of_some, bl_ok]
    refine ⟨h3, ?_, (F1.trans F2).trans F3⟩
    rw [t1, ite_f, e_and, t2, ite_f, tst_f, e_nx]
  | none =>
    rw [hft] at ag
    obtain ⟨h4, a4, F4⟩ := again_ok (k := k) (a := mVar 7) (τ := [x0, x1, x2, some (.ref p1), x4, x5, x6, some (.str (TL.joinL [32] w1)), some (ftU none), some (heardU (rd w1))]) ed F3.wf (fun _ => rfl) ag
    obtain ⟨t, et, _⟩ := ag
    have hU : heardU (rd w1) = .non := by rw [et]; rfl
    have nn : opNe .non .non h3 = some (.bl false, h3) := rfl
    have t1 : (mT (mBin (opNe) (mVar 9) (mIf (mT (mBin (opNotN) (mVar 8) (mC .non))) (mTup (mCons (mC (.str [116, 101, 120, 116])) (mCons (mC (.int 0)) (mCons (mVar 8) mNil)))) (mC .non)))) [x0, x1, x2, some (.ref p1), x4, x5, x6, some (.str (TL.joinL [32] w1)), some (ftU none), some (heardU (rd w1))] h3 = .ok false h3 := by
      simp only [e_T, e_bin, var9, bind_ok, e_if, var8, e_c, opNotN_non, ftU, isNon_non, Bool.not_true, of_some, bl_ok, ite_f, hU, nn]
    have t2 : (mT (mBin (opIsN) (mVar 8) (mC .non))) [x0, x1, x2, some (.ref p1), x4, x5, x6, some (.str (TL.joinL [32] w1)), some (ftU none), some (heardU (rd w1))] h3 = .ok true h3 := by
      simp only [e_T, e_bin, var8, bind_ok, e_c, opIsN_non, ftU, isNon_non, of_some, bl_ok]
    refine ⟨h4, ?_, ((F1.trans F2).trans F3).trans F4⟩
    rw [t1, ite_f, e_and, t2, ite_t, a4, tst_f, e_nx]
theorem odd_list {τ : Sl} : oddA τ h = .ok (oddW.map U.str) h := rfl
theorem body_ok {x3 : Option U} (hw : h.wf) (W : Well h w) : ∃ y3 y4 y5 y6 y7 y8 y9 h', lbody (fam (k + 30)) [x0, some (.ref w), x2, x3, x4, x5, x6, x7, x8, x9] h = .nx [x0, some (.ref w), x2, y3, y4, y5, y6, y7, y8, y9] h' ∧ Fr (· = w) h h' ∧ Well h' w := by
  obtain ⟨p, ws, h1, e1, F1, W1, g1, gd⟩ := papers_all (k + 30) (by omega) h w hw W
  have hlen : 1 ≤ ((ws.length : Nat) : Int) := by
    have := gd.ne
    cases ws with
    | nil => exact absurd rfl this
    | cons a r => simp; omega
  obtain ⟨a, h2, e2, ha, F2, W2⟩ := draw_ok (n := k + 29) F1.wf W1 hlen
  have ln := fLen_lst g1
  rw [List.length_map] at ln
  obtain ⟨y, h3, e3, hy, F3, W3⟩ := draw_ok (n := k + 29) F2.wf W2 (m := 6) (by omega)
  have F4 : Fr nX h3 (h3.new (.lst (oddW.map U.str))) := Fr.new F3.wf
  have g4 := Hs.get_new_same (o := .lst (oddW.map U.str)) F3.wf
  have m4 : mkL (oddW.map U.str) h3 = .ok (.ref h3.n) (h3.new (.lst (oddW.map U.str))) := mkL_ok (by rw [List.length_map]; decide +kernel)
  generalize hh4 : h3.new (.lst (oddW.map U.str)) = h4 at *
  obtain ⟨u, h5, e5, hu, F5, W5⟩ := one_ok (n := k + 28) F4.wf (W3.fr F4) g4 (by
    intro z
    have := congrArg List.length z
    rw [List.length_map] at this
    exact absurd this (by decide +kernel))
  obtain ⟨o, ho, rfl⟩ := List.mem_map.mp hu
  have hov : o ∈ Voc := List.mem_append_right _ (List.mem_append_right _ ho)
  have g5 := Fr.lst (W3.fr F4) F5 (F4.gets (Fr.lst W2 F3 (Fr.lst W1 F2 g1)))
  obtain ⟨p6, ws6, h6, e6, F6, g6, ee6⟩ := chain_ok (x0 := x0) (x1 := some (.ref w)) (x2 := x2) (x7 := x7) (x8 := x8) (x9 := x9) (at_ := a) (way := y) F5.wf g5 gd hov
  obtain ⟨y3, y7, y8, y9, h7, e7, F7⟩ := tail_ok (k := k) (x0 := x0) (x1 := some (.ref w)) (x2 := x2) (x4 := some (.int (a : Int))) (x5 := some (.int (y : Int))) (x6 := some (.str o)) (x7 := x7) (x8 := x8) (x9 := x9) F6.wf g6 ee6
  refine ⟨y3, some (.int (a : Int)), some (.int (y : Int)), some (.str o), y7, y8, y9, h7, ?_, ((((F1.trans F2).trans F3).trans F4.up).trans F5).trans (F6.trans F7).up, W5.fr (F6.trans F7)⟩
  unfold lbody
  rw [e_seq]
  simp only [e_asg, e_call, e_cons, var1, bind_ok, e_c, e_nil, e1, st_ok, gN3, asgd_some, seq_nx]
  rw [e_seq]
  have e2' : fam (k + 30) 34 [.ref w, .int (ws.length : Nat)] h1 = .ok (.int (a : Int)) h2 := e2
  have e3' : fam (k + 30) 34 [.ref w, .int 6] h2 = .ok (.int (y : Int)) h3 := e3
  have e5' : fam (k + 30) 35 [.ref w, .ref h3.n] h4 = .ok (.str o) h5 := e5
  simp only [e_par, e_cons, e_call, var1, bind_ok, e_callB, var3, e_nil, ln, of_some, e2', e_c, e3', st_ok]
  show (mSeq _ _ [x0, some (.ref w), x2, some (.ref p), some (.int (a : Int)), some (.int (y : Int)), x6, x7, x8, x9] h3) = _
  rw [e_seq]
  simp only [e_asg, e_call, e_cons, var1, bind_ok, e_lst, odd_list, m4, e_nil, e5', st_ok, gN6, asgd_some, seq_nx]
  rw [e_seq, e6, seq_nx, e7]
/-- the law, by its mirror -/
theorem law_ok {zs : List Int} {u : U} (hw : h.wf) (s : Src h u zs) (hl : zs.length ≤ 1000) : ∃ h', fam (k + 32) 42 [u] h = .ok (.bl true) h' := by
  obtain ⟨w, h1, e1, F1, W1⟩ := well_ok (n := k + 30) hw s hl
  obtain ⟨h2, e2, F2, W2⟩ := deep_ok (k := k) F1.wf W1
  have e1' : fam (k + 31) 33 [u] h = .ok (.ref w) h1 := e1
  have loop := forI_inv (it := .vals (Sm.upTo 0 20)) (g := gN 2) (b := lbody (fam (k + 31))) (us := Sm.upTo 0 20)
    (fun j τ hx => ∃ y2 y3 y4 y5 y6 y7 y8 y9, τ = [some u, some (.ref w), y2, y3, y4, y5, y6, y7, y8, y9] ∧ hx.wf ∧ Well hx w) (fun _ _ => False)
    (fun j τ hx _ => rfl)
    (fun j v τ hx eu ⟨y2, y3, y4, y5, y6, y7, y8, y9, eτ, wx, Wx⟩ => by
      subst eτ
      obtain ⟨z3, z4, z5, z6, z7, z8, z9, h', e, F, W'⟩ := body_ok (k := k + 1) (x0 := some u) (x2 := some v) (x3 := y3) (x4 := y4) (x5 := y5) (x6 := y6) (x7 := y7) (x8 := y8) (x9 := y9) wx Wx
      exact ⟨_, hx, rfl, .inl ⟨_, h', e, _, _, _, _, _, _, _, _, rfl, F.wf, W'⟩⟩)
    fu 0 [some u, some (.ref w), none, none, none, none, none, none, none, none] h2 (by rw [upTo_len]; unfold fu; omega) (Nat.zero_le _) ⟨_, _, _, _, _, _, _, _, rfl, F2.wf, W2⟩
  rcases loop with ⟨τ', h3, e3, _⟩ | ⟨_, _, _, z⟩
  · refine ⟨h3, ?_⟩
    rw [f42, law_is]
    have sq : mRng1 (mCons (mC (.int 20)) mNil) [some u, some (.ref w), none, none, none, none, none, none, none, none] h2 = .ok (.vals (Sm.upTo 0 20)) h2 := seqI_rng (n := 20) rfl (by omega)
    rw [e_seq]
    simp only [e_asg, e_call, e_cons, var0, bind_ok, e_nil, e1', st_ok, gN1, asgd_some, seq_nx]
    rw [e_seq]
    simp only [e_ifS, e_not, e_T, e_call, e_cons, var1, bind_ok, e_nil, e2, bl_ok, Bool.not_true, tst_f, e_nx, seq_nx]
    rw [e_seq, e_forE, sq]
    simp only [st_ok, e3, seq_nx, e_ret, e_c, out_rt]
  · exact z.elim
end
end K89

set_option Elab.async false
set_option linter.all false
set_option maxRecDepth 100000
set_option maxHeartbeats 0
/-! k89: the law holds. -/
namespace K89
open PySem PySem.Spec PyProof.Rows L2 Sm
theorem vrels_int {G : Wd} {ι : List Addr} {H : Hp} : ∀ ns : List Int, VRels G ι H (ns.map U.int) (ns.map V.int)
  | [] => .nil
  | n :: r => .cons (.int n) (vrels_int r)
def csK (K : PySem.W.Frag) : List (Addr × Addr) := [He.cT K ("_law_deep_right", none), He.cT K ("law", none)]
theorem tabs0 {K : PySem.W.Frag} {H : Hp} (hT : ∀ p ∈ csK K, H p.2 = some (.tbl #[])) : LamX.Tabs (Gw K).T H := fun p hp => by
  have e : ∃ q ∈ csK K, p.1 = q.2 := by
    simp only [Gw, List.mem_cons, List.not_mem_nil, or_false] at hp
    rcases hp with rfl | rfl
    · exact ⟨_, List.mem_cons_self, rfl⟩
    · exact ⟨_, List.mem_cons_of_mem _ List.mem_cons_self, rfl⟩
  obtain ⟨q, hq, e⟩ := e
  refine ⟨#[], by rw [e]; exact hT q hq, trivial, fun pos cv hc => ?_⟩
  cases hc
theorem wish {K : PySem.W.Frag} {H : Hp} {a : Addr} {ns : List Int} (hl : ns.length ≤ 63) (hT : ∀ p ∈ csK K, H p.2 = some (.tbl #[])) (hS : SqL K H a (ns.map V.int)) : spM (Gw K) (fam 60 42) [.ref a] H (fun v _ => v = .bl true) fun _ _ _ => False := by
  have tb := tabs0 hT
  have fin : ∀ (u : U) (ι : List Addr) (h : Hs), VRels (Gw K) ι H [u] [.ref a] → Rep (Gw K) ι h H → Src h u ns → spM (Gw K) (fam 60 42) [.ref a] H (fun v _ => v = .bl true) fun _ _ _ => False := fun u ι h r R s => by
    obtain ⟨h', e⟩ := law_ok (k := 28) R.wf s (by omega)
    refine ⟨[u], ι, h, r, R, ?_⟩
    have e' : fam 60 42 [u] h = .ok (.bl true) h' := e
    rw [e']
    intro ι' H' b E R' rb
    cases rb
    rfl
  have frz : SqF K H a (ns.map V.int) → spM (Gw K) (fam 60 42) [.ref a] H (fun v _ => v = .bl true) fun _ _ _ => False := fun q => by
    refine fin (.frz (ns.map U.int)) [] Hs.nil (.cons (.frz q (vrels_int ns)) .nil) ⟨Hs.wf_nil, rfl, List.nodup_nil, fun i b e => by simp at e, tb⟩ (.inl rfl)
  rcases hS with (q | q) | q
  · refine fin (.ref 0) [a] (Hs.nil.new (.lst (ns.map U.int))) (.cons (.ref rfl) .nil) ⟨Hs.wf_new Hs.wf_nil, rfl, by simp, fun i b e => ?_, tb⟩ (.inr ⟨0, rfl, Hs.get_new_same Hs.wf_nil⟩)
    have hi : i = 0 := by
      have := (List.getElem?_eq_some_iff.mp e).1
      simpa using this
    subst hi
    have : a = b := by simpa using e
    subst this
    exact ⟨_, _, Hs.get_new_same Hs.wf_nil, q, .lst (vrels_int ns)⟩
  · exact frz (.inl q)
  · exact frz (.inr q)
theorem facts {w : World} {K : PySem.W.Frag} {h : Heap} {mg : Str → Option Value} {f : Addr} (X : K.In h) (G : h.Ns mainGlobals mg) (hfa : mg ("law" : Str) = some (.ref f)) (c : SaysS fa fn ts tf ex sd w h K) :
    LamX.LawAtS PySem.Challenge.rw_elasticsheets_k89_texts_of_papers_that_c w K (L2.CX prg w) 183 63 "script" mg f h := by
  obtain ⟨fd, FD⟩ := c.x.t.d.def_ 30 (d := D_law) rfl
  have hcd := funD_code FD
  have hg := He.glo_ok X G (c.x.t.d.facts (f := .glo "law") (by simp [fa]))
  have ef : f = He.ga K "law" := by
    rw [hg] at hfa
    cases hfa
    rfl
  subst ef
  have b := FunD.bindsA (ps := ["script"]) FD fun _ _ _ _ _ _ us hl => match us, hl with | [_], _ => rfl
  have inT : ∀ p ∈ csK K, ∃ q ∈ tf, p = He.cT K q := fun p hp => by
    simp only [csK, List.mem_cons, List.not_mem_nil, or_false] at hp
    rcases hp with rfl | rfl
    · exact ⟨("_law_deep_right", none), by simp [tf], rfl⟩
    · exact ⟨("law", none), by simp [tf], rfl⟩
  refine ⟨fd, csK K, spM (Gw K) (fam 60 42), fun p hp => ?_, fun p hp => ?_, fun p hp => ?_, fun s u => b s [u] rfl, fun H a ns hl _ hT hS => wish hl hT hS, fun base KX G' TB => ?_⟩
  · obtain ⟨q, hq, rfl⟩ := inT p hp
    exact c.x.empty q hq
  · obtain ⟨q, hq, rfl⟩ := inT p hp
    exact c.x.out q hq
  · obtain ⟨q, hq, rfl⟩ := inT p hp
    exact PySem.W.codeHd_of_K X (c.x.hd q hq)
  · have F := fx_of (base := base) X G c fun p hp => TB (He.cT K p) (by
      simp only [tf, List.mem_cons, List.not_mem_nil, or_false] at hp
      rcases hp with rfl | rfl
      · exact List.mem_cons_self
      · exact List.mem_cons_of_mem _ List.mem_cons_self)
    exact okD_law (n := 59) F (ih_all F 59) FD hcd
end K89
open PySem PySem.W PySem.Calls PyProof.Rows
set_option maxRecDepth 100000 in
set_option maxHeartbeats 0 in
theorem PySem.Challenge.cw_elasticsheets_k89_texts_of_papers_that_c_holds : PySem.Challenge.rw_elasticsheets_k89_texts_of_papers_that_c.Holds := by
  w_on; o_law
  refine HandSHeadRun.head_any (r := OpenLaw.row PySem.Challenge.rw_elasticsheets_k89_texts_of_papers_that_c) (q := view (OpenLaw.row PySem.Challenge.rw_elasticsheets_k89_texts_of_papers_that_c).prog [69]) (H := K89.hk) (ob := K89.ob) (M := 60000) (loose := K89.loose) (d := HandSHeadRun.topDef (OpenLaw.row PySem.Challenge.rw_elasticsheets_k89_texts_of_papers_that_c).prog 69) (kwd := []) K89.ob_eq
    (by kernel_rfl) (fun s => by kernel_rfl) K89.run (by kernel_rfl) (by kernel_rfl) (by kernel_rfl) (by rfl) (by first | assumption | decide +kernel) (by decide +kernel) ⟨rfl, rfl, rfl, rfl, rfl, by decide +kernel⟩ ?hw ?hc
  case hw => w_witness2
  case hc =>
    refine LamX.walk_ofTsE (l := PySem.Challenge.rw_elasticsheets_k89_texts_of_papers_that_c) (n := 63) (k := 183) (x := "script") (CX := fun w => L2.CX K89.prg w) rfl (by decide) (by kernel_rfl) ⟨rfl, by decide, by decide⟩ ?F ?hCX
    case F =>
      intro w mg fa h Y G hmg0
      obtain ⟨K, KX, c⟩ := Y
      have hmg : mg ("law" : PySem.Str) = some (.ref fa) := by
        have e : (HandSHeadRun.topDef (OpenLaw.row PySem.Challenge.rw_elasticsheets_k89_texts_of_papers_that_c).prog 69).name = ("law" : PySem.Str) := by kernel_rfl
        rw [← e]
        exact hmg0
      exact ⟨K, KX, K89.facts KX G hmg c⟩
    case hCX =>
      rintro w H s e s' ⟨_, _, _, _, _, _, _, _, _, _, _, _, z⟩
      exact z

