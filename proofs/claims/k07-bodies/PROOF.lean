import PyProof.Rows.All
import Wide.All
import OpenK.AllK
import Wide.FinOn
import HandS.ForExc
import HandS.ForMost
import HandS.Lambda
import HandS.EndTab
import HandS.Flow
import HandS.Style
import HandS.Deep
import HandS.TupAny
import HandS.CallSlots
import HandS.ExcOwn
import HandS.RaiseMore
import PyProof.P3In
import PyProof.Rows.InDataRows
import HandS.Text
import HandS.Dict
import HandS.HeadWalk
import HandS.SetKeys
import HandS.More
import HandS.SortInts
import HandS.IsInst
import HandS.Conv
import HandS.ListItems
import KE.KDictList
import HandS.Iter
import HandS.Zip
import HandS.Rev
import HandS.RevRange
import HandS.Walk
import HandS.DictComp
import KE.GoesEnum
import HandS.Comp
import HandS.ExcInit
import HandS.ExcSuper
import HandS.Small
import KE.KExcSuper
import HandS.TryMany
import HandS.ExcField
import KE.KDictPairs
import KE.SortKeyHeap
import KE.KSortKey
import HandS.WordsExc
import KE.KNestM
import HandS.Head0
import HandS.Head1
import HandS.Head2
import HandS.HeadEnd
import HandS.HeadHook1
import HandS.HeadHook2
import HandS.HeadHook3
import KE.KStateDown
import Wide.Once
import PySem.Challenge.RW_objecthall_k07_bodies_looked_at
set_option Elab.async false
set_option linter.all false
set_option maxRecDepth 100000
set_option maxHeartbeats 4000000
/-! DA: own values, own heap, what an evaluation gives; how they stand to HandS' values and heap. -/
namespace DD
open PySem PySem.Spec PyProof.Rows L2

/-! ### values, objects -/
inductive PV where
  | non | bl (b : Bool) | int (i : Int) | str (x : Str) | tup (xs : List PV) | obj (i : Nat)
  | exn (c : Nat) (fs : List (Str × PV))
  | unk (n : Nat)
  deriving Inhabited

inductive Ob where
  | lst (xs : List PV) | dct (kvs : List (Key × PV)) | ins (c : Nat) (fs : List (Str × PV))
  | frz (o : Ob)
  deriving Inhabited

/-! ### the heap: a tree by the bits of a number -/
inductive Tr where
  | nil | node (v : Option Ob) (l r : Tr) | bkt (xs : List (Nat × Ob))
def Tr.get : Nat → Tr → Nat → Option Ob
  | 0, .bkt xs, i => xs.lookup i
  | 0, _, _ => none
  | d + 1, .node v l r, i => match Nat.beq i 0 with
    | true => v
    | false => match Nat.beq (i % 2) 1 with
      | true => Tr.get d l (i / 2)
      | false => Tr.get d r (i / 2 - 1)
  | _ + 1, _, _ => none
def Tr.set : Nat → Tr → Nat → Ob → Tr
  | 0, .bkt xs, i, o => .bkt ((i, o) :: xs)
  | 0, _, i, o => .bkt [(i, o)]
  | d + 1, .node v l r, i, o => match Nat.beq i 0 with
    | true => .node (some o) l r
    | false => match Nat.beq (i % 2) 1 with
      | true => .node v (Tr.set d l (i / 2) o) r
      | false => .node v l (Tr.set d r (i / 2 - 1) o)
  | d + 1, _, i, o => match Nat.beq i 0 with
    | true => .node (some o) .nil .nil
    | false => match Nat.beq (i % 2) 1 with
      | true => .node none (Tr.set d .nil (i / 2) o) .nil
      | false => .node none .nil (Tr.set d .nil (i / 2 - 1) o)
theorem beqN (a b : Nat) : Nat.beq a b = decide (a = b) := PySem.W.BT.beq_eq a b
theorem Tr.get_nil : ∀ (d i : Nat), Tr.get d .nil i = none
  | 0, _ => rfl
  | _ + 1, _ => rfl
theorem Tr.get_node (d : Nat) (v : Option Ob) (l r : Tr) (i : Nat) : Tr.get (d + 1) (.node v l r) i = if i = 0 then v else if i % 2 = 1 then Tr.get d l (i / 2) else Tr.get d r (i / 2 - 1) := by
  show (match Nat.beq i 0 with | true => v | false => match Nat.beq (i % 2) 1 with | true => Tr.get d l (i / 2) | false => Tr.get d r (i / 2 - 1)) = _
  rw [beqN, beqN]
  by_cases h : i = 0
  · simp [h]
  · by_cases q : i % 2 = 1 <;> simp [h, q]
theorem Tr.set_node (d : Nat) (v : Option Ob) (l r : Tr) (i : Nat) (o : Ob) : Tr.set (d + 1) (.node v l r) i o = if i = 0 then .node (some o) l r else if i % 2 = 1 then .node v (Tr.set d l (i / 2) o) r else .node v l (Tr.set d r (i / 2 - 1) o) := by
  show (match Nat.beq i 0 with | true => Tr.node (some o) l r | false => match Nat.beq (i % 2) 1 with | true => .node v (Tr.set d l (i / 2) o) r | false => .node v l (Tr.set d r (i / 2 - 1) o)) = _
  rw [beqN, beqN]
  by_cases h : i = 0
  · simp [h]
  · by_cases q : i % 2 = 1 <;> simp [h, q]
theorem Tr.get_set (o : Ob) : ∀ (d : Nat) (t : Tr) (i j : Nat), (Tr.set d t i o).get d j = if j = i then some o else t.get d j
  | 0, t, i, j => by
    cases t with
    | bkt xs =>
      show List.lookup j ((i, o) :: xs) = _
      by_cases h : j = i
      · simp [h, List.lookup]
      · rw [if_neg h]
        show (match j == i with | true => some o | false => List.lookup j xs) = _
        rw [show (j == i) = false by simp [h]]
        rfl
    | nil =>
      show List.lookup j [(i, o)] = _
      by_cases h : j = i
      · simp [h, List.lookup]
      · rw [if_neg h]
        show (match j == i with | true => some o | false => List.lookup j []) = _
        rw [show (j == i) = false by simp [h]]
        rfl
    | node v l r =>
      show List.lookup j [(i, o)] = _
      by_cases h : j = i
      · simp [h, List.lookup]
      · rw [if_neg h]
        show (match j == i with | true => some o | false => List.lookup j []) = _
        rw [show (j == i) = false by simp [h]]
        rfl
  | d + 1, t, i, j => by
    have key : ∀ (v : Option Ob) (l r : Tr), (Tr.set (d + 1) (.node v l r) i o).get (d + 1) j = if j = i then some o else (Tr.node v l r).get (d + 1) j := by
      intro v l r
      rw [Tr.set_node, Tr.get_node]
      by_cases hi : i = 0
      · rw [if_pos hi, Tr.get_node]
        by_cases hj : j = 0
        · simp [hi, hj]
        · have : ¬ j = i := by omega
          simp [hj, this]
      · rw [if_neg hi]
        by_cases pi : i % 2 = 1
        · rw [if_pos pi, Tr.get_node, Tr.get_set o d l]
          by_cases hj : j = 0
          · have : ¬ j = i := by omega
            simp [hj, this, Ne.symm hi]
          · by_cases pj : j % 2 = 1
            · by_cases e : j = i
              · simp [e, hi, pi]
              · have : ¬ j / 2 = i / 2 := by omega
                simp [hj, pj, e, this]
            · have : ¬ j = i := fun q => pj (q ▸ pi)
              simp [hj, pj, this]
        · rw [if_neg pi, Tr.get_node, Tr.get_set o d r]
          by_cases hj : j = 0
          · have : ¬ j = i := by omega
            simp [hj, this, Ne.symm hi]
          · by_cases pj : j % 2 = 1
            · have : ¬ j = i := fun q => pi (q ▸ pj)
              simp [hj, pj, this]
            · by_cases e : j = i
              · simp [e, hi, pi]
              · have : ¬ j / 2 - 1 = i / 2 - 1 := by omega
                simp [hj, pj, e, this]
    have two : ∀ t : Tr, (∀ v l r, t ≠ .node v l r) → (Tr.set (d + 1) t i o).get (d + 1) j = if j = i then some o else t.get (d + 1) j := by
      intro t ht
      have e1 : Tr.set (d + 1) t i o = Tr.set (d + 1) (.node none .nil .nil) i o := by
        cases t with
        | node v l r => exact absurd rfl (ht v l r)
        | nil => rfl
        | bkt xs => rfl
      have e2 : t.get (d + 1) j = (Tr.node none .nil .nil).get (d + 1) j := by
        rw [Tr.get_node, Tr.get_nil, Tr.get_nil]
        cases t with
        | node v l r => exact absurd rfl (ht v l r)
        | nil =>
          show none = _
          split <;> simp
        | bkt xs =>
          show none = _
          split <;> simp
      rw [e1, e2]
      exact key _ _ _
    cases t with
    | node v l r => exact key v l r
    | nil => exact two _ (fun _ _ _ z => by cases z)
    | bkt xs => exact two _ (fun _ _ _ z => by cases z)

structure Hh where
  n : Nat
  t : Tr
def Hh.get (h : Hh) (i : Nat) : Option Ob := match Nat.blt i h.n with
  | true => h.t.get 24 i
  | false => none
def Hh.put (h : Hh) (i : Nat) (o : Ob) : Hh := ⟨h.n, h.t.set 24 i o⟩
def Hh.push (h : Hh) (o : Ob) : Hh := ⟨h.n + 1, h.t.set 24 h.n o⟩
def Hh.nil : Hh := ⟨0, .nil⟩
theorem bltN (a b : Nat) : Nat.blt a b = decide (a < b) := by
  by_cases h : a < b
  · rw [decide_eq_true h]; exact Nat.ble_eq_true_of_le h
  · rw [decide_eq_false h]
    cases q : Nat.blt a b with
    | false => rfl
    | true => exact absurd (Nat.le_of_ble_eq_true q) h
theorem Hh.get_def (h : Hh) (i : Nat) : h.get i = if i < h.n then h.t.get 24 i else none := by
  unfold Hh.get
  rw [bltN]
  by_cases q : i < h.n <;> simp [q]
theorem Hh.get_lt {h : Hh} {i : Nat} {o : Ob} (e : h.get i = some o) : i < h.n := by
  rw [Hh.get_def] at e
  by_cases q : i < h.n
  · exact q
  · rw [if_neg q] at e; cases e
theorem Hh.get_ge {h : Hh} {i : Nat} (e : h.n ≤ i) : h.get i = none := by
  rw [Hh.get_def, if_neg (by omega)]
theorem Hh.get_put (h : Hh) (i j : Nat) (o : Ob) (hi : i < h.n) : (h.put i o).get j = if j = i then some o else h.get j := by
  rw [Hh.get_def, Hh.get_def]
  show (if j < h.n then (h.t.set 24 i o).get 24 j else none) = _
  rw [Tr.get_set]
  by_cases e : j = i
  · rw [if_pos e, if_pos e, if_pos (by omega)]
  · rw [if_neg e, if_neg e]
theorem Hh.get_push (h : Hh) (j : Nat) (o : Ob) : (h.push o).get j = if j = h.n then some o else h.get j := by
  rw [Hh.get_def, Hh.get_def]
  show (if j < h.n + 1 then (h.t.set 24 h.n o).get 24 j else none) = _
  rw [Tr.get_set]
  by_cases e : j = h.n
  · rw [if_pos e, if_pos e, if_pos (by omega)]
  · rw [if_neg e, if_neg e]
    by_cases q : j < h.n
    · rw [if_pos q, if_pos (by omega)]
    · rw [if_neg q, if_neg (by omega)]
theorem Hh.n_put (h : Hh) (i : Nat) (o : Ob) : (h.put i o).n = h.n := rfl
theorem Hh.n_push (h : Hh) (o : Ob) : (h.push o).n = h.n + 1 := rfl

/-! ### what an evaluation gives -/
inductive Res (α : Type) where
  | ok (a : α) (h : Hh)
  | exc (c : Nat) (fs : List (Str × PV)) (h : Hh)
  | bad
def Res.bind {α β : Type} : Res α → (α → Hh → Res β) → Res β
  | .ok a h, k => k a h
  | .exc c fs h, _ => .exc c fs h
  | .bad, _ => .bad
abbrev Env' := List (Option PV)
abbrev SE := Env' → Hh → Res PV

/-! ### the ties -/
/-- a tuple that is known to the last -/
def Nod (K : PySem.W.Frag) (H : Hp) (a : Addr) (vs : List V) : Prop := (∃ ob : Obj, H a = some (.frz ob (.tup vs)) ∧ ob.dict = none) ∨
  ∃ (o : Obj) (its : Array Value) (n : Nat), K.lookup a = some o ∧ o.cls = .type "tuple" ∧ o.dict = none ∧ o.data = .seq its n ∧ Vals vs its.toList
/-- a tuple; known to the last unless it is a pair -/
def SqE (K : PySem.W.Frag) (H : Hp) (a : Addr) (vs : List V) : Prop := SqT K H a vs ∧ (vs.length ≠ 2 → Nod K H a vs)
/-- what the unknown ones stand for -/
class Ups where
  up : Nat → PV
section
variable (K : PySem.W.Frag) (H : Hp)
mutual
/-- plain values: nothing by number, nothing unknown -/
def RPu : PV → V → Prop
  | .non, v => v = .non
  | .bl b, v => v = .bl b
  | .int i, v => v = .int i
  | .str x, v => v = .str x
  | .tup xs, v => ∃ a vs, v = .ref a ∧ SqE K H a vs ∧ RPus xs vs
  | .obj _, _ => False
  | .exn _ _, _ => False
  | .unk _, _ => False
def RPus : List PV → List V → Prop
  | [], vs => vs = []
  | x :: xs, vs => ∃ v r, vs = v :: r ∧ RPu x v ∧ RPus xs r
end
end
section
variable [Ups] (K : PySem.W.Frag) (ρ : List Addr) (H : Hp)
mutual
def RV : PV → V → Prop
  | .non, v => v = .non
  | .bl b, v => v = .bl b
  | .int i, v => v = .int i
  | .str x, v => v = .str x
  | .obj i, v => ∃ a, ρ[i]? = some a ∧ v = .ref a
  | .tup xs, v => ∃ a vs, v = .ref a ∧ SqE K H a vs ∧ RVs xs vs
  | .exn _ _, _ => False
  | .unk n, v => RPu K H (Ups.up n) v
def RVs : List PV → List V → Prop
  | [], vs => vs = []
  | x :: xs, vs => ∃ v r, vs = v :: r ∧ RV x v ∧ RVs xs r
end
/-- fields, entries: one by one -/
def RFs {κ : Type} : List (κ × PV) → List (κ × V) → Prop
  | [], vs => vs = []
  | (k, x) :: xs, vs => ∃ v r, vs = (k, v) :: r ∧ RV K ρ H x v ∧ RFs xs r
def RO (ca : Nat → Addr) : Ob → HO → Prop
  | .lst xs, o => ∃ vs, o = .lst vs ∧ RVs K ρ H xs vs
  | .dct kvs, o => ∃ vs, o = .dK vs ∧ RFs K ρ H kvs vs
  | .ins c fs, o => ∃ dx vs, o = .ins (ca c) dx vs ∧ RFs K ρ H fs vs
  | .frz u, o => ∃ ob v, o = .frz ob v ∧ RO ca u v ∧ Mut (some v)
end
variable [Ups]
/-- the tables of code objects of those defs that make lambdas: the table of the i-th stands at ca (900 + i), if there -/
def lamDefs : List (Nat × Str) := [(900, "law"), (901, "coloured"), (902, "given_out"), (903, "as_they_stand"), (904, "as_blocks"), (905, "as_orders"), (906, "as_pieces"), (907, "law_b"), (908, "law_c")]
def tabsOf (ca : Nat → Addr) : List (Addr × Str) := lamDefs.filterMap fun p => if ca p.1 = 0 then none else some (ca p.1, p.2 ++ ".<locals>." ++ "<lambda>")
structure Rel (K : PySem.W.Frag) (ca : Nat → Addr) (ρ : List Addr) (h : Hh) (H : Hp) : Prop where
  len : ρ.length = h.n
  nd : ρ.Nodup
  at_ : ∀ i a, ρ[i]? = some a → ∃ o u, h.get i = some o ∧ H a = some u ∧ RO K ρ H ca o u
  tb : LamX.Tabs (tabsOf ca) H
/-- nothing there, or a table -/
def Nn (o : Option HO) : Prop := o = none ∨ ∃ ps, o = some (.tbl ps)
theorem Nn.not {o : HO} (n : ∀ ps, o ≠ .tbl ps) (z : Nn (some o)) : False := by
  rcases z with z | ⟨ps, z⟩
  · cases z
  · cases z; exact n ps rfl
structure Ext0 (ρ : List Addr) (H : Hp) (ρ' : List Addr) (H' : Hp) : Prop where
  more : ∃ m, ρ' = ρ ++ m ∧ ∀ a ∈ m, Nn (H a)
  keep : ∀ a o, H a = some o → a ∉ ρ → (∀ ps, o ≠ .tbl ps) → H' a = some o
  dom : ∀ a, Nn (H' a) → Nn (H a)
theorem Ext0.refl (ρ : List Addr) (H : Hp) : Ext0 ρ H ρ H := ⟨⟨[], by simp, fun _ z => by cases z⟩, fun _ _ e _ _ => e, fun _ e => e⟩
theorem Ext0.trans {ρ ρ1 ρ2 : List Addr} {H H1 H2 : Hp} (a : Ext0 ρ H ρ1 H1) (b : Ext0 ρ1 H1 ρ2 H2) : Ext0 ρ H ρ2 H2 := by
  obtain ⟨⟨m1, e1, f1⟩, k1, d1⟩ := a
  obtain ⟨⟨m2, e2, f2⟩, k2, d2⟩ := b
  have sub : ∀ x o, H x = some o → x ∉ ρ → (∀ ps, o ≠ .tbl ps) → x ∉ ρ1 := fun x o e n t z => by
    rw [e1] at z
    rcases List.mem_append.mp z with z | z
    · exact n z
    · have := f1 x z; rw [e] at this; exact this.not t
  refine ⟨⟨m1 ++ m2, by rw [e2, e1, List.append_assoc], fun x hx => ?_⟩, fun x o e n t => k2 x o (k1 x o e n t) (sub x o e n t) t, fun x e => d1 x (d2 x e)⟩
  rcases List.mem_append.mp hx with z | z
  · exact f1 x z
  · exact d1 x (f2 x z)
theorem Ext0.at_ {ρ ρ' : List Addr} {H H' : Hp} (e : Ext0 ρ H ρ' H') {i : Nat} {a : Addr} (h : ρ[i]? = some a) : ρ'[i]? = some a := by
  obtain ⟨⟨m, e1, _⟩, _, _⟩ := e
  rw [e1, List.getElem?_append_left]
  · exact h
  · exact (List.getElem?_eq_some_iff.mp h).1
/-- .. and what is locked stays -/
structure Ext (ρ : List Addr) (H : Hp) (ρ' : List Addr) (H' : Hp) : Prop extends Ext0 ρ H ρ' H' where
  frz : ∀ a o u, H a = some (.frz o u) → H' a = some (.frz o u)
theorem Ext.refl (ρ : List Addr) (H : Hp) : Ext ρ H ρ H := ⟨Ext0.refl _ _, fun _ _ _ e => e⟩
theorem Ext.trans {ρ ρ1 ρ2 : List Addr} {H H1 H2 : Hp} (a : Ext ρ H ρ1 H1) (b : Ext ρ1 H1 ρ2 H2) : Ext ρ H ρ2 H2 := ⟨a.toExt0.trans b.toExt0, fun x o u e => b.frz x o u (a.frz x o u e)⟩
theorem Ext.at_ {ρ ρ' : List Addr} {H H' : Hp} (e : Ext ρ H ρ' H') {i : Nat} {a : Addr} (h : ρ[i]? = some a) : ρ'[i]? = some a := e.toExt0.at_ h
section
variable {K : PySem.W.Frag} {ca : Nat → Addr} {ρ ρ' : List Addr} {h h' : Hh} {H H' : Hp}
theorem RO.notup {o : Ob} {u : HO} (r : RO K ρ H ca o u) : ∀ xs, u ≠ .tup xs ∧ ∀ ob, u ≠ .frz ob (.tup xs) := by
  intro xs
  cases o with
  | lst _ => obtain ⟨_, rfl, _⟩ := r; exact ⟨fun z => (by cases z), fun _ z => (by cases z)⟩
  | dct _ => obtain ⟨_, rfl, _⟩ := r; exact ⟨fun z => (by cases z), fun _ z => (by cases z)⟩
  | ins _ _ => obtain ⟨_, _, rfl, _⟩ := r; exact ⟨fun z => (by cases z), fun _ z => (by cases z)⟩
  | frz _ =>
    obtain ⟨_, v, rfl, _, m⟩ := r
    refine ⟨fun z => (by cases z), fun _ z => ?_⟩
    injection z with _ z
    subst z
    exact m
theorem Rel.notin (R : Rel K ca ρ h H) {a : Addr} {xs : List V} (e : Rd H a (.tup xs)) : a ∉ ρ := by
  intro hm
  obtain ⟨i, hi⟩ := List.getElem?_of_mem hm
  obtain ⟨o, u, _, hu, r⟩ := R.at_ i a hi
  have n := r.notup xs
  rcases e with e | ⟨ob, e⟩
  · rw [hu] at e; cases e; exact n.1 rfl
  · rw [hu] at e; cases e; exact n.2 _ rfl
theorem SqT.ext0 (R : Rel K ca ρ h H) (E : Ext0 ρ H ρ' H') {a : Addr} {xs : List V} (s : SqT K H a xs) : SqT K H' a xs := by
  rcases s with s | s
  · have n := R.notin s
    rcases s with s | ⟨o, s⟩
    · exact .inl (.inl (E.keep _ _ s n fun _ z => by cases z))
    · exact .inl (.inr ⟨o, E.keep _ _ s n fun _ z => by cases z⟩)
  · exact .inr s
theorem SqE.ext0 (R : Rel K ca ρ h H) (E : Ext0 ρ H ρ' H') {a : Addr} {xs : List V} (s : SqE K H a xs) : SqE K H' a xs := by
  refine ⟨SqT.ext0 R E s.1, fun e => ?_⟩
  rcases s.2 e with ⟨ob, h1, h2⟩ | k
  · exact .inl ⟨ob, E.keep _ _ h1 (R.notin (.inr ⟨ob, h1⟩)) (fun _ z => by cases z), h2⟩
  · exact .inr k
mutual
theorem RPu.ext0 (R : Rel K ca ρ h H) (E : Ext0 ρ H ρ' H') : ∀ (w : PV) (v : V), RPu K H w v → RPu K H' w v
  | .non, _, r => by simpa [RPu] using r
  | .bl _, _, r => by simpa [RPu] using r
  | .int _, _, r => by simpa [RPu] using r
  | .str _, _, r => by simpa [RPu] using r
  | .obj i, v, r => by simpa [RPu] using r
  | .tup xs, v, r => by
    unfold RPu at r ⊢
    obtain ⟨a, vs, e, q, t⟩ := r
    exact ⟨a, vs, e, SqE.ext0 R E q, RPus.ext0 R E xs vs t⟩
  | .exn _ _, _, r => by simpa [RPu] using r
  | .unk _, _, r => by simpa [RPu] using r
theorem RPus.ext0 (R : Rel K ca ρ h H) (E : Ext0 ρ H ρ' H') : ∀ (ws : List PV) (vs : List V), RPus K H ws vs → RPus K H' ws vs
  | [], _, r => by simpa [RPus] using r
  | x :: xs, vs, r => by
    unfold RPus at r ⊢
    obtain ⟨v, t, e, q, s⟩ := r
    exact ⟨v, t, e, RPu.ext0 R E x v q, RPus.ext0 R E xs t s⟩
end
mutual
theorem RV.ext0 (R : Rel K ca ρ h H) (E : Ext0 ρ H ρ' H') : ∀ (w : PV) (v : V), RV K ρ H w v → RV K ρ' H' w v
  | .non, _, r => by simpa [RV] using r
  | .bl _, _, r => by simpa [RV] using r
  | .int _, _, r => by simpa [RV] using r
  | .str _, _, r => by simpa [RV] using r
  | .obj i, v, r => by
    unfold RV at r ⊢
    obtain ⟨a, e, q⟩ := r
    exact ⟨a, E.at_ e, q⟩
  | .tup xs, v, r => by
    unfold RV at r ⊢
    obtain ⟨a, vs, e, q, t⟩ := r
    exact ⟨a, vs, e, SqE.ext0 R E q, RVs.ext0 R E xs vs t⟩
  | .exn _ _, _, r => by simpa [RV] using r
  | .unk n, v, r => by
    unfold RV at r ⊢
    exact RPu.ext0 R E _ v r
theorem RVs.ext0 (R : Rel K ca ρ h H) (E : Ext0 ρ H ρ' H') : ∀ (ws : List PV) (vs : List V), RVs K ρ H ws vs → RVs K ρ' H' ws vs
  | [], _, r => by simpa [RVs] using r
  | x :: xs, vs, r => by
    unfold RVs at r ⊢
    obtain ⟨v, t, e, q, s⟩ := r
    exact ⟨v, t, e, RV.ext0 R E x v q, RVs.ext0 R E xs t s⟩
end
theorem RFs.ext0 {κ : Type} (R : Rel K ca ρ h H) (E : Ext0 ρ H ρ' H') : ∀ (ws : List (κ × PV)) (vs : List (κ × V)), RFs K ρ H ws vs → RFs K ρ' H' ws vs
  | [], _, r => r
  | (k, x) :: xs, vs, ⟨v, t, e, q, s⟩ => ⟨v, t, e, RV.ext0 R E x v q, RFs.ext0 R E xs t s⟩
theorem RO.ext0 (R : Rel K ca ρ h H) (E : Ext0 ρ H ρ' H') : ∀ (o : Ob) (u : HO), RO K ρ H ca o u → RO K ρ' H' ca o u
  | .lst _, _, ⟨vs, e, r⟩ => ⟨vs, e, RVs.ext0 R E _ _ r⟩
  | .dct _, _, ⟨vs, e, r⟩ => ⟨vs, e, RFs.ext0 R E _ _ r⟩
  | .ins _ _, _, ⟨dx, vs, e, r⟩ => ⟨dx, vs, e, RFs.ext0 R E _ _ r⟩
  | .frz o, _, ⟨ob, v, e, r, m⟩ => ⟨ob, v, e, RO.ext0 R E o v r, m⟩
theorem RV.ext (R : Rel K ca ρ h H) (E : Ext ρ H ρ' H') (w : PV) (v : V) (r : RV K ρ H w v) : RV K ρ' H' w v := RV.ext0 R E.toExt0 w v r
theorem RVs.ext (R : Rel K ca ρ h H) (E : Ext ρ H ρ' H') (w : List PV) (v : List V) (r : RVs K ρ H w v) : RVs K ρ' H' w v := RVs.ext0 R E.toExt0 w v r
theorem RFs.ext {κ : Type} (R : Rel K ca ρ h H) (E : Ext ρ H ρ' H') (w : List (κ × PV)) (v : List (κ × V)) (r : RFs K ρ H w v) : RFs K ρ' H' w v := RFs.ext0 R E.toExt0 w v r
theorem RO.ext (R : Rel K ca ρ h H) (E : Ext ρ H ρ' H') (o : Ob) (u : HO) (r : RO K ρ H ca o u) : RO K ρ' H' ca o u := RO.ext0 R E.toExt0 o u r
theorem RVs.length : ∀ {ws : List PV} {vs : List V}, RVs K ρ H ws vs → ws.length = vs.length
  | [], vs, r => by unfold RVs at r; subst r; rfl
  | x :: xs, vs, r => by
    unfold RVs at r
    obtain ⟨v, t, e, _, s⟩ := r
    subst e
    simp [RVs.length s]
theorem RVs.nil : RVs K ρ H [] [] := by unfold RVs; rfl
theorem RVs.cons {w : PV} {v : V} {ws : List PV} {vs : List V} (a : RV K ρ H w v) (b : RVs K ρ H ws vs) : RVs K ρ H (w :: ws) (v :: vs) := by
  unfold RVs; exact ⟨v, vs, rfl, a, b⟩
theorem RVs.inv {w : PV} {ws : List PV} {vs : List V} (r : RVs K ρ H (w :: ws) vs) : ∃ v t, vs = v :: t ∧ RV K ρ H w v ∧ RVs K ρ H ws t := by
  unfold RVs at r; exact r
theorem RVs.inv0 {vs : List V} (r : RVs K ρ H [] vs) : vs = [] := by unfold RVs at r; exact r
theorem RVs.get : ∀ {ws : List PV} {vs : List V} {i : Nat} {w : PV}, RVs K ρ H ws vs → ws[i]? = some w → ∃ v, vs[i]? = some v ∧ RV K ρ H w v
  | [], _, _, _, _, e => by simp at e
  | x :: xs, vs, 0, w, r, e => by
    obtain ⟨v, t, rfl, q, _⟩ := r.inv
    simp at e; subst e
    exact ⟨v, rfl, q⟩
  | x :: xs, vs, i + 1, w, r, e => by
    obtain ⟨v, t, rfl, _, s⟩ := r.inv
    have := RVs.get (i := i) s (by simpa using e)
    simpa using this
theorem RVs.app : ∀ {ws ws' : List PV} {vs vs' : List V}, RVs K ρ H ws vs → RVs K ρ H ws' vs' → RVs K ρ H (ws ++ ws') (vs ++ vs')
  | [], _, _, _, r, s => by rw [r.inv0]; exact s
  | x :: xs, _, _, _, r, s => by
    obtain ⟨v, t, rfl, q, r⟩ := r.inv
    exact .cons q (RVs.app r s)
/-- an object of ours, where it stands -/
theorem Rel.obj (R : Rel K ca ρ h H) {i : Nat} {o : Ob} (e : h.get i = some o) : ∃ a u, ρ[i]? = some a ∧ H a = some u ∧ RO K ρ H ca o u := by
  have lt : i < ρ.length := by rw [R.len]; exact Hh.get_lt e
  obtain ⟨o', u, e', hu, r⟩ := R.at_ i ρ[i] (by simp [lt])
  rw [e] at e'; cases e'
  exact ⟨_, u, by simp [lt], hu, r⟩
theorem nodup_at : ∀ {l : List Addr}, l.Nodup → ∀ {i j : Nat} {a : Addr}, l[i]? = some a → l[j]? = some a → i = j
  | [], _, i, j, a, hi, _ => by simp at hi
  | x :: l, nd, i, j, a, hi, hj => by
    rw [List.nodup_cons] at nd
    cases i with
    | zero =>
      cases j with
      | zero => rfl
      | succ j =>
        simp at hi hj
        subst hi
        exact absurd (List.mem_of_getElem? hj) nd.1
    | succ i =>
      cases j with
      | zero =>
        simp at hi hj
        subst hj
        exact absurd (List.mem_of_getElem? hi) nd.1
      | succ j => exact congrArg Nat.succ (nodup_at (i := i) (j := j) nd.2 (by simpa using hi) (by simpa using hj))
/-- an untracked address gets an object that is none of ours (a tuple) -/
theorem Ext0.fresh {p : Addr} {u : HO} (n : H p = none) : Ext0 ρ H ρ (upd H p u) :=
  ⟨⟨[], by simp, fun _ z => by cases z⟩, fun a o e _ _ => by rw [upd_ne (ne_of_none e n)]; exact e, fun a e => by
    by_cases z : a = p
    · rw [z, n]; exact .inl rfl
    · rw [upd_ne z] at e; exact e⟩
theorem Ext.fresh {p : Addr} {u : HO} (n : H p = none) : Ext ρ H ρ (upd H p u) := ⟨Ext0.fresh n, fun a o x e => by rw [upd_ne (ne_of_none e n)]; exact e⟩
theorem Rel.fresh (R : Rel K ca ρ h H) {p : Addr} {u : HO} (n : H p = none) : Rel K ca ρ h (upd H p u) :=
  ⟨R.len, R.nd, fun i a e => by
    obtain ⟨o, v, e1, e2, r⟩ := R.at_ i a e
    exact ⟨o, v, e1, by rw [upd_ne (ne_of_none e2 n)]; exact e2, RO.ext R (Ext.fresh n) o v r⟩, R.tb.ext fun b o e => by rw [upd_ne (ne_of_none e n)]; exact e⟩
/-- a new object of ours -/
theorem Ext.new {p : Addr} {u : HO} (n : H p = none) : Ext ρ H (ρ ++ [p]) (upd H p u) :=
  ⟨⟨⟨[p], rfl, fun a z => by simp at z; rw [z, n]; exact .inl rfl⟩, (Ext.fresh (ρ := ρ) n).keep, (Ext.fresh (ρ := ρ) n).dom⟩, (Ext.fresh (ρ := ρ) n).frz⟩
theorem Rel.new (R : Rel K ca ρ h H) {p : Addr} {o : Ob} {u : HO} (n : H p = none) (r : RO K ρ H ca o u) : Rel K ca (ρ ++ [p]) (h.push o) (upd H p u) := by
  have np : p ∉ ρ := fun z => by
    obtain ⟨i, hi⟩ := List.getElem?_of_mem z
    obtain ⟨_, _, _, e2, _⟩ := R.at_ i p hi
    rw [n] at e2; cases e2
  refine ⟨by simp [R.len, Hh.n_push], ?_, fun i a e => ?_, R.tb.ext fun b o e => by rw [upd_ne (ne_of_none e n)]; exact e⟩
  · rw [List.nodup_append]
    exact ⟨R.nd, by simp, fun a ha b hb z => np (by simp at hb; rw [← hb, ← z]; exact ha)⟩
  · rw [Hh.get_push]
    by_cases q : i < ρ.length
    · rw [List.getElem?_append_left q] at e
      obtain ⟨o', v, e1, e2, r'⟩ := R.at_ i a e
      have : i ≠ h.n := by rw [← R.len]; omega
      exact ⟨o', v, by rw [if_neg this]; exact e1, by rw [upd_ne (ne_of_none e2 n)]; exact e2, RO.ext R (Ext.new n) o' v r'⟩
    · rw [List.getElem?_append_right (by omega)] at e
      have z : i - ρ.length = 0 := by
        by_cases z : i - ρ.length = 0
        · exact z
        · rw [List.getElem?_eq_none (by simp; omega)] at e; cases e
      have : i = h.n := by rw [← R.len]; omega
      rw [z] at e
      simp at e
      subst e
      exact ⟨o, u, by rw [if_pos this], upd_same, RO.ext R (Ext.new n) o u r⟩
theorem Rel.atNew (R : Rel K ca ρ h H) {p : Addr} : (ρ ++ [p])[h.n]? = some p := by
  rw [← R.len]; simp
/-- an object of ours is written -/
theorem Ext0.write {i : Nat} {a : Addr} {u : HO} (e : ρ[i]? = some a) (s : ∃ v, H a = some v) (hu : ∀ ps, u ≠ .tbl ps := by intro _ z; cases z) : Ext0 ρ H ρ (upd H a u) :=
  ⟨⟨[], by simp, fun _ z => by cases z⟩, fun b o eb n _ => by
    rw [upd_ne]
    · exact eb
    · intro z; subst z; exact n (List.mem_of_getElem? e), fun b e => by
    by_cases z : b = a
    · rw [z, upd_same] at e; exact (e.not hu).elim
    · rw [upd_ne z] at e; exact e⟩
theorem Ext.write {i : Nat} {a : Addr} {u : HO} (e : ρ[i]? = some a) (s : ∃ v, H a = some v) (m : Mut (H a)) (hu : ∀ ps, u ≠ .tbl ps := by intro _ z; cases z) : Ext ρ H ρ (upd H a u) := ⟨Ext0.write e s hu, fun b o x q => by
    rw [upd_ne (fun z => by rw [z] at q; rw [q] at m; exact m)]; exact q⟩
theorem RO.kind {o : Ob} {u : HO} (r : RO K ρ H ca o u) : (∀ ps, u ≠ .tbl ps) ∧ ∀ c q, u ≠ LamX.CodeO c q := by
  cases o with
  | lst _ => obtain ⟨_, rfl, _⟩ := r; exact ⟨fun _ z => (by cases z), fun _ _ z => (by unfold LamX.CodeO at z; cases z)⟩
  | dct _ => obtain ⟨_, rfl, _⟩ := r; exact ⟨fun _ z => (by cases z), fun _ _ z => (by unfold LamX.CodeO at z; cases z)⟩
  | ins _ _ => obtain ⟨_, _, rfl, _⟩ := r; exact ⟨fun _ z => (by cases z), fun _ _ z => (by unfold LamX.CodeO at z; cases z)⟩
  | frz _ => obtain ⟨_, v, rfl, _, m⟩ := r; exact ⟨fun _ z => (by cases z), fun _ _ z => (by unfold LamX.CodeO at z; cases z)⟩
/-- the tables, where a thing of another kind is written -/
theorem tabs_write {T : List (Addr × Str)} (t : LamX.Tabs T H) {a : Addr} {v u : HO} (e : H a = some v) (k : (∀ ps, v ≠ .tbl ps) ∧ ∀ c q, v ≠ LamX.CodeO c q) : LamX.Tabs T (upd H a u) := fun p hp => by
  obtain ⟨ps, h1, h2, h3⟩ := t p hp
  refine ⟨ps, ?_, h2, fun pos cv hc => ?_⟩
  · rw [upd_ne]
    · exact h1
    · intro z; rw [z, e] at h1; cases h1; exact k.1 _ rfl
  · obtain ⟨c, e1, e2⟩ := h3 pos cv hc
    refine ⟨c, e1, ?_⟩
    rw [upd_ne]
    · exact e2
    · intro z; rw [z, e] at e2; cases e2; exact k.2 _ _ rfl
theorem Rel.write (R : Rel K ca ρ h H) {i : Nat} {a : Addr} {o : Ob} {u : HO} (e : ρ[i]? = some a) (r : RO K ρ H ca o u) : Rel K ca ρ (h.put i o) (upd H a u) := by
  have lt : i < h.n := by rw [← R.len]; exact (List.getElem?_eq_some_iff.mp e).1
  obtain ⟨_, v0, _, ev, rv0⟩ := R.at_ i a e
  refine ⟨by rw [Hh.n_put]; exact R.len, R.nd, fun j b eb => ?_, tabs_write R.tb ev rv0.kind⟩
  rw [Hh.get_put _ _ _ _ lt]
  by_cases q : j = i
  · subst q
    rw [e] at eb; cases eb
    exact ⟨o, u, by rw [if_pos rfl], upd_same, RO.ext0 R (Ext0.write e ⟨_, ev⟩ r.kind.1) o u r⟩
  · obtain ⟨o', v, e1, e2, r'⟩ := R.at_ j b eb
    have nb : b ≠ a := fun z => by subst z; exact q (nodup_at R.nd eb e)
    exact ⟨o', v, by rw [if_neg q]; exact e1, by rw [upd_ne nb]; exact e2, RO.ext0 R (Ext0.write e ⟨_, ev⟩ r.kind.1) o' v r'⟩
/-- a thing of ours locked for a while: what is from behind the locking to some end, with the thing unlocked there -/
theorem Ext.unlock {d : Addr} {od : Obj} {u : HO} (m : Mut (some u)) (e : H d = some u) {i : Nat} (hi : ρ[i]? = some d) (hu : ∀ ps, u ≠ .tbl ps) (E : Ext ρ (upd H d (.frz od u)) ρ' H') : Ext ρ H ρ' (upd H' d u) := by
  obtain ⟨⟨⟨n, e1, f1⟩, k1, d1⟩, z1⟩ := E
  have at_ : ∀ a, Nn (upd H d (.frz od u) a) → Nn (H a) := fun a z => by
    by_cases q : a = d
    · rw [q, upd_same] at z; exact (z.not fun _ z => by cases z).elim
    · rw [upd_ne q] at z; exact z
  refine ⟨⟨⟨n, e1, fun a ha => at_ a (f1 a ha)⟩, fun a o q na nt => ?_, fun a q => ?_⟩, fun a o x q => ?_⟩
  · have q' : a ≠ d := fun z => na (z ▸ List.mem_of_getElem? hi)
    rw [upd_ne q']
    exact k1 a o (by rw [upd_ne q']; exact q) na nt
  · by_cases q' : a = d
    · rw [q', upd_same] at q; exact (q.not hu).elim
    · rw [upd_ne q'] at q
      exact at_ a (d1 a q)
  · have q' : a ≠ d := fun z => by rw [z, e] at q; cases q; exact m
    rw [upd_ne q']
    exact z1 a o x (by rw [upd_ne q']; exact q)
end
/-! ### the frame's names -/
def EnvR (K : PySem.W.Frag) (ρ : List Addr) (H : Hp) (τ : Env') (σ : L2.St) : Prop :=
  τ.length = σ.length ∧ ∀ (i : Nat) (w : PV), τ[i]? = some (some w) → ∃ v, σ[i]? = some (some v) ∧ RV K ρ H w v
theorem EnvR.ext {K : PySem.W.Frag} {ca : Nat → Addr} {ρ ρ' : List Addr} {h : Hh} {H H' : Hp} {τ : Env'} {σ : L2.St} (R : Rel K ca ρ h H) (E : Ext ρ H ρ' H') (r : EnvR K ρ H τ σ) : EnvR K ρ' H' τ σ :=
  ⟨r.1, fun i w e => by
    obtain ⟨v, e1, q⟩ := r.2 i w e
    exact ⟨v, e1, RV.ext R E w v q⟩⟩
theorem EnvR.set {K : PySem.W.Frag} {ρ : List Addr} {H : Hp} {τ : Env'} {σ : L2.St} (r : EnvR K ρ H τ σ) {w : PV} {v : V} (q : RV K ρ H w v) (i : Nat) : EnvR K ρ H (τ.set i (some w)) (σ.set i (some v)) := by
  refine ⟨by simp [r.1], fun j x e => ?_⟩
  rw [List.getElem?_set] at e ⊢
  by_cases z : i = j
  · subst z
    rw [if_pos rfl] at e ⊢
    by_cases l : i < τ.length
    · rw [if_pos l] at e
      rw [if_pos (by rw [← r.1]; exact l)]
      cases e
      exact ⟨v, rfl, q⟩
    · rw [if_neg l] at e; cases e
  · rw [if_neg z] at e ⊢
    exact r.2 j x e

/-! ### what is to hold behind an evaluation -/
/-- what is wished of an exception: its class's number, its fields -/
abbrev WX' := Nat → List (Str × PV) → Hh → List Addr → Hp → Prop
section
variable (K : PySem.W.Frag) (ca : Nat → Addr)
def Wp {α β : Type} (RA : List Addr → Hp → α → β → Prop) (X : WX') (ρ : List Addr) (H : Hp) (Kf : α → Hh → List Addr → Hp → β → Prop) : Res α → Prop
  | .ok w h => ∀ ρ' H' v, Ext ρ H ρ' H' → Rel K ca ρ' h H' → RA ρ' H' w v → Kf w h ρ' H' v
  | .exc c fs h => ∀ ρ' H', Ext ρ H ρ' H' → Rel K ca ρ' h H' → X c fs h ρ' H'
  | .bad => False
end
section
variable {K : PySem.W.Frag} {ca : Nat → Addr} {α β γ δ : Type} {RA : List Addr → Hp → α → β → Prop} {RB : List Addr → Hp → γ → δ → Prop} {X : WX'} {ρ ρ1 : List Addr} {H H1 : Hp}
theorem Wp.ext {Kf : α → Hh → List Addr → Hp → β → Prop} {r : Res α} (E : Ext ρ H ρ1 H1) (h : Wp K ca RA X ρ H Kf r) : Wp K ca RA X ρ1 H1 Kf r := by
  cases r with
  | ok w h' => exact fun ρ' H' v e => h ρ' H' v (E.trans e)
  | exc c fs h' => exact fun ρ' H' e => h ρ' H' (E.trans e)
  | bad => exact h
theorem Wp.bind {Kf : γ → Hh → List Addr → Hp → δ → Prop} {r : Res α} {k : α → Hh → Res γ} (h : Wp K ca RB X ρ H Kf (r.bind k)) :
    Wp K ca RA X ρ H (fun w h1 ρ1 H1 _ => Wp K ca RB X ρ1 H1 Kf (k w h1)) r := by
  cases r with
  | ok w h' => exact fun ρ' H' v e _ _ => Wp.ext e h
  | exc c fs h' => exact h
  | bad => exact h
theorem Wp.imp {Kf Kg : α → Hh → List Addr → Hp → β → Prop} {r : Res α} (h : Wp K ca RA X ρ H Kf r) (m : ∀ w h' ρ' H' v, Ext ρ H ρ' H' → Rel K ca ρ' h' H' → RA ρ' H' w v → Kf w h' ρ' H' v → Kg w h' ρ' H' v) : Wp K ca RA X ρ H Kg r := by
  cases r with
  | ok w h' => exact fun ρ' H' v e R q => m w h' ρ' H' v e R q (h ρ' H' v e R q)
  | exc c fs h' => exact h
  | bad => exact h
end
end DD
set_option Elab.async false
set_option linter.all false
set_option maxRecDepth 100000
set_option maxHeartbeats 4000000
/-! DB: operations on own values. -/
namespace DD
open PySem PySem.Spec PyProof.Rows L2

/-! ### reading an object, locked or not -/
def Ob.core : Ob → Ob
  | .frz o => o.core
  | o => o
def Hh.lst? (h : Hh) (i : Nat) : Option (List PV) := match h.get i with
  | some (.lst xs) => some xs
  | some (.frz (.lst xs)) => some xs
  | _ => none
def Hh.dct? (h : Hh) (i : Nat) : Option (List (Key × PV)) := match h.get i with
  | some (.dct xs) => some xs
  | some (.frz (.dct xs)) => some xs
  | _ => none
def valP {κ : Type} [DecidableEq κ] (kvs : List (κ × PV)) (k : κ) : Option PV := (kvs.find? fun kv => decide (kv.1 = k)).map (·.2)
def putP {κ : Type} [DecidableEq κ] (kvs : List (κ × PV)) (k : κ) (v : PV) : List (κ × PV) :=
  if kvs.any (fun kv => decide (kv.1 = k)) then kvs.map fun kv => if kv.1 = k then (kv.1, v) else kv else kvs ++ [(k, v)]
def dropP {κ : Type} [DecidableEq κ] (kvs : List (κ × PV)) (k : κ) : List (κ × PV) := kvs.filter fun kv => decide (kv.1 ≠ k)
def keyP : PV → Option Key
  | .int i => some (.inl i)
  | .str x => some (.inr x)
  | _ => none
/-- a value as data -/
def dat : Nat → Hh → PV → Option PyData
  | 0, _, _ => none
  | _ + 1, _, .non => some .none
  | _ + 1, _, .bl b => some (.bool b)
  | _ + 1, _, .int i => some (.int i)
  | _ + 1, _, .str x => some (.str x)
  | n + 1, h, .tup xs => (xs.mapM (dat n h)).map .tuple
  | n + 1, h, .obj i => match h.lst? i with
    | some xs => (xs.mapM (dat n h)).map .list
    | none => none
  | _ + 1, _, .exn _ _ => none
  | _ + 1, _, .unk _ => none
def datS (h : Hh) (x : PV) : Option PyData := (dat 66 h x).filter SeqAt.shaped
def eqS (h : Hh) : PV → PV → Option Bool
  | .non, .non => some true
  | .int i, .int j => some (decide (i = j))
  | .bl i, .bl j => some (decide (i = j))
  | .str i, .str j => some (decide (i = j))
  | .non, .int _ => some false | .int _, .non => some false | .non, .bl _ => some false | .bl _, .non => some false | .non, .str _ => some false | .str _, .non => some false
  | x, y => match datS h x, datS h y with
    | some d, some e => some (PyData.eqv d e)
    | _, _ => none
def flatP : PV → Bool
  | .non => true
  | .bl _ => true
  | .int _ => true
  | .str _ => true
  | _ => false
def eqP : PV → PV → Bool
  | .non, .non => true
  | .bl a, .bl b => a == b
  | .bl a, .int b => (if a then 1 else 0) == b
  | .int a, .bl b => a == (if b then 1 else 0)
  | .int a, .int b => a == b
  | .str a, .str b => a == b
  | _, _ => false
/-- x in xs, the items flat or data -/
def inSeq (h : Hh) (x : PV) (xs : List PV) : Option Bool :=
  if flatP x && xs.all flatP then some (xs.any fun y => eqP y x)
  else match datS h x, (xs.mapM (dat 65 h)) with
    | some d, some ds => if SeqAt.shaped (.list ds) then some (ds.any fun z => PyData.eqv z d) else none
    | _, _ => none
def inS (h : Hh) (x : PV) : PV → Option Bool
  | .tup xs => inSeq h x xs
  | .obj i => match h.lst? i with
    | some xs => inSeq h x xs
    | none => match h.dct? i with
      | some kvs => (keyP x).map fun k => (valP kvs k).isSome
      | none => none
  | .str z => match x with
    | .str c => match c.cps.toList with
      | [n] => some (decide (n ∈ z.cps.toList))
      | _ => some (!(Builtin.Str.occurrences z c 0 z.length 1).isEmpty)
    | _ => none
  | _ => none
def okB (o : Option Bool) (h : Hh) : Res PV := match o with
  | some b => .ok (.bl b) h
  | none => .bad
def lim : Nat := 10000000
def binS (op : Operator) (x y : PV) (h : Hh) : Res PV := match op, x, y with
  | .Add, .int i, .int j => .ok (.int (i + j)) h
  | .Add, .str i, .str j => if i.length + j.length ≤ lim then .ok (.str (i ++ j)) h else .bad
  | .Add, .tup i, .tup j => if i.length + j.length ≤ lim then .ok (.tup (i ++ j)) h else .bad
  | .Add, .obj i, .obj j => match h.get i, h.get j with
    | some (.lst xs), some (.lst ys) => if xs.length + ys.length ≤ lim then .ok (.obj h.n) (h.push (.lst (xs ++ ys))) else .bad
    | _, _ => .bad
  | .Sub, .int i, .int j => .ok (.int (i - j)) h
  | .Mult, .int i, .int j => if (decide (-(2 ^ 64) < i) && decide (i < 2 ^ 64)) || (decide (-(2 ^ 64) < j) && decide (j < 2 ^ 64)) then .ok (.int (i * j)) h else .bad
  | .Mult, .obj i, .int k => match h.get i with
    | some (.lst xs) => if decide (-(2 ^ 63) ≤ k) && decide (k < 2 ^ 63) && decide (xs.length * k.toNat ≤ lim) then .ok (.obj h.n) (h.push (.lst (List.replicate k.toNat xs).flatten)) else .bad
    | _ => .bad
  | .FloorDiv, .int i, .int j => if j ≠ 0 ∧ j.natAbs < 1073741824 then .ok (.int (i.fdiv j)) h else .bad
  | .Mod, .int i, .int j => if j ≠ 0 then .ok (.int (i.fmod j)) h else .bad
  | .Pow, .int i, .int j => if 0 ≤ j ∧ j ≤ 1000000 ∧ i.natAbs < 2 ^ 64 then .ok (.int (i ^ j.toNat)) h else .bad
  | _, _, _ => .bad
def cmpS (op : CmpOp) (x y : PV) (h : Hh) : Res PV := match op with
  | .Eq => okB (eqS h x y) h
  | .NotEq => okB ((eqS h x y).map (!·)) h
  | .Lt => match x, y with
    | .int i, .int j => .ok (.bl (decide (i < j))) h
    | _, _ => .bad
  | .LtE => match x, y with
    | .int i, .int j => .ok (.bl (decide (i ≤ j))) h
    | _, _ => .bad
  | .Gt => match x, y with
    | .int i, .int j => .ok (.bl (decide (j < i))) h
    | _, _ => .bad
  | .GtE => match x, y with
    | .int i, .int j => .ok (.bl (decide (j ≤ i))) h
    | _, _ => .bad
  | .Is => match y with
    | .non => match x with
      | .non => .ok (.bl true) h
      | .exn _ _ => .bad
      | .unk _ => .bad
      | _ => .ok (.bl false) h
    | .bl b => match x with
      | .bl a => .ok (.bl (decide (a = b))) h
      | _ => .bad
    | _ => .bad
  | .IsNot => match y with
    | .non => match x with
      | .non => .ok (.bl false) h
      | .exn _ _ => .bad
      | .unk _ => .bad
      | _ => .ok (.bl true) h
    | .bl b => match x with
      | .bl a => .ok (.bl (!decide (a = b))) h
      | _ => .bad
    | _ => .bad
  | .In => okB (inS h x y) h
  | .NotIn => okB ((inS h x y).map (!·)) h
def truS (h : Hh) : PV → Option Bool
  | .non => some false
  | .bl b => some b
  | .int i => some (i != 0)
  | .str y => if y.length ≤ lim then some ((y.length : Int) != 0) else none
  | .tup xs => some (!xs.isEmpty)
  | .obj i => match h.get i with
    | some (.lst xs) => some (!xs.isEmpty)
    | some (.dct xs) => some (!xs.isEmpty)
    | _ => none
  | .exn _ _ => none
  | .unk _ => none
/-- x[i] -/
def ixL (xs : List PV) (k : PV) (h : Hh) : Res PV := match k with
  | .int i => match atI xs i with
    | some v => .ok v h
    | none => .bad
  | _ => .bad
def ixD (kvs : List (Key × PV)) (k : PV) (h : Hh) : Res PV := match keyP k with
  | some k => match valP kvs k with
    | some v => .ok v h
    | none => .bad
  | none => .bad
def ixS (x y : PV) (h : Hh) : Res PV := match x with
  | .tup xs => ixL xs y h
  | .str z => match y with
    | .int i => if z.length ≤ lim then (match atI z.cps.toList i with
      | some c => .ok (.str ⟨#[c]⟩) h
      | none => .bad) else .bad
    | _ => .bad
  | .obj o => match h.lst? o with
    | some xs => ixL xs y h
    | none => match h.dct? o with
      | some kvs => ixD kvs y h
      | none => .bad
  | _ => .bad
def cutP {α : Type} (xs : List α) (lo hi : Option Int) : List α := (xs.drop (HT.sIx xs.length 0 lo)).take (HT.sIx xs.length xs.length hi - HT.sIx xs.length 0 lo)
/-- x[lo:hi] -/
def slS (x : PV) (lo hi : Option Int) (h : Hh) : Res PV := match x with
  | .tup xs => .ok (.tup (cutP xs lo hi)) h
  | .str z => if z.length ≤ lim then .ok (.str (cutS z lo hi)) h else .bad
  | .obj o => match h.lst? o with
    | some xs => .ok (.obj h.n) (h.push (.lst (cutP xs lo hi)))
    | none => .bad
  | _ => .bad
end DD
set_option Elab.async false
set_option linter.all false
set_option maxRecDepth 100000
set_option maxHeartbeats 4000000
/-! DC: the operations are sound over HandS' rules. -/
namespace DD
open PySem PySem.Spec PyProof.Rows L2
variable [Ups]
section
variable {K : PySem.W.Frag} {ca : Nat → Addr} {ρ : List Addr} {h : Hh} {H : Hp} {XX : WX'}
theorem RV.non_ (v : V) : RV K ρ H .non v ↔ v = .non := by unfold RV; rfl
theorem RV.bl_ (b : Bool) (v : V) : RV K ρ H (.bl b) v ↔ v = .bl b := by unfold RV; rfl
theorem RV.int_ (b : Int) (v : V) : RV K ρ H (.int b) v ↔ v = .int b := by unfold RV; rfl
theorem RV.str_ (b : Str) (v : V) : RV K ρ H (.str b) v ↔ v = .str b := by unfold RV; rfl
theorem RV.obj_ (i : Nat) (v : V) : RV K ρ H (.obj i) v ↔ ∃ a, ρ[i]? = some a ∧ v = .ref a := by unfold RV; rfl
theorem RV.tup_ (xs : List PV) (v : V) : RV K ρ H (.tup xs) v ↔ ∃ a vs, v = .ref a ∧ SqE K H a vs ∧ RVs K ρ H xs vs := by rw [RV]
theorem RV.unk_ (n : Nat) (v : V) : RV K ρ H (.unk n) v ↔ RPu K H (Ups.up n) v := by unfold RV; rfl
theorem RV.exn_ (c : Nat) (fs : List (Str × PV)) (v : V) : RV K ρ H (.exn c fs) v ↔ False := by unfold RV; rfl
theorem lim_ok {n : Nat} (e : n ≤ lim) : n ≤ sizeLine := Nat.le_trans e (by decide)
theorem lst_get {i : Nat} {xs : List PV} (e : h.lst? i = some xs) (R : Rel K ca ρ h H) : ∃ a vs, ρ[i]? = some a ∧ Rd H a (.lst vs) ∧ RVs K ρ H xs vs ∧ ((∃ o, h.get i = some (.frz o)) ∨ (h.get i = some (.lst xs) ∧ H a = some (.lst vs))) := by
  unfold Hh.lst? at e
  split at e
  · rename_i ys q
    cases e
    obtain ⟨a, u, h1, h2, r⟩ := R.obj q
    obtain ⟨vs, rfl, r⟩ := r
    exact ⟨a, vs, h1, .inl h2, r, .inr ⟨q, h2⟩⟩
  · rename_i ys q
    cases e
    obtain ⟨a, u, h1, h2, r⟩ := R.obj q
    obtain ⟨ob, v, rfl, r, _⟩ := r
    obtain ⟨vs, rfl, r⟩ := r
    exact ⟨a, vs, h1, .inr ⟨ob, h2⟩, r, .inl ⟨_, q⟩⟩
  · cases e
theorem dct_get {i : Nat} {xs : List (Key × PV)} (e : h.dct? i = some xs) (R : Rel K ca ρ h H) : ∃ a vs, ρ[i]? = some a ∧ Rd H a (.dK vs) ∧ RFs K ρ H xs vs ∧ ((∃ o, h.get i = some (.frz o)) ∨ (h.get i = some (.dct xs) ∧ H a = some (.dK vs))) := by
  unfold Hh.dct? at e
  split at e
  · rename_i ys q
    cases e
    obtain ⟨a, u, h1, h2, r⟩ := R.obj q
    obtain ⟨vs, rfl, r⟩ := r
    exact ⟨a, vs, h1, .inl h2, r, .inr ⟨q, h2⟩⟩
  · rename_i ys q
    cases e
    obtain ⟨a, u, h1, h2, r⟩ := R.obj q
    obtain ⟨ob, v, rfl, r, _⟩ := r
    obtain ⟨vs, rfl, r⟩ := r
    exact ⟨a, vs, h1, .inr ⟨ob, h2⟩, r, .inl ⟨_, q⟩⟩
  · cases e
theorem dats_dp (n : Nat) (IH : ∀ (w : PV) (v : V) (d : PyData), RV K ρ H w v → dat n h w = some d → Dp K H v d) : ∀ (ws : List PV) (vs : List V) (ds : List PyData), RVs K ρ H ws vs → ws.mapM (dat n h) = some ds → DpAll K H vs ds
  | [], vs, ds, r, e => by
    rw [r.inv0]
    simp at e
    subst e
    exact .nil
  | w :: ws, vs, ds, r, e => by
    obtain ⟨v, t, rfl, q, r⟩ := r.inv
    rw [List.mapM_cons] at e
    cases e1 : dat n h w with
    | none => rw [e1] at e; cases e
    | some d =>
      rw [e1] at e
      cases e2 : ws.mapM (dat n h) with
      | none => rw [e2] at e; cases e
      | some ds' =>
        rw [e2] at e
        cases e
        exact .cons (IH w v d q e1) (dats_dp n IH ws t ds' r e2)
theorem dat_dp (R : Rel K ca ρ h H) : ∀ (n : Nat) (w : PV) (v : V) (d : PyData), RV K ρ H w v → dat n h w = some d → Dp K H v d
  | 0, w, v, d, _, e => by cases e
  | n + 1, w, v, d, r, e => by
    cases w with
    | non => rw [RV.non_] at r; subst r; cases e; exact .non
    | bl b => rw [RV.bl_] at r; subst r; cases e; exact .bl b
    | int b => rw [RV.int_] at r; subst r; cases e; exact .int b
    | str b => rw [RV.str_] at r; subst r; cases e; exact .str b
    | exn c fs => cases e
    | unk n => cases e
    | tup xs =>
      rw [RV.tup_] at r
      obtain ⟨a, vs, rfl, s, r⟩ := r
      have e : (xs.mapM (dat n h)).map PyData.tuple = some d := e
      cases q : xs.mapM (dat n h) with
      | none => rw [q] at e; cases e
      | some ds =>
        rw [q] at e
        cases e
        exact .tup s.1 (dats_dp n (dat_dp R n) xs vs ds r q)
    | obj i =>
      rw [RV.obj_] at r
      obtain ⟨a, ha, rfl⟩ := r
      have e : (match h.lst? i with
        | some xs => (xs.mapM (dat n h)).map .list
        | none => none) = some d := e
      cases q : h.lst? i with
      | none => rw [q] at e; cases e
      | some xs =>
        rw [q] at e
        obtain ⟨a', vs, ha', s, r, _⟩ := lst_get q R
        rw [ha] at ha'; cases ha'
        have e : (xs.mapM (dat n h)).map PyData.list = some d := e
        cases q : xs.mapM (dat n h) with
        | none => rw [q] at e; cases e
        | some ds =>
          rw [q] at e
          cases e
          exact .lst (.inl s) (dats_dp n (dat_dp R n) xs vs ds r q)
theorem datS_dp (R : Rel K ca ρ h H) {w : PV} {v : V} {d : PyData} (r : RV K ρ H w v) (e : datS h w = some d) : Dp K H v d ∧ SeqAt.shaped d = true := by
  unfold datS at e
  rw [Option.filter_eq_some_iff] at e
  exact ⟨dat_dp R 66 w v d r e.1, e.2⟩
end

/-! ### two operands -/
def Sound2 (K : PySem.W.Frag) (ca : Nat → Addr) (r : R2) (k : PV → PV → Hh → Res PV) : Prop :=
  ∀ (XX : WX') (ρ : List Addr) (h : Hh) (H : Hp) (w1 w2 : PV) (v1 v2 : V) (Q : VK), Rel K ca ρ h H → RV K ρ H w1 v1 → RV K ρ H w2 v2 →
    Wp K ca (RV K) XX ρ H (fun _ _ _ H' v => Q v H') (k w1 w2 h) → r v1 v2 H Q
section
variable {K : PySem.W.Frag} {ca : Nat → Addr} {ρ ρ' : List Addr} {h h' : Hh} {H H' : Hp} {XX : WX'} {Q : VK}
/-- a value that leaves the heap alone -/
theorem Wp.val {w : PV} {v : V} (R : Rel K ca ρ h H) (x : Wp K ca (RV K) XX ρ H (fun _ _ _ H' v => Q v H') (.ok w h)) (r : RV K ρ H w v) : Q v H := x ρ H v (Ext.refl _ _) R r
/-- a new tuple, known to the last -/
theorem Wp.tupF {ws : List PV} {vs : List V} (R : Rel K ca ρ h H) (x : Wp K ca (RV K) XX ρ H (fun _ _ _ H' v => Q v H') (.ok (.tup ws) h)) (r : RVs K ρ H ws vs) {p : Addr} {ob : Obj} (n : H p = none) (d : ob.dict = none) : Q (.ref p) (upd H p (.frz ob (.tup vs))) :=
  x ρ _ _ (Ext.fresh n) (R.fresh n) ((RV.tup_ ws _).mpr ⟨p, vs, rfl, ⟨.inl (.inr ⟨ob, upd_same⟩), fun _ => .inl ⟨ob, upd_same, d⟩⟩, RVs.ext R (Ext.fresh n) ws vs r⟩)
/-- a new empty tuple -/
theorem Wp.tupE (R : Rel K ca ρ h H) (x : Wp K ca (RV K) XX ρ H (fun _ _ _ H' v => Q v H') (.ok (.tup []) h)) {p : Addr} {ob : Obj} (n : H p = none) (d : ob.dict = none) : Q (.ref p) (upd H p (.frz ob (.tup []))) :=
  x ρ _ _ (Ext.fresh n) (R.fresh n) ((RV.tup_ [] _).mpr ⟨p, [], rfl, ⟨.inl (.inr ⟨ob, upd_same⟩), fun _ => .inl ⟨ob, upd_same, d⟩⟩, .nil⟩)
/-- a new object -/
theorem Wp.objN {o : Ob} {u : HO} (R : Rel K ca ρ h H) (x : Wp K ca (RV K) XX ρ H (fun _ _ _ H' v => Q v H') (.ok (.obj h.n) (h.push o))) (r : RO K ρ H ca o u) {p : Addr} (n : H p = none) : Q (.ref p) (upd H p u) :=
  x (ρ ++ [p]) _ _ (Ext.new n) (R.new n r) ((RV.obj_ _ _).mpr ⟨p, R.atNew, rfl⟩)
/-- an object of ours is written -/
theorem Wp.objW {i : Nat} {a : Addr} {o : Ob} {u : HO} {w : PV} {v : V} (R : Rel K ca ρ h H) (x : Wp K ca (RV K) XX ρ H (fun _ _ _ H' v => Q v H') (.ok w (h.put i o))) (e : ρ[i]? = some a) (r : RO K ρ H ca o u) (q : RV K ρ H w v) (m : Mut (H a) := by first | (rw [hu]; exact trivial) | (rw [hu']; exact trivial)) : Q v (upd H a u) := by
  obtain ⟨_, v0, _, ev, _⟩ := R.at_ i a e
  exact x ρ _ _ (Ext.write e ⟨_, ev⟩ m r.kind.1) (R.write e r) (RV.ext R (Ext.write e ⟨_, ev⟩ m r.kind.1) w v q)
end
/-- t + u: what is made is known to the last -/
def rCatF (K : PySem.W.Frag) : R2 := fun x y H Q => ∃ a b xs ys, x = .ref a ∧ y = .ref b ∧ SqT K H a xs ∧ SqT K H b ys ∧ xs.length + ys.length ≤ sizeLine ∧
  (xs = [] → Q (.ref b) H) ∧ (xs ≠ [] → ys = [] → Q (.ref a) H) ∧ (xs ≠ [] → ys ≠ [] → ∀ p ob, H p = none → ob.dict = none → Q (.ref p) (upd H p (.frz ob (.tup (xs ++ ys)))))
theorem op_catF {X : Cx} : OpR X (binaryOp .Add) (rCatF X.K) := by
  intro pins s σ H x y v u Q I rx ry h
  obtain ⟨a, b, xs, ys, rfl, rfl, ha, hb, hz, q0, q1, q2⟩ := h
  cases rx
  cases ry
  obtain ⟨its, r1, p1, _⟩ := I.tuple ha
  obtain ⟨its2, r2, p2, _⟩ := I.tuple hb
  by_cases hx : xs = []
  · subst hx
    cases r1
    exact cat_tup0 p1 p2 ⟨.ref b, H, I, rfl, q0 rfl⟩
  · refine HT.cat_tup p1 p2 (fun z => hx (r1.nil_iff.mp z)) (fun z => ⟨.ref a, H, I, rfl, q1 hx (r2.nil_iff.mp z)⟩) (fun z => ?_) (by rw [← r1.length, ← r2.length]; exact hz)
    refine ⟨.ref s.heap.objs.size, _, I.laid (t' := s.toks) (o := .frz _ (.tup (xs ++ ys))) (fun b ob q => Heap.get?_push_of_some _ q) (Nat.le_refl _) ⟨Heap.get?_push_size _ rfl, by rw [List.length_append]; exact hz, _, r1.append r2, IsTup.new _ _⟩, rfl, q2 hx (fun w => z (r2.nil_iff.mpr w)) _ _ (I.hok.fresh (Nat.le_refl _)) rfl⟩
/-- + -/
def rAddA (K : PySem.W.Frag) : R2 := fun x y H Q => rI0 (fun i j => .int (i + j)) x y H Q ∨ (∃ i j, x = .str i ∧ y = .str j ∧ i.length + j.length ≤ sizeLine ∧ Q (.str (i ++ j)) H) ∨ rCatF K x y H Q ∨ rCat x y H Q
theorem op_addA {X : Cx} : OpR X (binaryOp .Add) (rAddA X.K) := op_add.or (op_add_str.or (op_catF.or op_cat))
theorem RVs.len_le {K : PySem.W.Frag} {ρ : List Addr} {H : Hp} {a b : List PV} {c d : List V} {n : Nat} (r : RVs K ρ H a c) (s : RVs K ρ H b d) (e : a.length + b.length ≤ n) : c.length + d.length ≤ n := by
  rw [← r.length, ← s.length]; exact e
theorem add_sound {K : PySem.W.Frag} {ca : Nat → Addr} : Sound2 K ca (rAddA K) (binS .Add) := by
  intro XX ρ h H w1 w2 v1 v2 Q R r1 r2 x
  cases w1 with
  | int i =>
    cases w2 with
    | int j =>
      rw [RV.int_] at r1 r2
      subst r1 r2
      exact .inl ⟨i, j, rfl, rfl, x.val R ((RV.int_ _ _).mpr rfl)⟩
    | _ => exact x.elim
  | str i =>
    cases w2 with
    | str j =>
      rw [RV.str_] at r1 r2
      subst r1 r2
      by_cases e : i.length + j.length ≤ lim
      · have x : Wp K ca (RV K) XX ρ H (fun _ _ _ H' v => Q v H') (if i.length + j.length ≤ lim then Res.ok (PV.str (i ++ j)) h else .bad) := x
        rw [if_pos e] at x
        exact .inr (.inl ⟨i, j, rfl, rfl, lim_ok e, x.val R ((RV.str_ _ _).mpr rfl)⟩)
      · have x : Wp K ca (RV K) XX ρ H (fun _ _ _ H' v => Q v H') (if i.length + j.length ≤ lim then Res.ok (PV.str (i ++ j)) h else .bad) := x
        rw [if_neg e] at x
        exact x.elim
    | _ => exact x.elim
  | tup i =>
    cases w2 with
    | tup j =>
      rw [RV.tup_] at r1 r2
      obtain ⟨a, vs, rfl, s1, r1⟩ := r1
      obtain ⟨b, us, rfl, s2, r2⟩ := r2
      have x : Wp K ca (RV K) XX ρ H (fun _ _ _ H' v => Q v H') (if i.length + j.length ≤ lim then Res.ok (PV.tup (i ++ j)) h else .bad) := x
      by_cases e : i.length + j.length ≤ lim
      · rw [if_pos e] at x
        refine .inr (.inr (.inl ⟨a, b, vs, us, rfl, rfl, s1.1, s2.1, lim_ok (RVs.len_le r1 r2 e), fun z => ?_, fun _ z => ?_, fun nz _ p ob n d => ?_⟩))
        · refine x.val R ((RV.tup_ _ _).mpr ⟨b, us, rfl, s2, ?_⟩)
          have := r1.app r2
          rw [z] at this; simpa using this
        · refine x.val R ((RV.tup_ _ _).mpr ⟨a, vs, rfl, s1, ?_⟩)
          have := r1.app r2
          rw [z] at this; simpa using this
        · exact x.tupF R (r1.app r2) n d
      · rw [if_neg e] at x
        exact x.elim
    | _ => exact x.elim
  | obj i =>
    cases w2 with
    | obj j =>
      rw [RV.obj_] at r1 r2
      obtain ⟨a, e1, rfl⟩ := r1
      obtain ⟨b, e2, rfl⟩ := r2
      have x : Wp K ca (RV K) XX ρ H (fun _ _ _ H' v => Q v H') (match h.get i, h.get j with
        | some (.lst xs), some (.lst ys) => if xs.length + ys.length ≤ lim then .ok (.obj h.n) (h.push (.lst (xs ++ ys))) else .bad
        | _, _ => .bad) := x
      split at x
      · rename_i xs ys q1 q2
        obtain ⟨a', u, h1, h2, r⟩ := R.obj q1
        rw [e1] at h1; cases h1
        obtain ⟨vs, rfl, r⟩ := r
        obtain ⟨b', u', h1', h2', r'⟩ := R.obj q2
        rw [e2] at h1'; cases h1'
        obtain ⟨us, rfl, r'⟩ := r'
        by_cases e : xs.length + ys.length ≤ lim
        · rw [if_pos e] at x
          exact .inr (.inr (.inr ⟨a, b, vs, us, rfl, rfl, h2, h2', lim_ok (RVs.len_le r r' e), fun p n => x.objN R ⟨_, rfl, r.app r'⟩ n⟩))
        · rw [if_neg e] at x
          exact x.elim
      · exact x.elim
    | _ => exact x.elim
  | _ => exact x.elim
end DD
set_option Elab.async false
set_option linter.all false
set_option maxRecDepth 100000
set_option maxHeartbeats 4000000
/-! DC2: more operations. -/
namespace DD
open PySem PySem.Spec PyProof.Rows L2
variable [Ups]
section
variable {K : PySem.W.Frag} {ca : Nat → Addr} {ρ ρ' : List Addr} {h h' : Hh} {H H' : Hp} {XX : WX'} {Q : VK}
abbrev WpQ (K : PySem.W.Frag) (ca : Nat → Addr) (XX : WX') (ρ : List Addr) (H : Hp) (Q : VK) (r : Res PV) : Prop := Wp K ca (RV K) XX ρ H (fun _ _ _ H' v => Q v H') r
theorem WpQ.iff {c : Prop} [Decidable c] {r : Res PV} (x : WpQ K ca XX ρ H Q (if c then r else .bad)) : c ∧ WpQ K ca XX ρ H Q r := by
  by_cases e : c
  · rw [if_pos e] at x; exact ⟨e, x⟩
  · rw [if_neg e] at x; exact x.elim
theorem sub_sound : Sound2 K ca (rI0 fun i j => .int (i - j)) (binS .Sub) := by
  intro XX ρ h H w1 w2 v1 v2 Q R r1 r2 x
  cases w1 with
  | int i =>
    cases w2 with
    | int j =>
      rw [RV.int_] at r1 r2
      subst r1 r2
      exact ⟨i, j, rfl, rfl, x.val R ((RV.int_ _ _).mpr rfl)⟩
    | _ => exact x.elim
  | _ => exact x.elim
def rMulA : R2 := fun x y H Q => rI CMul (fun i j => .int (i * j)) x y H Q ∨ rRep x y H Q
theorem op_mulA {X : Cx} : OpR X (binaryOp .Mult) rMulA := op_mul.or op_rep
theorem RVs.rep {ws : List PV} {vs : List V} (r : RVs K ρ H ws vs) : ∀ n : Nat, RVs K ρ H (List.replicate n ws).flatten (List.replicate n vs).flatten
  | 0 => by simpa using RVs.nil
  | n + 1 => by
    rw [List.replicate_succ, List.replicate_succ, List.flatten_cons, List.flatten_cons]
    exact r.app (RVs.rep r n)
theorem mul_sound : Sound2 K ca rMulA (binS .Mult) := by
  intro XX ρ h H w1 w2 v1 v2 Q R r1 r2 x
  cases w1 with
  | int i =>
    cases w2 with
    | int j =>
      rw [RV.int_] at r1 r2
      subst r1 r2
      have x : WpQ K ca XX ρ H Q (if (decide (-(2 ^ 64) < i) && decide (i < 2 ^ 64)) || (decide (-(2 ^ 64) < j) && decide (j < 2 ^ 64)) then .ok (.int (i * j)) h else .bad) := x
      obtain ⟨e, x⟩ := x.iff
      refine .inl ⟨i, j, rfl, rfl, ?_, x.val R ((RV.int_ _ _).mpr rfl)⟩
      rw [Bool.or_eq_true, Bool.and_eq_true, Bool.and_eq_true, decide_eq_true_eq, decide_eq_true_eq, decide_eq_true_eq, decide_eq_true_eq] at e
      exact e
    | _ => exact x.elim
  | obj i =>
    cases w2 with
    | int k =>
      rw [RV.obj_] at r1
      rw [RV.int_] at r2
      subst r2
      obtain ⟨a, e1, rfl⟩ := r1
      have x : WpQ K ca XX ρ H Q (match h.get i with
        | some (.lst xs) => if decide (-(2 ^ 63) ≤ k) && decide (k < 2 ^ 63) && decide (xs.length * k.toNat ≤ lim) then .ok (.obj h.n) (h.push (.lst (List.replicate k.toNat xs).flatten)) else .bad
        | _ => .bad) := x
      split at x
      · rename_i xs q1
        obtain ⟨a', u, h1, h2, r⟩ := R.obj q1
        rw [e1] at h1; cases h1
        obtain ⟨vs, rfl, r⟩ := r
        obtain ⟨e, x⟩ := x.iff
        rw [Bool.and_eq_true, Bool.and_eq_true, decide_eq_true_eq, decide_eq_true_eq, decide_eq_true_eq] at e
        exact .inr ⟨a, k, vs, rfl, rfl, h2, e.1.1, e.1.2, by rw [← r.length]; exact lim_ok e.2, fun p n => x.objN R ⟨_, rfl, r.rep _⟩ n⟩
      · exact x.elim
    | _ => exact x.elim
  | _ => exact x.elim
theorem fdiv_sound : Sound2 K ca (rI CDivN fun i j => .int (i.fdiv j)) (binS .FloorDiv) := by
  intro XX ρ h H w1 w2 v1 v2 Q R r1 r2 x
  cases w1 with
  | int i =>
    cases w2 with
    | int j =>
      rw [RV.int_] at r1 r2
      subst r1 r2
      have x : WpQ K ca XX ρ H Q (if j ≠ 0 ∧ j.natAbs < 1073741824 then .ok (.int (i.fdiv j)) h else .bad) := x
      obtain ⟨e, x⟩ := x.iff
      exact ⟨i, j, rfl, rfl, e, x.val R ((RV.int_ _ _).mpr rfl)⟩
    | _ => exact x.elim
  | _ => exact x.elim
theorem mod_sound : Sound2 K ca (rI (fun _ j => j ≠ 0) fun i j => .int (i.fmod j)) (binS .Mod) := by
  intro XX ρ h H w1 w2 v1 v2 Q R r1 r2 x
  cases w1 with
  | int i =>
    cases w2 with
    | int j =>
      rw [RV.int_] at r1 r2
      subst r1 r2
      have x : WpQ K ca XX ρ H Q (if j ≠ 0 then .ok (.int (i.fmod j)) h else .bad) := x
      obtain ⟨e, x⟩ := x.iff
      exact ⟨i, j, rfl, rfl, e, x.val R ((RV.int_ _ _).mpr rfl)⟩
    | _ => exact x.elim
  | _ => exact x.elim
theorem pow_sound : Sound2 K ca (rI CPow fun i j => .int (i ^ j.toNat)) (binS .Pow) := by
  intro XX ρ h H w1 w2 v1 v2 Q R r1 r2 x
  cases w1 with
  | int i =>
    cases w2 with
    | int j =>
      rw [RV.int_] at r1 r2
      subst r1 r2
      have x : WpQ K ca XX ρ H Q (if 0 ≤ j ∧ j ≤ 1000000 ∧ i.natAbs < 2 ^ 64 then .ok (.int (i ^ j.toNat)) h else .bad) := x
      obtain ⟨e, x⟩ := x.iff
      exact ⟨i, j, rfl, rfl, e, x.val R ((RV.int_ _ _).mpr rfl)⟩
    | _ => exact x.elim
  | _ => exact x.elim

/-! ### comparisons -/
theorem WpQ.okB {o : Option Bool} (R : Rel K ca ρ h H) (x : WpQ K ca XX ρ H Q (okB o h)) : ∃ b, o = some b ∧ Q (.bl b) H := by
  cases o with
  | none => exact x.elim
  | some b => exact ⟨b, rfl, Wp.val R x ((RV.bl_ _ _).mpr rfl)⟩
def rEqA (K : PySem.W.Frag) : R2 := fun x y H Q => rEq x y H Q ∨ rEqD K x y H Q
def rNeA (K : PySem.W.Frag) : R2 := fun x y H Q => rNe x y H Q ∨ rNeD K x y H Q
theorem op_eqA {X : Cx} (hu : X.A.units + 64 < cLine) : OpR X (compareOp .Eq) (rEqA X.K) := op_eq.or (op_eqD hu)
theorem op_neA {X : Cx} (hu : X.A.units + 64 < cLine) : OpR X (compareOp .NotEq) (rNeA X.K) := op_ne.or (op_neD hu)
theorem eqS_cases (R : Rel K ca ρ h H) {w1 w2 : PV} {v1 v2 : V} {b : Bool} (r1 : RV K ρ H w1 v1) (r2 : RV K ρ H w2 v2) (e : eqS h w1 w2 = some b) :
    (scal v1 v2 = true ∧ decide (v1 = v2) = b) ∨ ∃ d e, Dp K H v1 d ∧ Dp K H v2 e ∧ SeqAt.shaped d = true ∧ SeqAt.shaped e = true ∧ PyData.eqv d e = b := by
  have gen : (match datS h w1, datS h w2 with
      | some d, some e => some (PyData.eqv d e)
      | _, _ => none) = some b → ∃ d e, Dp K H v1 d ∧ Dp K H v2 e ∧ SeqAt.shaped d = true ∧ SeqAt.shaped e = true ∧ PyData.eqv d e = b := by
    intro z
    split at z
    · rename_i d f q1 q2
      obtain ⟨d1, s1⟩ := datS_dp R r1 q1
      obtain ⟨d2, s2⟩ := datS_dp R r2 q2
      exact ⟨d, f, d1, d2, s1, s2, Option.some.inj z⟩
    · cases z
  cases w1 with
  | non =>
    cases w2 with
    | non => rw [RV.non_] at r1 r2; subst r1 r2; cases e; exact .inl ⟨rfl, rfl⟩
    | int j => rw [RV.non_] at r1; rw [RV.int_] at r2; subst r1 r2; cases e; exact .inl ⟨rfl, rfl⟩
    | bl j => rw [RV.non_] at r1; rw [RV.bl_] at r2; subst r1 r2; cases e; exact .inl ⟨rfl, rfl⟩
    | str j => rw [RV.non_] at r1; rw [RV.str_] at r2; subst r1 r2; cases e; exact .inl ⟨rfl, rfl⟩
    | tup j => exact .inr (gen e)
    | obj j => exact .inr (gen e)
    | exn j fs => exact .inr (gen e)
    | unk j => exact .inr (gen e)
  | int i =>
    cases w2 with
    | non => rw [RV.int_] at r1; rw [RV.non_] at r2; subst r1 r2; cases e; exact .inl ⟨rfl, rfl⟩
    | int j =>
      rw [RV.int_] at r1 r2; subst r1 r2; cases e
      exact .inl ⟨rfl, by by_cases q : i = j <;> simp [q]⟩
    | bl j => exact .inr (gen e)
    | str j => exact .inr (gen e)
    | tup j => exact .inr (gen e)
    | obj j => exact .inr (gen e)
    | exn j fs => exact .inr (gen e)
    | unk j => exact .inr (gen e)
  | bl i =>
    cases w2 with
    | non => rw [RV.bl_] at r1; rw [RV.non_] at r2; subst r1 r2; cases e; exact .inl ⟨rfl, rfl⟩
    | bl j =>
      rw [RV.bl_] at r1 r2; subst r1 r2; cases e
      exact .inl ⟨rfl, by by_cases q : i = j <;> simp [q]⟩
    | int j => exact .inr (gen e)
    | str j => exact .inr (gen e)
    | tup j => exact .inr (gen e)
    | obj j => exact .inr (gen e)
    | exn j fs => exact .inr (gen e)
    | unk j => exact .inr (gen e)
  | str i =>
    cases w2 with
    | non => rw [RV.str_] at r1; rw [RV.non_] at r2; subst r1 r2; cases e; exact .inl ⟨rfl, rfl⟩
    | str j =>
      rw [RV.str_] at r1 r2; subst r1 r2; cases e
      exact .inl ⟨rfl, by by_cases q : i = j <;> simp [q]⟩
    | int j => exact .inr (gen e)
    | bl j => exact .inr (gen e)
    | tup j => exact .inr (gen e)
    | obj j => exact .inr (gen e)
    | exn j fs => exact .inr (gen e)
    | unk j => exact .inr (gen e)
  | tup i => cases w2 <;> exact .inr (gen e)
  | obj i => cases w2 <;> exact .inr (gen e)
  | exn i fs => cases w2 <;> exact .inr (gen e)
  | unk i => cases w2 <;> exact .inr (gen e)
theorem eq_sound : Sound2 K ca (rEqA K) (cmpS .Eq) := by
  intro XX ρ h H w1 w2 v1 v2 Q R r1 r2 x
  obtain ⟨b, e, q⟩ := WpQ.okB R x
  rcases eqS_cases R r1 r2 e with ⟨s, z⟩ | ⟨d, f, h1, h2, s1, s2, z⟩
  · subst z; exact .inl ⟨s, q⟩
  · subst z; exact .inr ⟨d, f, h1, h2, s1, s2, q⟩
theorem ne_sound : Sound2 K ca (rNeA K) (cmpS .NotEq) := by
  intro XX ρ h H w1 w2 v1 v2 Q R r1 r2 x
  obtain ⟨b, e, q⟩ := WpQ.okB R x
  cases e' : eqS h w1 w2 with
  | none => rw [e'] at e; cases e
  | some c =>
    rw [e'] at e
    cases e
    rcases eqS_cases R r1 r2 e' with ⟨s, z⟩ | ⟨d, f, h1, h2, s1, s2, z⟩
    · subst z; exact .inl ⟨s, q⟩
    · subst z; exact .inr ⟨d, f, h1, h2, s1, s2, q⟩
theorem ord_sound {op : CmpOp} {f : Int → Int → Bool} (hk : ∀ w1 w2 h, cmpS op w1 w2 h = match w1, w2 with
    | .int i, .int j => .ok (.bl (f i j)) h
    | _, _ => .bad) : Sound2 K ca (rI0 fun i j => .bl (f i j)) (cmpS op) := by
  intro XX ρ h H w1 w2 v1 v2 Q R r1 r2 x
  rw [hk] at x
  cases w1 with
  | int i =>
    cases w2 with
    | int j =>
      rw [RV.int_] at r1 r2
      subst r1 r2
      exact ⟨i, j, rfl, rfl, x.val R ((RV.bl_ _ _).mpr rfl)⟩
    | _ => exact x.elim
  | _ => exact x.elim
theorem lt_sound : Sound2 K ca (rI0 fun i j => .bl (decide (i < j))) (cmpS .Lt) := ord_sound fun _ _ _ => rfl
theorem le_sound : Sound2 K ca (rI0 fun i j => .bl (decide (i ≤ j))) (cmpS .LtE) := ord_sound fun _ _ _ => rfl
theorem gt_sound : Sound2 K ca (rI0 fun i j => .bl (decide (j < i))) (cmpS .Gt) := ord_sound fun _ _ _ => rfl
theorem ge_sound : Sound2 K ca (rI0 fun i j => .bl (decide (j ≤ i))) (cmpS .GtE) := ord_sound fun _ _ _ => rfl
def rIsA : R2 := fun x y H Q => (y = .non ∧ Q (.bl (decide (x = .non))) H) ∨ rIsB x y H Q
def rIsntA : R2 := fun x y H Q => (y = .non ∧ Q (.bl (!decide (x = .non))) H) ∨ rNotB x y H Q
theorem op_isA {X : Cx} : OpR X (compareOp .Is) rIsA := op_isN.or op_isBl
theorem op_isntA {X : Cx} : OpR X (compareOp .IsNot) rIsntA := op_notN.or op_notBl
theorem RV.isnon {w : PV} {v : V} (r : RV K ρ H w v) (hn : w ≠ .non) (hu : ∀ n, w ≠ .unk n) : v ≠ .non := by
  cases w with
  | non => exact absurd rfl hn
  | bl b => rw [RV.bl_] at r; subst r; intro z; cases z
  | int b => rw [RV.int_] at r; subst r; intro z; cases z
  | str b => rw [RV.str_] at r; subst r; intro z; cases z
  | tup b => rw [RV.tup_] at r; obtain ⟨_, _, rfl, _⟩ := r; intro z; cases z
  | obj b => rw [RV.obj_] at r; obtain ⟨_, _, rfl⟩ := r; intro z; cases z
  | exn c fs => rw [RV.exn_] at r; exact r.elim
  | unk n => exact absurd rfl (hu n)
theorem is_sound : Sound2 K ca rIsA (cmpS .Is) := by
  intro XX ρ h H w1 w2 v1 v2 Q R r1 r2 x
  cases w2 with
  | non =>
    rw [RV.non_] at r2
    subst r2
    refine .inl ⟨rfl, ?_⟩
    by_cases z : w1 = .non
    · subst z
      rw [RV.non_] at r1
      subst r1
      exact Wp.val (w := .bl true) R x ((RV.bl_ _ _).mpr rfl)
    · by_cases hu : ∃ n, w1 = .unk n
      · obtain ⟨n, rfl⟩ := hu
        exact x.elim
      rw [decide_eq_false (r1.isnon z fun n e => hu ⟨n, e⟩)]
      cases w1 with
      | non => exact absurd rfl z
      | exn c fs => exact x.elim
      | unk n => exact x.elim
      | _ => exact Wp.val (w := .bl false) R x ((RV.bl_ _ _).mpr rfl)
  | bl b =>
    cases w1 with
    | bl a =>
      rw [RV.bl_] at r1 r2
      subst r1 r2
      exact .inr ⟨a, b, rfl, rfl, Wp.val (w := .bl (decide (a = b))) R x ((RV.bl_ _ _).mpr rfl)⟩
    | _ => exact x.elim
  | _ => exact x.elim
theorem isnt_sound : Sound2 K ca rIsntA (cmpS .IsNot) := by
  intro XX ρ h H w1 w2 v1 v2 Q R r1 r2 x
  cases w2 with
  | non =>
    rw [RV.non_] at r2
    subst r2
    refine .inl ⟨rfl, ?_⟩
    by_cases z : w1 = .non
    · subst z
      rw [RV.non_] at r1
      subst r1
      exact Wp.val (w := .bl false) R x ((RV.bl_ _ _).mpr rfl)
    · by_cases hu : ∃ n, w1 = .unk n
      · obtain ⟨n, rfl⟩ := hu
        exact x.elim
      rw [decide_eq_false (r1.isnon z fun n e => hu ⟨n, e⟩)]
      cases w1 with
      | non => exact absurd rfl z
      | exn c fs => exact x.elim
      | unk n => exact x.elim
      | _ => exact Wp.val (w := .bl true) R x ((RV.bl_ _ _).mpr rfl)
  | bl b =>
    cases w1 with
    | bl a =>
      rw [RV.bl_] at r1 r2
      subst r1 r2
      exact .inr ⟨a, b, rfl, rfl, Wp.val (w := .bl (!decide (a = b))) R x ((RV.bl_ _ _).mpr rfl)⟩
    | _ => exact x.elim
  | _ => exact x.elim
end
end DD
set_option Elab.async false
set_option linter.all false
set_option maxRecDepth 100000
set_option maxHeartbeats 4000000
/-! DC3: in, truth, subscripts. -/
namespace DD
open PySem PySem.Spec PyProof.Rows L2
variable [Ups]
section
variable {K : PySem.W.Frag} {ca : Nat → Addr} {ρ ρ' : List Addr} {h h' : Hh} {H H' : Hp} {XX : WX'} {Q : VK}
theorem RFs.val {κ : Type} [DecidableEq κ] (k : κ) : ∀ {ws : List (κ × PV)} {vs : List (κ × V)}, RFs K ρ H ws vs → (valP ws k = none ∧ valV vs k = none) ∨ ∃ w v, valP ws k = some w ∧ valV vs k = some v ∧ RV K ρ H w v
  | [], vs, r => by
    have r : vs = [] := r
    subst r
    exact .inl ⟨rfl, rfl⟩
  | (j, w) :: ws, vs, ⟨v, t, e, q, r⟩ => by
    subst e
    by_cases z : j = k
    · subst z
      exact .inr ⟨w, v, by simp [valP], by simp [valV], q⟩
    · rcases RFs.val k r with ⟨a, b⟩ | ⟨w', v', a, b, c⟩
      · exact .inl ⟨by simpa [valP, z] using a, by simpa [valV, z] using b⟩
      · exact .inr ⟨w', v', by simpa [valP, z] using a, by simpa [valV, z] using b, c⟩
theorem RFs.length {κ : Type} : ∀ {ws : List (κ × PV)} {vs : List (κ × V)}, RFs K ρ H ws vs → ws.length = vs.length
  | [], vs, r => by have r : vs = [] := r; subst r; rfl
  | (j, w) :: ws, vs, ⟨v, t, e, q, r⟩ => by subst e; simp [RFs.length r]
theorem RFs.app {κ : Type} : ∀ {ws ws' : List (κ × PV)} {vs vs' : List (κ × V)}, RFs K ρ H ws vs → RFs K ρ H ws' vs' → RFs K ρ H (ws ++ ws') (vs ++ vs')
  | [], _, vs, _, r, s => by have r : vs = [] := r; subst r; exact s
  | (j, w) :: ws, _, _, _, ⟨v, t, e, q, r⟩, s => by subst e; exact ⟨v, _, rfl, q, RFs.app r s⟩
theorem RFs.any {κ : Type} [DecidableEq κ] (k : κ) : ∀ {ws : List (κ × PV)} {vs : List (κ × V)}, RFs K ρ H ws vs → (ws.any fun kv => decide (kv.1 = k)) = vs.any fun kv => decide (kv.1 = k)
  | [], vs, r => by have r : vs = [] := r; subst r; rfl
  | (j, w) :: ws, vs, ⟨v, t, e, q, r⟩ => by subst e; rw [List.any_cons, List.any_cons, RFs.any k r]
theorem RFs.repl {κ : Type} [DecidableEq κ] (k : κ) {w : PV} {v : V} (q : RV K ρ H w v) : ∀ {ws : List (κ × PV)} {vs : List (κ × V)}, RFs K ρ H ws vs →
    RFs K ρ H (ws.map fun kv => if kv.1 = k then (kv.1, w) else kv) (vs.map fun kv => if kv.1 = k then (kv.1, v) else kv)
  | [], vs, r => by have r : vs = [] := r; subst r; rfl
  | (j, x) :: ws, vs, ⟨y, t, e, p, r⟩ => by
    subst e
    rw [List.map_cons, List.map_cons]
    by_cases z : j = k
    · rw [if_pos z, if_pos z]
      exact ⟨v, _, rfl, q, RFs.repl k q r⟩
    · rw [if_neg z, if_neg z]
      exact ⟨y, _, rfl, p, RFs.repl k q r⟩
theorem RFs.put {κ : Type} [DecidableEq κ] (k : κ) {w : PV} {v : V} (q : RV K ρ H w v) {ws : List (κ × PV)} {vs : List (κ × V)} (r : RFs K ρ H ws vs) : RFs K ρ H (putP ws k w) (putK vs k v) := by
  unfold putP putK
  rw [r.any k]
  split
  · exact r.repl k q
  · exact r.app ⟨v, [], rfl, q, rfl⟩
theorem RFs.drop {κ : Type} [DecidableEq κ] (k : κ) : ∀ {ws : List (κ × PV)} {vs : List (κ × V)}, RFs K ρ H ws vs → RFs K ρ H (dropP ws k) (dropK vs k)
  | [], vs, r => by have r : vs = [] := r; subst r; rfl
  | (j, x) :: ws, vs, ⟨y, t, e, p, r⟩ => by
    subst e
    unfold dropP dropK
    rw [List.filter_cons, List.filter_cons]
    by_cases z : j = k
    · simp only [ne_eq, z, not_true_eq_false, decide_false, Bool.false_eq_true, if_false]
      exact RFs.drop k r
    · simp only [ne_eq, z, not_false_eq_true, decide_true, if_true]
      exact ⟨y, _, rfl, p, RFs.drop k r⟩
theorem keyP_ok {w : PV} {v : V} {k : Key} (r : RV K ρ H w v) (e : keyP w = some k) : v = kV k := by
  cases w with
  | int i => rw [RV.int_] at r; subst r; cases e; rfl
  | str i => rw [RV.str_] at r; subst r; cases e; rfl
  | _ => cases e
theorem flat_ok {w : PV} {v : V} (r : RV K ρ H w v) (e : flatP w = true) : flatV v = true := by
  cases w with
  | non => rw [RV.non_] at r; subst r; rfl
  | bl _ => rw [RV.bl_] at r; subst r; rfl
  | int _ => rw [RV.int_] at r; subst r; rfl
  | str _ => rw [RV.str_] at r; subst r; rfl
  | _ => cases e
theorem eqP_ok {w w' : PV} {v v' : V} (r : RV K ρ H w v) (r' : RV K ρ H w' v') (e : flatP w = true) (e' : flatP w' = true) : eqV v v' = eqP w w' := by
  cases w with
  | non =>
    rw [RV.non_] at r; subst r
    cases w' with
    | non => rw [RV.non_] at r'; subst r'; rfl
    | bl _ => rw [RV.bl_] at r'; subst r'; rfl
    | int _ => rw [RV.int_] at r'; subst r'; rfl
    | str _ => rw [RV.str_] at r'; subst r'; rfl
    | _ => cases e'
  | bl _ =>
    rw [RV.bl_] at r; subst r
    cases w' with
    | non => rw [RV.non_] at r'; subst r'; rfl
    | bl _ => rw [RV.bl_] at r'; subst r'; rfl
    | int _ => rw [RV.int_] at r'; subst r'; rfl
    | str _ => rw [RV.str_] at r'; subst r'; rfl
    | _ => cases e'
  | int _ =>
    rw [RV.int_] at r; subst r
    cases w' with
    | non => rw [RV.non_] at r'; subst r'; rfl
    | bl _ => rw [RV.bl_] at r'; subst r'; rfl
    | int _ => rw [RV.int_] at r'; subst r'; rfl
    | str _ => rw [RV.str_] at r'; subst r'; rfl
    | _ => cases e'
  | str _ =>
    rw [RV.str_] at r; subst r
    cases w' with
    | non => rw [RV.non_] at r'; subst r'; rfl
    | bl _ => rw [RV.bl_] at r'; subst r'; rfl
    | int _ => rw [RV.int_] at r'; subst r'; rfl
    | str _ => rw [RV.str_] at r'; subst r'; rfl
    | _ => cases e'
  | _ => cases e
theorem RVs.flat : ∀ {ws : List PV} {vs : List V}, RVs K ρ H ws vs → ws.all flatP = true → vs.all flatV = true
  | [], vs, r, _ => by rw [r.inv0]; rfl
  | w :: ws, vs, r, e => by
    obtain ⟨v, t, rfl, q, r⟩ := r.inv
    rw [List.all_cons, Bool.and_eq_true] at e ⊢
    exact ⟨flat_ok q e.1, RVs.flat r e.2⟩
theorem RVs.anyEq {x : PV} {y : V} (q : RV K ρ H x y) (fx : flatP x = true) : ∀ {ws : List PV} {vs : List V}, RVs K ρ H ws vs → ws.all flatP = true → inV y vs = ws.any fun z => eqP z x
  | [], vs, r, _ => by rw [r.inv0]; rfl
  | w :: ws, vs, r, e => by
    obtain ⟨v, t, rfl, q', r⟩ := r.inv
    rw [List.all_cons, Bool.and_eq_true] at e
    unfold inV
    rw [List.any_cons, List.any_cons, eqP_ok q' q e.1 fx]
    exact congrArg _ (RVs.anyEq q fx r e.2)
/-! in -/
def rInTD (K : PySem.W.Frag) (neg : Bool) : R2 := fun x y H Q => ∃ d ds, Dp K H x d ∧ (Dp K H y (.list ds) ∨ Dp K H y (.tuple ds)) ∧ SeqAt.shaped d = true ∧ SeqAt.shaped (.list ds) = true ∧ Q (.bl (if neg then !ds.any fun z => PyData.eqv z d else ds.any fun z => PyData.eqv z d)) H
theorem op_inTD {X : Cx} (hu : X.A.units + 65 < cLine) : OpR X (compareOp .In) (rInTD X.K false) := by
  intro pins s σ H x y v u Q I rx ry h
  obtain ⟨d, ds, hd, he, sd, se, q⟩ := h
  obtain ⟨as, r1⟩ := Dp.reads I d x v hd rx
  rcases he with he | he
  · obtain ⟨bs, r2⟩ := Dp.reads I (.list ds) y u he ry
    exact SeqAt.in_list_reads r2 r1 (SeqAt.canLay_of_shaped se) (SeqAt.canLay_of_shaped sd) (room_in_shaped sd hu) ⟨.bl _, H, I, rfl, q⟩
  · obtain ⟨bs, r2⟩ := Dp.reads I (.tuple ds) y u he ry
    exact SeqAt.in_tuple_reads r2 r1 (SeqAt.canLay_of_shaped se) (SeqAt.canLay_of_shaped sd) (room_in_shaped sd hu) ⟨.bl _, H, I, rfl, q⟩
theorem op_notInTD {X : Cx} (hu : X.A.units + 65 < cLine) : OpR X (compareOp .NotIn) (rInTD X.K true) := by
  intro pins s σ H x y v u Q I rx ry h
  obtain ⟨d, ds, hd, he, sd, se, q⟩ := h
  obtain ⟨as, r1⟩ := Dp.reads I d x v hd rx
  rcases he with he | he
  · obtain ⟨bs, r2⟩ := Dp.reads I (.list ds) y u he ry
    exact SeqAt.notIn_list_reads r2 r1 (SeqAt.canLay_of_shaped se) (SeqAt.canLay_of_shaped sd) (room_in_shaped sd hu) ⟨.bl _, H, I, rfl, q⟩
  · obtain ⟨bs, r2⟩ := Dp.reads I (.tuple ds) y u he ry
    exact SeqAt.notIn_tuple_reads r2 r1 (SeqAt.canLay_of_shaped se) (SeqAt.canLay_of_shaped sd) (room_in_shaped sd hu) ⟨.bl _, H, I, rfl, q⟩
def rDIn (neg : Bool) : R2 := fun x y H Q => ∃ a o, y = .ref a ∧ DGet H a x o ∧ Q (.bl (if neg then !o.isSome else o.isSome)) H
theorem op_dIn {X : Cx} (hu : X.A.units + 1 < cLine) : OpR X (compareOp .In) (rDIn false) := by
  intro pins s σ H x y v u Q I rx ry h
  obtain ⟨a, o, rfl, g, q⟩ := h
  cases ry
  exact d_in hu I g rx fun s' I' => ⟨.bl _, H, I', rfl, q⟩
theorem op_dNotIn {X : Cx} (hu : X.A.units + 1 < cLine) : OpR X (compareOp .NotIn) (rDIn true) := by
  intro pins s σ H x y v u Q I rx ry h
  obtain ⟨a, o, rfl, g, q⟩ := h
  cases ry
  exact d_notIn hu I g rx fun s' I' => ⟨.bl _, H, I', rfl, q⟩
def rInA (K : PySem.W.Frag) (neg : Bool) : R2 := fun x y H Q => rIn K neg x y H Q ∨ rInTD K neg x y H Q ∨ rDIn neg x y H Q ∨
  (∃ (c : Nat) (z : Str), x = .str ⟨#[c]⟩ ∧ y = .str z ∧ Q (.bl (if neg then !decide (c ∈ z.cps.toList) else decide (c ∈ z.cps.toList))) H) ∨
  ∃ i j, x = .str i ∧ y = .str j ∧ Q (.bl (if neg then !(!(Builtin.Str.occurrences j i 0 j.length 1).isEmpty) else !(Builtin.Str.occurrences j i 0 j.length 1).isEmpty)) H
theorem op_inA {X : Cx} (hu : X.A.units + 65 < cLine) : OpR X (compareOp .In) (rInA X.K false) := op_in_seq.or ((op_inTD hu).or ((op_dIn (by omega)).or (op_in_sign.or op_in_str)))
theorem op_ninA {X : Cx} (hu : X.A.units + 65 < cLine) : OpR X (compareOp .NotIn) (rInA X.K true) := op_notIn_seq.or ((op_notInTD hu).or ((op_dNotIn (by omega)).or (op_notIn_sign.or op_notIn_str)))
theorem inSeq_ok (R : Rel K ca ρ h H) {x : PV} {v : V} {xs : List PV} {vs : List V} {a : Addr} {b : Bool} (r : RV K ρ H x v) (rs : RVs K ρ H xs vs) (e : inSeq h x xs = some b) :
    (flatV v = true ∧ vs.all flatV = true ∧ inV v vs = b) ∨ ∃ d ds, Dp K H v d ∧ DpAll K H vs ds ∧ SeqAt.shaped d = true ∧ SeqAt.shaped (.list ds) = true ∧ (ds.any fun z => PyData.eqv z d) = b := by
  unfold inSeq at e
  split at e
  · rename_i z
    rw [Bool.and_eq_true] at z
    cases e
    exact .inl ⟨flat_ok r z.1, rs.flat z.2, RVs.anyEq r z.1 rs z.2⟩
  · split at e
    · rename_i d ds q1 q2
      by_cases z : SeqAt.shaped (.list ds) = true
      · rw [if_pos z] at e
        cases e
        obtain ⟨d1, s1⟩ := datS_dp R r q1
        exact .inr ⟨d, ds, d1, dats_dp 65 (dat_dp R 65) xs vs ds rs q2, s1, z, rfl⟩
      · rw [if_neg z] at e; cases e
    · cases e
theorem inS_ok (R : Rel K ca ρ h H) {x y : PV} {v u : V} {b : Bool} (neg : Bool) (r : RV K ρ H x v) (ry : RV K ρ H y u) (e : inS h x y = some b) (q : Q (.bl (if neg then !b else b)) H) : rInA K neg v u H Q := by
  cases y with
  | tup xs =>
    rw [RV.tup_] at ry
    obtain ⟨a, vs, rfl, s, rs⟩ := ry
    rcases inSeq_ok (a := a) R r rs e with ⟨f1, f2, z⟩ | ⟨d, ds, h1, h2, s1, s2, z⟩
    · subst z; exact .inl ⟨a, vs, rfl, .inr s.1, f1, f2, q⟩
    · subst z; exact .inr (.inl ⟨d, ds, h1, .inr (.tup s.1 h2), s1, s2, q⟩)
  | obj i =>
    rw [RV.obj_] at ry
    obtain ⟨a, ha, rfl⟩ := ry
    have e : (match h.lst? i with
      | some xs => inSeq h x xs
      | none => match h.dct? i with
        | some kvs => (keyP x).map fun k => (valP kvs k).isSome
        | none => none) = some b := e
    cases ql : h.lst? i with
    | some xs =>
      rw [ql] at e
      obtain ⟨a', vs, ha', s, rs, _⟩ := lst_get ql R
      rw [ha] at ha'; cases ha'
      rcases inSeq_ok (a := a) R r rs e with ⟨f1, f2, z⟩ | ⟨d, ds, h1, h2, s1, s2, z⟩
      · subst z; exact .inl ⟨a, vs, rfl, .inl (.inl s), f1, f2, q⟩
      · subst z; exact .inr (.inl ⟨d, ds, h1, .inl (.lst (.inl s) h2), s1, s2, q⟩)
    | none =>
      rw [ql] at e
      cases qd : h.dct? i with
      | none => rw [qd] at e; cases e
      | some kvs =>
        rw [qd] at e
        obtain ⟨a', vs, ha', s, rs, _⟩ := dct_get qd R
        rw [ha] at ha'; cases ha'
        cases k : keyP x with
        | none => rw [k] at e; cases e
        | some k' =>
          rw [k] at e
          have ek := keyP_ok r k
          subst ek
          have e : (valP kvs k').isSome = b := Option.some.inj e
          subst e
          refine .inr (.inr (.inl ⟨a, valV vs k', rfl, .inl ⟨vs, k', s, rfl, rfl⟩, ?_⟩))
          rcases rs.val k' with ⟨z1, z2⟩ | ⟨w, v, z1, z2, _⟩
          · rw [z1] at q; rw [z2]; exact q
          · rw [z1] at q; rw [z2]; exact q
  | str z =>
    rw [RV.str_] at ry
    subst ry
    cases x with
    | str c =>
      rw [RV.str_] at r
      subst r
      have e : (match c.cps.toList with
        | [n] => some (decide (n ∈ z.cps.toList))
        | _ => some (!(Builtin.Str.occurrences z c 0 z.length 1).isEmpty)) = some b := e
      split at e
      · rename_i n qn
        cases e
        have ec : c = ⟨#[n]⟩ := by
          cases c with
          | mk cs =>
            have : cs = #[n] := Array.toList_inj.mp qn
            rw [this]
        subst ec
        exact .inr (.inr (.inr (.inl ⟨n, z, rfl, rfl, q⟩)))
      · cases e
        exact .inr (.inr (.inr (.inr ⟨c, z, rfl, rfl, q⟩)))
    | _ => cases e
  | _ => cases e
theorem in_sound : Sound2 K ca (rInA K false) (cmpS .In) := by
  intro XX ρ h H w1 w2 v1 v2 Q R r1 r2 x
  obtain ⟨b, e, q⟩ := WpQ.okB R x
  exact inS_ok R false r1 r2 e q
theorem nin_sound : Sound2 K ca (rInA K true) (cmpS .NotIn) := by
  intro XX ρ h H w1 w2 v1 v2 Q R r1 r2 x
  obtain ⟨b, e, q⟩ := WpQ.okB R x
  cases e' : inS h w1 w2 with
  | none => rw [e'] at e; cases e
  | some c =>
    rw [e'] at e
    cases e
    exact inS_ok R true r1 r2 e' q
/-! truth -/
theorem tru_ok' (R : Rel K ca ρ h H) {w : PV} {v : V} {b : Bool} (r : RV K ρ H w v) (e : truS h w = some b) : TruV K v H b := by
  cases w with
  | non => rw [RV.non_] at r; subst r; cases e; rfl
  | bl _ => rw [RV.bl_] at r; subst r; cases e; rfl
  | int _ => rw [RV.int_] at r; subst r; cases e; rfl
  | str y =>
    rw [RV.str_] at r; subst r
    have e : (if y.length ≤ lim then some ((y.length : Int) != 0) else none) = some b := e
    by_cases z : y.length ≤ lim
    · rw [if_pos z] at e; cases e; exact ⟨lim_ok z, rfl⟩
    · rw [if_neg z] at e; cases e
  | tup xs =>
    rw [RV.tup_] at r
    obtain ⟨a, vs, rfl, s, rs⟩ := r
    cases e
    refine .inr (.inl ⟨vs, s.1, ?_⟩)
    have := rs.length
    cases xs <;> cases vs <;> simp_all
  | obj i =>
    rw [RV.obj_] at r
    obtain ⟨a, ha, rfl⟩ := r
    have e : (match h.get i with
      | some (.lst xs) => some (!xs.isEmpty)
      | some (.dct xs) => some (!xs.isEmpty)
      | _ => none) = some b := e
    split at e
    · rename_i xs q
      cases e
      obtain ⟨a', u, h1, h2, r⟩ := R.obj q
      rw [ha] at h1; cases h1
      obtain ⟨vs, rfl, rs⟩ := r
      refine .inl ⟨vs, .inl (.inl h2), ?_⟩
      have := rs.length
      cases xs <;> cases vs <;> simp_all
    · rename_i xs q
      cases e
      obtain ⟨a', u, h1, h2, r⟩ := R.obj q
      rw [ha] at h1; cases h1
      obtain ⟨vs, rfl, rs⟩ := r
      refine .inr (.inr ⟨vs, h2, ?_⟩)
      have := rs.length
      cases xs <;> cases vs <;> simp_all
    · cases e
  | exn _ _ => cases e
  | unk _ => cases e
/-! subscripts -/
theorem RVs.atI {ws : List PV} {vs : List V} {i : Int} {w : PV} (r : RVs K ρ H ws vs) (e : atI ws i = some w) : ∃ v, L2.atI vs i = some v ∧ RV K ρ H w v := by
  unfold L2.atI at e ⊢
  rw [← r.length]
  cases q : ixN ws.length i with
  | none => rw [q] at e; cases e
  | some j =>
    rw [q] at e
    exact r.get e
def rIxA (K : PySem.W.Frag) : R2 := fun x y H Q => rIx K x y H Q ∨ ∃ a v, x = .ref a ∧ DGet H a y (some v) ∧ Q v H
theorem ix_dct {X : Cx} (hu : X.A.units + 1 < cLine) : IxR X (fun x y H Q => ∃ a v, x = .ref a ∧ DGet H a y (some v) ∧ Q v H) := by
  intro value slice pins s σ H x y o i Q I rx ry h hs
  obtain ⟨a, w, ex, g, q⟩ := h
  subst ex
  obtain rfl : o = Value.ref a := rx
  have hT := dict_typeIs I g
  unfold subscriptTail
  refine wpAny_bind ?_
  rw [getitemInPython_of_ne hT.not_modules]
  refine wpAny_bind (wpAny_specialOf hT PySem.F.slot_dict_getitem.lookup ?_)
  have fin : wpAny (model X.prog X.w) X.A (subscripted slice false (.ref a) i) (fun r s₃ => wpAny (model X.prog X.w) X.A (letTemporaryGo value (.ref a) r >>= fun _ => pure r) (EP X pins σ Q) X.xe s₃) X.xe s := by
    rw [hs]
    exact wpAny_operating (wpAny_mono (d_getItem (Q := fun w' s' => EP X pins σ Q w' s') hu I g ry fun w' s' I' r' => ⟨w, H, I', r', q⟩) (fun r s₃ h₃ => wpAny_bind (wpAny_letTemporaryGo (wpAny_pure h₃))) fun _ _ x => x)
  first
    | exact wpAny_pure (wpAny_bind fin)
    | exact wpAny_bind (wpAny_pure (wpAny_bind fin))
    | exact wpAny_bind fin
theorem ix_A {X : Cx} (hu : X.A.units + 1 < cLine) : IxR X (rIxA X.K) := ix_seq.or (ix_dct hu)
theorem ixL_ok {a : Addr} {xs : List PV} {vs : List V} {w2 : PV} {v2 : V} (R : Rel K ca ρ h H) (rs : RVs K ρ H xs vs) (s : SqL K H a vs ∨ SqT K H a vs) (r2 : RV K ρ H w2 v2) (x : WpQ K ca XX ρ H Q (ixL xs w2 h)) : rIxA K (.ref a) v2 H Q := by
  cases w2 with
  | int i =>
    rw [RV.int_] at r2
    subst r2
    have x : WpQ K ca XX ρ H Q (match atI xs i with
      | some v => .ok v h
      | none => .bad) := x
    cases q : atI xs i with
    | none => rw [q] at x; exact x.elim
    | some w =>
      rw [q] at x
      obtain ⟨v, e, r⟩ := rs.atI q
      rcases s with s | s
      · exact .inl (.inl ⟨a, vs, i, v, rfl, rfl, s, e, Wp.val R x r⟩)
      · exact .inl (.inr (.inl ⟨a, vs, i, v, rfl, rfl, s, e, Wp.val R x r⟩))
  | _ => exact x.elim
theorem ix_sound : Sound2 K ca (rIxA K) ixS := by
  intro XX ρ h H w1 w2 v1 v2 Q R r1 r2 x
  cases w1 with
  | tup xs =>
    rw [RV.tup_] at r1
    obtain ⟨a, vs, rfl, s, rs⟩ := r1
    exact ixL_ok R rs (.inr s.1) r2 x
  | str z =>
    cases w2 with
    | int i =>
      rw [RV.str_] at r1
      rw [RV.int_] at r2
      subst r1 r2
      have x : WpQ K ca XX ρ H Q (if z.length ≤ lim then (match atI z.cps.toList i with
        | some c => .ok (.str ⟨#[c]⟩) h
        | none => .bad) else .bad) := x
      obtain ⟨e, x⟩ := x.iff
      cases q : atI z.cps.toList i with
      | none => rw [q] at x; exact x.elim
      | some c =>
        rw [q] at x
        exact .inl (.inr (.inr ⟨z, i, c, rfl, rfl, lim_ok e, q, Wp.val R x ((RV.str_ _ _).mpr rfl)⟩))
    | _ => exact x.elim
  | obj o =>
    rw [RV.obj_] at r1
    obtain ⟨a, ha, rfl⟩ := r1
    have x : WpQ K ca XX ρ H Q (match h.lst? o with
      | some xs => ixL xs w2 h
      | none => match h.dct? o with
        | some kvs => ixD kvs w2 h
        | none => .bad) := x
    cases ql : h.lst? o with
    | some xs =>
      rw [ql] at x
      obtain ⟨a', vs, ha', s, rs, _⟩ := lst_get ql R
      rw [ha] at ha'; cases ha'
      exact ixL_ok R rs (.inl (.inl s)) r2 x
    | none =>
      rw [ql] at x
      cases qd : h.dct? o with
      | none => rw [qd] at x; exact x.elim
      | some kvs =>
        rw [qd] at x
        obtain ⟨a', vs, ha', s, rs, _⟩ := dct_get qd R
        rw [ha] at ha'; cases ha'
        have x : WpQ K ca XX ρ H Q (match keyP w2 with
          | some k => match valP kvs k with
            | some v => .ok v h
            | none => .bad
          | none => .bad) := x
        cases qk : keyP w2 with
        | none => rw [qk] at x; exact x.elim
        | some k =>
          rw [qk] at x
          have ek := keyP_ok r2 qk
          subst ek
          rcases rs.val k with ⟨z1, z2⟩ | ⟨w', v, z1, z2, r⟩
          · have x : WpQ K ca XX ρ H Q (match valP kvs k with
              | some v => .ok v h
              | none => .bad) := x
            rw [z1] at x
            exact x.elim
          · have x : WpQ K ca XX ρ H Q (match valP kvs k with
              | some v => .ok v h
              | none => .bad) := x
            rw [z1] at x
            exact .inr ⟨a, v, rfl, by rw [← z2]; exact .inl ⟨vs, k, s, rfl, rfl⟩, Wp.val R x r⟩
  | _ => exact x.elim
/-- t[lo:hi]: what is made is known to the last -/
def rSlF (K : PySem.W.Frag) : V → Option Int → Option Int → Hp → VK → Prop := fun x lo hi H Q => ∃ a xs, x = .ref a ∧ SqT K H a xs ∧
  (HT.sIx xs.length 0 lo = 0 ∧ HT.sIx xs.length xs.length hi = xs.length → Q (.ref a) H) ∧
  (¬ (HT.sIx xs.length 0 lo = 0 ∧ HT.sIx xs.length xs.length hi = xs.length) → ∀ p ob, H p = none → ob.dict = none → Q (.ref p) (upd H p (.frz ob (.tup (cutV xs lo hi)))))
theorem sl_tupF {X : Cx} : SlR X (rSlF X.K) := by
  rintro pins s σ H x v vl vu lo hi sl Q I rx hs pl pu ⟨a, xs, rfl, hx, q1, q2⟩
  by_cases hw : HT.sIx xs.length 0 lo = 0 ∧ HT.sIx xs.length xs.length hi = xs.length
  · exact sl_tupA pins s σ H _ v vl vu lo hi sl Q I rx hs pl pu ⟨a, xs, rfl, hx, q1, fun n => absurd hw n⟩
  cases rx
  obtain ⟨its, r, ht, hz⟩ := I.tuple hx
  have hlen : its.toArray.size = xs.length := by rw [List.size_toArray]; exact r.length.symm
  have cut := (r.drop (HT.sIx xs.length 0 lo)).take (HT.sIx xs.length xs.length hi - HT.sIx xs.length 0 lo)
  refine ⟨"tuple", _, PyProof.Rows.slot_tuple_getitem.lookup, ht.typeIs, HT.getItem_tuple_cut ht hs pl pu (by rw [hlen]; exact hw) ?_ (by rw [hlen]; exact hz)⟩
  rw [hlen]
  refine ⟨.ref s.heap.objs.size, _, I.laid (t' := s.toks) (o := .frz _ (.tup (cutV xs lo hi))) (fun b ob q => Heap.get?_push_of_some _ q) (Nat.le_refl _) ⟨Heap.get?_push_size _ rfl, by unfold cutV; rw [List.length_take, List.length_drop]; omega, _, cut, IsTup.new _ _⟩, rfl, q2 hw _ _ (I.hok.fresh (Nat.le_refl _)) rfl⟩
def rSlAll (K : PySem.W.Frag) : V → Option Int → Option Int → Hp → VK → Prop := fun x lo hi H Q => rSlF K x lo hi H Q ∨ rSlL K x lo hi H Q ∨ rSlS x lo hi H Q
theorem sl_all {X : Cx} : SlR X (rSlAll X.K) := sl_tupF.or (sl_list.or sl_str)
theorem RVs.drop : ∀ {ws : List PV} {vs : List V} (n : Nat), RVs K ρ H ws vs → RVs K ρ H (ws.drop n) (vs.drop n)
  | _, _, 0, r => r
  | [], _, _ + 1, r => by rw [r.inv0]; exact .nil
  | w :: ws, _, n + 1, r => by
    obtain ⟨v, t, rfl, _, r⟩ := r.inv
    exact RVs.drop n r
theorem RVs.take : ∀ {ws : List PV} {vs : List V} (n : Nat), RVs K ρ H ws vs → RVs K ρ H (ws.take n) (vs.take n)
  | _, _, 0, r => by simpa using RVs.nil
  | [], _, _ + 1, r => by rw [r.inv0]; exact .nil
  | w :: ws, _, n + 1, r => by
    obtain ⟨v, t, rfl, q, r⟩ := r.inv
    exact .cons q (RVs.take n r)
theorem RVs.cut {ws : List PV} {vs : List V} (lo hi : Option Int) (r : RVs K ρ H ws vs) : RVs K ρ H (cutP ws lo hi) (cutV vs lo hi) := by
  unfold cutP cutV
  rw [r.length]
  exact (r.drop _).take _
theorem sl_sound {XX : WX'} {x : PV} {v : V} {lo hi : Option Int} (R : Rel K ca ρ h H) (r : RV K ρ H x v) (q : WpQ K ca XX ρ H Q (slS x lo hi h)) : rSlAll K v lo hi H Q := by
  cases x with
  | tup xs =>
    rw [RV.tup_] at r
    obtain ⟨a, vs, rfl, s, rs⟩ := r
    refine .inl ⟨a, vs, rfl, s.1, fun z => ?_, fun nw p ob n d => Wp.tupF (ws := cutP xs lo hi) R q (rs.cut lo hi) n d⟩
    refine Wp.val (w := .tup (cutP xs lo hi)) R q ((RV.tup_ _ _).mpr ⟨a, vs, rfl, s, ?_⟩)
    have : cutP xs lo hi = xs := by
      unfold cutP
      rw [← rs.length] at z
      rw [z.1, z.2]
      simp
    rw [this]
    exact rs
  | str z =>
    rw [RV.str_] at r
    subst r
    obtain ⟨e, q⟩ := q.iff
    exact .inr (.inr ⟨z, rfl, lim_ok e, q.val R ((RV.str_ _ _).mpr rfl)⟩)
  | obj o =>
    rw [RV.obj_] at r
    obtain ⟨a, ha, rfl⟩ := r
    have q : WpQ K ca XX ρ H Q (match h.lst? o with
      | some xs => .ok (.obj h.n) (h.push (.lst (cutP xs lo hi)))
      | none => .bad) := q
    split at q
    · rename_i xs ql
      obtain ⟨a', vs, ha', s, rs, _⟩ := lst_get ql R
      rw [ha] at ha'; cases ha'
      exact .inr (.inl ⟨a, vs, rfl, .inl s, fun p n => q.objN R ⟨_, rfl, rs.cut lo hi⟩ n⟩)
    · exact q.elim
  | _ => exact q.elim
end
end DD
set_option Elab.async false
set_option linter.all false
set_option maxRecDepth 100000
set_option maxHeartbeats 4000000
/-! DE: readings of own evaluations; expressions without calls. -/
namespace DD
open PySem PySem.Spec PyProof.Rows L2
variable [Ups]

/-- an exception's own dict, by its fields -/
def ExD (K : PySem.W.Frag) (ρ : List Addr) (H : Hp) (fs : List (Str × PV)) (d : Option Addr) : Prop :=
  (fs = [] ∧ d = none) ∨ ∃ dd vs, d = some dd ∧ H dd = some (.xd vs) ∧ RFs K ρ H fs vs
def XW (K : PySem.W.Frag) (ca : Nat → Addr) (W : WX) (σ : L2.St) : WX' := fun c fs _ ρ H => ∀ d, ExD K ρ H fs d → W (.ref (ca c)) d σ H
def tD (K : PySem.W.Frag) (ca : Nat → Addr) (W : WX) (f : SE) : TE := fun σ H Q => ∃ ρ τ h, Rel K ca ρ h H ∧ EnvR K ρ H τ σ ∧ WpQ K ca (XW K ca W σ) ρ H Q (f τ h)
abbrev WpB (K : PySem.W.Frag) (ca : Nat → Addr) (XX : WX') (ρ : List Addr) (H : Hp) (Q : Bool → Hp → Prop) (r : Res Bool) : Prop := Wp K ca (fun _ _ (a b : Bool) => b = a) XX ρ H (fun _ _ _ H' v => Q v H') r
abbrev ST := Env' → Hh → Res Bool
def tDT (K : PySem.W.Frag) (ca : Nat → Addr) (W : WX) (f : ST) : TT := fun σ H Q => ∃ ρ τ h, Rel K ca ρ h H ∧ EnvR K ρ H τ σ ∧ WpB K ca (XW K ca W σ) ρ H Q (f τ h)
abbrev SL := Env' → Hh → Res (List PV)
abbrev WpL (K : PySem.W.Frag) (ca : Nat → Addr) (XX : WX') (ρ : List Addr) (H : Hp) (Q : List V → Hp → Prop) (r : Res (List PV)) : Prop := Wp K ca (RVs K) XX ρ H (fun _ _ _ H' v => Q v H') r
def tDL (K : PySem.W.Frag) (ca : Nat → Addr) (W : WX) (f : SL) : TA := fun σ H Q => ∃ ρ τ h, Rel K ca ρ h H ∧ EnvR K ρ H τ σ ∧ WpL K ca (XW K ca W σ) ρ H Q (f τ h)

/-! ### what is given of a context -/
structure COk (X : Cx) (W : WX) : Prop where
  nd : X.N.Nodup
  calm : X.calm = true
  hu : X.A.units + 65 < cLine
  tk : Takes X W
section
variable {X : Cx} {K : PySem.W.Frag} {ca : Nat → Addr} {W : WX} {σ : L2.St} {ρ : List Addr} {τ : Env'} {h : Hh} {H : Hp} {Q : VK}
/-- the first part of an evaluation -/
theorem tD.fst {α β : Type} {RB : List Addr → Hp → α → β → Prop} {f : SE} {k : PV → Hh → Res α} {Kf : α → Hh → List Addr → Hp → β → Prop} (R : Rel K ca ρ h H) (T : EnvR K ρ H τ σ) (x : Wp K ca RB (XW K ca W σ) ρ H Kf ((f τ h).bind k)) {P : V → Hp → Prop}
    (g : ∀ w h1 ρ1 H1 v, Ext ρ H ρ1 H1 → Rel K ca ρ1 h1 H1 → EnvR K ρ1 H1 τ σ → RV K ρ1 H1 w v → Wp K ca RB (XW K ca W σ) ρ1 H1 Kf (k w h1) → P v H1) : tD K ca W f σ H P :=
  ⟨ρ, τ, h, R, T, (x.bind (RA := RV K)).imp fun w h1 ρ1 H1 v e R1 r x1 => g w h1 ρ1 H1 v e R1 (EnvR.ext R e T) r x1⟩
theorem tDT.fst {α β : Type} {RB : List Addr → Hp → α → β → Prop} {f : ST} {k : Bool → Hh → Res α} {Kf : α → Hh → List Addr → Hp → β → Prop} (R : Rel K ca ρ h H) (T : EnvR K ρ H τ σ) (x : Wp K ca RB (XW K ca W σ) ρ H Kf ((f τ h).bind k)) {P : Bool → Hp → Prop}
    (g : ∀ b h1 ρ1 H1, Ext ρ H ρ1 H1 → Rel K ca ρ1 h1 H1 → EnvR K ρ1 H1 τ σ → Wp K ca RB (XW K ca W σ) ρ1 H1 Kf (k b h1) → P b H1) : tDT K ca W f σ H P :=
  ⟨ρ, τ, h, R, T, (x.bind (RA := fun _ _ (a b : Bool) => b = a)).imp fun w h1 ρ1 H1 v e R1 r x1 => by rw [r]; exact g w h1 ρ1 H1 e R1 (EnvR.ext R e T) x1⟩
theorem tDL.fst {α β : Type} {RB : List Addr → Hp → α → β → Prop} {f : SL} {k : List PV → Hh → Res α} {Kf : α → Hh → List Addr → Hp → β → Prop} (R : Rel K ca ρ h H) (T : EnvR K ρ H τ σ) (x : Wp K ca RB (XW K ca W σ) ρ H Kf ((f τ h).bind k)) {P : List V → Hp → Prop}
    (g : ∀ ws h1 ρ1 H1 vs, Ext ρ H ρ1 H1 → Rel K ca ρ1 h1 H1 → EnvR K ρ1 H1 τ σ → RVs K ρ1 H1 ws vs → Wp K ca RB (XW K ca W σ) ρ1 H1 Kf (k ws h1) → P vs H1) : tDL K ca W f σ H P :=
  ⟨ρ, τ, h, R, T, (x.bind (RA := RVs K)).imp fun w h1 ρ1 H1 v e R1 r x1 => g w h1 ρ1 H1 v e R1 (EnvR.ext R e T) r x1⟩
/-- a rule's reading follows from ours -/
theorem pe_of {e : Expr} {t : TE} {f : SE} (p : PE X e t) (i : ∀ σ H Q ρ τ h, Rel K ca ρ h H → EnvR K ρ H τ σ → WpQ K ca (XW K ca W σ) ρ H Q (f τ h) → t σ H Q) : PE X e (tD K ca W f) :=
  ⟨fun pins s σ H Q I ⟨ρ, τ, h, R, T, x⟩ => p.run pins s σ H Q I (i σ H Q ρ τ h R T x)⟩
theorem pt_of {e : Expr} {t : TT} {f : ST} (p : PT X e t) (i : ∀ σ H Q ρ τ h, Rel K ca ρ h H → EnvR K ρ H τ σ → WpB K ca (XW K ca W σ) ρ H Q (f τ h) → t σ H Q) : PT X e (tDT K ca W f) :=
  ⟨fun pins s σ H Q I ⟨ρ, τ, h, R, T, x⟩ => p.run pins s σ H Q I (i σ H Q ρ τ h R T x)⟩
theorem pw_of {e : Expr} {t : TT} {f : ST} (p : PW X e t) (i : ∀ σ H Q ρ τ h, Rel K ca ρ h H → EnvR K ρ H τ σ → WpB K ca (XW K ca W σ) ρ H Q (f τ h) → t σ H Q) : PW X e (tDT K ca W f) :=
  ⟨fun wh pins s σ H Q I ⟨ρ, τ, h, R, T, x⟩ => p.run wh pins s σ H Q I (i σ H Q ρ τ h R T x)⟩
theorem pa_of {e : List Expr} {t : TA} {f : SL} (p : PA X e t) (i : ∀ σ H Q ρ τ h, Rel K ca ρ h H → EnvR K ρ H τ σ → WpL K ca (XW K ca W σ) ρ H Q (f τ h) → t σ H Q) : PA X e (tDL K ca W f) :=
  ⟨fun pos pins s σ H Q I ⟨ρ, τ, h, R, T, x⟩ => p.run pos pins s σ H Q I (i σ H Q ρ τ h R T x)⟩
end
def eBad : SE := fun _ _ => .bad
theorem pe_bad {X : Cx} {K : PySem.W.Frag} {ca : Nat → Addr} {W : WX} {e : Expr} : PE X e (tD K ca W eBad) := ⟨fun _ _ _ _ _ _ ⟨_, _, _, _, _, x⟩ => x.elim⟩
def sTBad : ST := fun _ _ => .bad
theorem pt_bad {X : Cx} {K : PySem.W.Frag} {ca : Nat → Addr} {W : WX} {e : Expr} : PT X e (tDT K ca W sTBad) := ⟨fun _ _ _ _ _ _ ⟨_, _, _, _, _, x⟩ => x.elim⟩
theorem pw_bad {X : Cx} {K : PySem.W.Frag} {ca : Nat → Addr} {W : WX} {e : Expr} : PW X e (tDT K ca W sTBad) := ⟨fun _ _ _ _ _ _ _ ⟨_, _, _, _, _, x⟩ => x.elim⟩
def sLBad : SL := fun _ _ => .bad
theorem pa_bad {X : Cx} {K : PySem.W.Frag} {ca : Nat → Addr} {W : WX} {e : List Expr} : PA X e (tDL K ca W sLBad) := ⟨fun _ _ _ _ _ _ _ ⟨_, _, _, _, _, x⟩ => x.elim⟩

/-! ### the combinators -/
def eVar (i : Nat) : SE := fun τ h => match τ[i]? with
  | some (some w) => .ok w h
  | _ => .bad
def eVal (w : PV) : SE := fun _ h => .ok w h
def eBin (op : Operator) (f g : SE) : SE := fun τ h => (f τ h).bind fun x h => (g τ h).bind fun y h => binS op x y h
def eCmp (op : CmpOp) (f g : SE) : SE := fun τ h => (f τ h).bind fun x h => (g τ h).bind fun y h => cmpS op x y h
/-- a op b op' c -/
def eChain (op op' : CmpOp) (f g k : SE) : SE := fun τ h => (f τ h).bind fun x h => (g τ h).bind fun y h => (cmpS op x y h).bind fun z h => match z with
  | .bl true => (k τ h).bind fun u h => cmpS op' y u h
  | .bl false => .ok (.bl false) h
  | _ => .bad
def eNeg (f : SE) : SE := fun τ h => (f τ h).bind fun x h => match x with
  | .int i => .ok (.int (-i)) h
  | _ => .bad
def truR (x : PV) (h : Hh) : Res Bool := match truS h x with
  | some b => .ok b h
  | none => .bad
def tTru (f : SE) : ST := fun τ h => (f τ h).bind truR
def tVal (f : SE) : ST := fun τ h => (f τ h).bind fun x h => match x with
  | .bl b => .ok b h
  | _ => .bad
def tNotS (f : ST) : ST := fun τ h => (f τ h).bind fun b h => .ok (!b) h
def tAndS (f g : ST) : ST := fun τ h => (f τ h).bind fun b h => if b = true then g τ h else .ok false h
def tOrS (f g : ST) : ST := fun τ h => (f τ h).bind fun b h => if b = true then .ok true h else g τ h
def eNot (f : SE) : SE := fun τ h => (f τ h).bind fun x h => (truR x h).bind fun b h => .ok (.bl (!b)) h
def eAnd (f g : SE) : SE := fun τ h => (f τ h).bind fun x h => (truR x h).bind fun b h => if b = true then g τ h else .ok x h
def eOr (f g : SE) : SE := fun τ h => (f τ h).bind fun x h => (truR x h).bind fun b h => if b = true then .ok x h else g τ h
def eIf (t : ST) (f g : SE) : SE := fun τ h => (t τ h).bind fun b h => if b = true then f τ h else g τ h
def evs : List SE → SL
  | [], _, h => .ok [] h
  | f :: r, τ, h => (f τ h).bind fun w h => (evs r τ h).bind fun ws h => .ok (w :: ws) h
def eTup (l : SL) : SE := fun τ h => (l τ h).bind fun ws h => if ws.length ≤ lim ∧ ws ≠ [] then .ok (.tup ws) h else .bad
def eLst (l : SL) : SE := fun τ h => (l τ h).bind fun ws h => if ws.length ≤ lim then .ok (.obj h.n) (h.push (.lst ws)) else .bad
def eDct : SE := fun _ h => .ok (.obj h.n) (h.push (.dct []))
def eIx (f g : SE) : SE := fun τ h => (f τ h).bind fun x h => (g τ h).bind fun y h => ixS x y h
def optI (o : Option SE) : Env' → Hh → Res (Option Int) := fun τ h => match o with
  | none => .ok none h
  | some f => (f τ h).bind fun x h => match x with
    | .int i => .ok (some i) h
    | _ => .bad
def eSl (f : SE) (lo hi : Option SE) : SE := fun τ h => (f τ h).bind fun x h => (optI lo τ h).bind fun l h => (optI hi τ h).bind fun u h => slS x l u h
/-- o.f of an instance -/
def fldS (at_ : Nat → Str → Bool) (f : Str) (x : PV) (h : Hh) : Res PV := match x with
  | .obj i => match h.get i with
    | some (.ins c fs) => if at_ c f = true then (match fs.lookup f with
      | some w => .ok w h
      | none => .bad) else .bad
    | _ => .bad
  | _ => .bad
def eFld (at_ : Nat → Str → Bool) (f : Str) (e : SE) : SE := fun τ h => (e τ h).bind (fldS at_ f)

section
variable {X : Cx} {ca : Nat → Addr} {W : WX} {pos : Pos} {a b c : Expr} {fa fb fc : SE} {ft gt : ST}
theorem pe_eVar {i : Nat} {x : Str} (hN : X.N[i]? = some x) (hv : Vis X.env.scope x) (hd : (x == ("__debug__" : Str)) = false) (hcd : (x == ("__classdict__" : Str)) = false) : PE X (.Name x pos) (tD X.K ca W (eVar i)) :=
  pe_of (pe_var hN hv hd hcd) fun σ H Q ρ τ h R T x => by
    unfold eVar at x
    split at x
    · rename_i w e
      obtain ⟨v, e1, r⟩ := T.2 i w e
      exact ⟨v, e1, x.val R r⟩
    · exact x.elim
/-- a thing that is the same at every state -/
theorem pe_eVal {w : PV} {v : V} (p : PE X a (tC v)) (r : ∀ ρ H, RV X.K ρ H w v) : PE X a (tD X.K ca W (eVal w)) := pe_of p fun σ H Q ρ τ h R T x => x.val R (r ρ H)
theorem pe_two {r : R2} {k : PV → PV → Hh → Res PV} (s : Sound2 X.K ca r k) (p : ∀ ta tb, PE X a ta → PE X b tb → PE X c (tOp r ta tb)) (ha : PE X a (tD X.K ca W fa)) (hb : PE X b (tD X.K ca W fb)) :
    PE X c (tD X.K ca W fun τ h => (fa τ h).bind fun x h => (fb τ h).bind fun y h => k x y h) :=
  pe_of (p _ _ ha hb) fun σ H Q ρ τ h R T x => tD.fst R T x fun w h1 ρ1 H1 v e1 R1 T1 r1 x1 => tD.fst R1 T1 x1 fun w2 h2 ρ2 H2 v2 e2 R2 T2 r2 x2 => s _ ρ2 h2 H2 w w2 v v2 Q R2 (RV.ext R1 e2 w v r1) r2 x2
def binOkS (op : Operator) : Bool := match op with
  | .Add | .Sub | .Mult | .FloorDiv | .Mod | .Pow => true
  | _ => false
theorem pe_eBin (op : Operator) (ho : binOkS op = true) (ha : PE X a (tD X.K ca W fa)) (hb : PE X b (tD X.K ca W fb)) : PE X (.BinOp a op b pos) (tD X.K ca W (eBin op fa fb)) := by
  cases op with
  | Add => exact pe_two (c := .BinOp a .Add b pos) add_sound (fun _ _ p q => pe_op op_addA p q) ha hb
  | Sub => exact pe_two (c := .BinOp a .Sub b pos) sub_sound (fun _ _ p q => pe_op op_sub p q) ha hb
  | Mult => exact pe_two (c := .BinOp a .Mult b pos) mul_sound (fun _ _ p q => pe_op op_mulA p q) ha hb
  | FloorDiv => exact pe_two (c := .BinOp a .FloorDiv b pos) fdiv_sound (fun _ _ p q => pe_op op_fdivN p q) ha hb
  | Mod => exact pe_two (c := .BinOp a .Mod b pos) mod_sound (fun _ _ p q => pe_op op_modN p q) ha hb
  | Pow => exact pe_two (c := .BinOp a .Pow b pos) pow_sound (fun _ _ p q => pe_op op_pow p q) ha hb
  | _ => cases ho
/-- how a comparison reads -/
def rCmp (K : PySem.W.Frag) : CmpOp → R2
  | .Eq => rEqA K
  | .NotEq => rNeA K
  | .Lt => rI0 fun i j => .bl (decide (i < j))
  | .LtE => rI0 fun i j => .bl (decide (i ≤ j))
  | .Gt => rI0 fun i j => .bl (decide (j < i))
  | .GtE => rI0 fun i j => .bl (decide (j ≤ i))
  | .Is => rIsA
  | .IsNot => rIsntA
  | .In => rInA K false
  | .NotIn => rInA K true
theorem op_cmp (hu : X.A.units + 65 < cLine) : ∀ op : CmpOp, OpR X (compareOp op) (rCmp X.K op)
  | .Eq => op_eqA (by omega)
  | .NotEq => op_neA (by omega)
  | .Lt => op_lt
  | .LtE => op_le
  | .Gt => op_gt
  | .GtE => op_ge
  | .Is => op_isA
  | .IsNot => op_isntA
  | .In => op_inA hu
  | .NotIn => op_ninA hu
theorem cmp_sound {K : PySem.W.Frag} {ca : Nat → Addr} : ∀ op : CmpOp, Sound2 K ca (rCmp K op) (cmpS op)
  | .Eq => eq_sound
  | .NotEq => ne_sound
  | .Lt => lt_sound
  | .LtE => le_sound
  | .Gt => gt_sound
  | .GtE => ge_sound
  | .Is => is_sound
  | .IsNot => isnt_sound
  | .In => in_sound
  | .NotIn => nin_sound
theorem pe_eCmp (C : COk X W) (op : CmpOp) (hm : behindInMarks op b = false) (ha : PE X a (tD X.K ca W fa)) (hb : PE X b (tD X.K ca W fb)) : PE X (.Compare a [op] [b] pos) (tD X.K ca W (eCmp op fa fb)) :=
  pe_two (c := .Compare a [op] [b] pos) (cmp_sound op) (fun _ _ p q => pe_cmpR (op_cmp C.hu op) p q hm) ha hb
theorem cmp_bool {op : CmpOp} {x y w : PV} {hp hp' : Hh} (e : cmpS op x y hp = .ok w hp') : ∃ b, w = .bl b ∧ hp' = hp := by
  have ob : ∀ o : Option Bool, okB o hp = .ok w hp' → ∃ b, w = .bl b ∧ hp' = hp := fun o z => by
    cases o with
    | none => cases z
    | some b => cases z; exact ⟨b, rfl, rfl⟩
  have ii : ∀ f : Int → Int → Bool, (match x, y with
      | .int i, .int j => Res.ok (PV.bl (f i j)) hp
      | _, _ => .bad) = .ok w hp' → ∃ b, w = .bl b ∧ hp' = hp := fun f z => by
    split at z
    · cases z; exact ⟨_, rfl, rfl⟩
    · cases z
  cases op with
  | Eq => exact ob _ e
  | NotEq => exact ob _ e
  | In => exact ob _ e
  | NotIn => exact ob _ e
  | Lt => exact ii _ e
  | LtE => exact ii _ e
  | Gt => exact ii _ e
  | GtE => exact ii _ e
  | Is => cases y <;> cases x <;> first | (cases e; exact ⟨_, rfl, rfl⟩) | cases e
  | IsNot => cases y <;> cases x <;> first | (cases e; exact ⟨_, rfl, rfl⟩) | cases e
/-- a comparison as a test -/
theorem pt_eCmp (C : COk X W) (op : CmpOp) (hm : behindInMarks op b = false) (ha : PE X a (tD X.K ca W fa)) (hb : PE X b (tD X.K ca W fb)) : PT X (.Compare a [op] [b] pos) (tDT X.K ca W (tVal (eCmp op fa fb))) :=
  pt_of (pt_cmpR (op_cmp C.hu op) ha hb hm) fun σ H Q ρ τ h R T x => by
    have x : WpB X.K ca (XW X.K ca W σ) ρ H Q ((fa τ h).bind fun u h => (fb τ h).bind fun y h => (cmpS op u y h).bind fun z h => match z with
      | .bl b => .ok b h
      | _ => .bad) := by
      have e : tVal (eCmp op fa fb) τ h = ((fa τ h).bind fun u h => (fb τ h).bind fun y h => (cmpS op u y h).bind fun z h => match z with
        | .bl b => .ok b h
        | _ => .bad) := by
        unfold tVal eCmp
        cases fa τ h with
        | ok w h1 =>
          show ((fb τ h1).bind _).bind _ = (fb τ h1).bind _
          cases fb τ h1 <;> rfl
        | exc c fs h1 => rfl
        | bad => rfl
      rw [← e]; exact x
    refine tD.fst R T x fun w h1 ρ1 H1 v e1 R1 T1 r1 x1 => tD.fst R1 T1 x1 fun w2 h2 ρ2 H2 v2 e2 R2 T2 r2 x2 => ?_
    refine cmp_sound op (XW X.K ca W σ) ρ2 h2 H2 w w2 v v2 _ R2 (RV.ext R1 e2 w v r1) r2 ?_
    refine (x2.bind (RA := RV X.K)).imp fun w3 h3 ρ3 H3 v3 e3 R3 r3 x3 => ?_
    cases w3 with
    | bl k =>
      rw [RV.bl_] at r3
      exact ⟨k, r3, x3 ρ3 H3 k (Ext.refl _ _) R3 rfl⟩
    | _ => exact x3.elim
/-- a < b < c -/
theorem pe_eChain (C : COk X W) (op op' : CmpOp) (hm : behindInMarks op b = false) (hm' : behindInMarks op' c = false) (ha : PE X a (tD X.K ca W fa)) (hb : PE X b (tD X.K ca W fb)) (hc : PE X c (tD X.K ca W fc))
    (p : PE X a (tD X.K ca W fa) → PE X b (tD X.K ca W fb) → PE X c (tD X.K ca W fc) → PE X (.Compare a [op, op'] [b, c] pos) (tChain (rCmp X.K op) (rCmp X.K op') (tD X.K ca W fa) (tD X.K ca W fb) (tD X.K ca W fc))) :
    PE X (.Compare a [op, op'] [b, c] pos) (tD X.K ca W (eChain op op' fa fb fc)) :=
  pe_of (p ha hb hc) fun σ H Q ρ τ h R T x => by
    refine tD.fst R T x fun w h1 ρ1 H1 v e1 R1 T1 r1 x1 => tD.fst R1 T1 x1 fun w2 h2 ρ2 H2 v2 e2 R2 T2 r2 x2 => ?_
    refine cmp_sound op (XW X.K ca W σ) ρ2 h2 H2 w w2 v v2 _ R2 (RV.ext R1 e2 w v r1) r2 ?_
    refine (x2.bind (RA := RV X.K)).imp fun w3 h3 ρ3 H3 v3 e3 R3 r3 x3 => ?_
    cases w3 with
    | bl k =>
      rw [RV.bl_] at r3
      refine ⟨k, r3, ?_⟩
      cases k with
      | true =>
        show tD X.K ca W fc σ H3 _
        refine tD.fst R3 (EnvR.ext R2 e3 T2) x3 fun w4 h4 ρ4 H4 v4 e4 R4 T4 r4 x4 => ?_
        exact cmp_sound op' (XW X.K ca W σ) ρ4 h4 H4 w2 w4 v2 v4 _ R4 (RV.ext R2 (e3.trans e4) w2 v2 r2) r4 x4
      | false => exact Wp.val (w := .bl false) R3 x3 ((RV.bl_ _ _).mpr rfl)
    | _ => exact x3.elim
end
end DD
set_option Elab.async false
set_option linter.all false
set_option maxRecDepth 100000
set_option maxHeartbeats 4000000
/-! DF: more expressions. -/
namespace DD
open PySem PySem.Spec PyProof.Rows L2
variable [Ups]
section
variable {X : Cx} {ca : Nat → Addr} {W : WX} {pos : Pos} {a b c : Expr} {es : List Expr} {fa fb fc : SE} {ft gt : ST} {fl : SL}
theorem pe_eNeg (ha : PE X a (tD X.K ca W fa)) : PE X (.UnaryOp .USub a pos) (tD X.K ca W (eNeg fa)) :=
  pe_of (pe_un un_neg ha) fun σ H Q ρ τ h R T x => tD.fst R T x fun w h1 ρ1 H1 v e1 R1 T1 r1 x1 => by
    cases w with
    | int i => rw [RV.int_] at r1; exact ⟨i, r1, Wp.val (w := .int (-i)) R1 x1 ((RV.int_ _ _).mpr rfl)⟩
    | _ => exact x1.elim
theorem truR_ok {XX : WX'} {α β : Type} {RB : List Addr → Hp → α → β → Prop} {ρ : List Addr} {h : Hh} {H : Hp} {K : PySem.W.Frag} {Kf : α → Hh → List Addr → Hp → β → Prop} {w : PV} {v : V} {k : Bool → Hh → Res α} (R : Rel K ca ρ h H) (r : RV K ρ H w v) (x : Wp K ca RB XX ρ H Kf ((truR w h).bind k)) : ∃ b, TruV K v H b ∧ Wp K ca RB XX ρ H Kf (k b h) := by
  unfold truR at x
  cases e : truS h w with
  | none => rw [e] at x; exact x.elim
  | some b => rw [e] at x; exact ⟨b, tru_ok' R r e, x⟩
theorem pe_eNot (ha : PE X a (tD X.K ca W fa)) : PE X (.UnaryOp .Not a pos) (tD X.K ca W (eNot fa)) :=
  pe_of (pe_notT ha) fun σ H Q ρ τ h R T x => tD.fst R T x fun w h1 ρ1 H1 v e1 R1 T1 r1 x1 => by
    obtain ⟨b, t, x2⟩ := truR_ok R1 r1 x1
    exact ⟨b, t, Wp.val (w := .bl (!b)) R1 x2 ((RV.bl_ _ _).mpr rfl)⟩
theorem tD.again {ρ : List Addr} {τ : Env'} {h : Hh} {H : Hp} {σ : L2.St} {Q : VK} {f : SE} (R : Rel X.K ca ρ h H) (T : EnvR X.K ρ H τ σ) (x : WpQ X.K ca (XW X.K ca W σ) ρ H Q (f τ h)) : tD X.K ca W f σ H Q := ⟨ρ, τ, h, R, T, x⟩
theorem pe_eAnd {rest : List Expr} (ha : PE X a (tD X.K ca W fa)) (hb : PE X (.BoolOp .And (b :: rest) pos) (tD X.K ca W fb)) : PE X (.BoolOp .And (a :: b :: rest) pos) (tD X.K ca W (eAnd fa fb)) :=
  pe_of (pe_andT ha hb) fun σ H Q ρ τ h R T x => tD.fst R T x fun w h1 ρ1 H1 v e1 R1 T1 r1 x1 => by
    obtain ⟨b, t, x2⟩ := truR_ok R1 r1 x1
    refine ⟨b, t, ?_⟩
    cases b with
    | true => exact tD.again R1 T1 x2
    | false => exact Wp.val (w := w) R1 x2 r1
theorem pe_eOr {rest : List Expr} (ha : PE X a (tD X.K ca W fa)) (hb : PE X (.BoolOp .Or (b :: rest) pos) (tD X.K ca W fb)) : PE X (.BoolOp .Or (a :: b :: rest) pos) (tD X.K ca W (eOr fa fb)) :=
  pe_of (pe_orT ha hb) fun σ H Q ρ τ h R T x => tD.fst R T x fun w h1 ρ1 H1 v e1 R1 T1 r1 x1 => by
    obtain ⟨b, t, x2⟩ := truR_ok R1 r1 x1
    refine ⟨b, t, ?_⟩
    cases b with
    | true => exact Wp.val (w := w) R1 x2 r1
    | false => exact tD.again R1 T1 x2
/-! tests -/
theorem pt_tTru (ha : PE X a (tD X.K ca W fa)) (he : ∀ whole, isTrue a X.env whole = (do let v ← whole; standAt a.pos; holding [v] (truthy v))) : PT X a (tDT X.K ca W (tTru fa)) :=
  pt_of (pt_truth ha he) fun σ H Q ρ τ h R T x => tD.fst R T x fun w h1 ρ1 H1 v e1 R1 T1 r1 x1 => by
    unfold truR at x1
    cases e : truS h1 w with
    | none => rw [e] at x1; exact x1.elim
    | some b => rw [e] at x1; exact ⟨b, tru_ok' R1 r1 e, x1 ρ1 H1 b (Ext.refl _ _) R1 rfl⟩
theorem pt_tNotS (ha : PT X a (tDT X.K ca W ft)) : PT X (.UnaryOp .Not a pos) (tDT X.K ca W (tNotS ft)) :=
  pt_of (pt_not ha) fun σ H Q ρ τ h R T x => tDT.fst R T x fun b h1 ρ1 H1 e1 R1 T1 x1 => x1 ρ1 H1 (!b) (Ext.refl _ _) R1 rfl
theorem tDT.again {ρ : List Addr} {τ : Env'} {h : Hh} {H : Hp} {σ : L2.St} {Q : Bool → Hp → Prop} {f : ST} (R : Rel X.K ca ρ h H) (T : EnvR X.K ρ H τ σ) (x : WpB X.K ca (XW X.K ca W σ) ρ H Q (f τ h)) : tDT X.K ca W f σ H Q := ⟨ρ, τ, h, R, T, x⟩
theorem pw_tAndS {rest : List Expr} (ha : PT X a (tDT X.K ca W ft)) (hb : PW X (.BoolOp .And (b :: rest) pos) (tDT X.K ca W gt)) : PW X (.BoolOp .And (a :: b :: rest) pos) (tDT X.K ca W (tAndS ft gt)) :=
  pw_of (pw_and ha hb) fun σ H Q ρ τ h R T x => tDT.fst R T x fun b h1 ρ1 H1 e1 R1 T1 x1 => by
    cases b with
    | true => exact tDT.again R1 T1 x1
    | false => exact x1 ρ1 H1 false (Ext.refl _ _) R1 rfl
theorem pw_tOrS {rest : List Expr} (ha : PT X a (tDT X.K ca W ft)) (hb : PW X (.BoolOp .Or (b :: rest) pos) (tDT X.K ca W gt)) : PW X (.BoolOp .Or (a :: b :: rest) pos) (tDT X.K ca W (tOrS ft gt)) :=
  pw_of (pw_or ha hb) fun σ H Q ρ τ h R T x => tDT.fst R T x fun b h1 ρ1 H1 e1 R1 T1 x1 => by
    cases b with
    | true => exact x1 ρ1 H1 true (Ext.refl _ _) R1 rfl
    | false => exact tDT.again R1 T1 x1
theorem pt_eChain (C : COk X W) (op op' : CmpOp) (ha : PE X a (tD X.K ca W fa)) (hb : PE X b (tD X.K ca W fb)) (hc : PE X c (tD X.K ca W fc)) (hm : lastMarks [op, op'] [b, c] = false) :
    PT X (.Compare a [op, op'] [b, c] pos) (tDT X.K ca W (tVal (eChain op op' fa fb fc))) :=
  pt_of (pt_chain (op_cmp C.hu op) (op_cmp C.hu op') ha hb hc hm) fun σ H Q ρ τ h R T x => by
    have e : tVal (eChain op op' fa fb fc) τ h = ((fa τ h).bind fun u h => (fb τ h).bind fun y h => (cmpS op u y h).bind fun z h => match z with
        | .bl true => (fc τ h).bind fun w h => (cmpS op' y w h).bind fun z h => match z with
          | .bl b => .ok b h
          | _ => .bad
        | .bl false => .ok false h
        | _ => .bad) := by
      unfold tVal eChain
      cases fa τ h with
      | ok w h1 =>
        show ((fb τ h1).bind _).bind _ = (fb τ h1).bind _
        cases fb τ h1 with
        | ok y h2 =>
          show ((cmpS op w y h2).bind _).bind _ = (cmpS op w y h2).bind _
          cases cmpS op w y h2 with
          | ok z h3 =>
            cases z with
            | bl k =>
              cases k with
              | true =>
                show ((fc τ h3).bind _).bind _ = (fc τ h3).bind _
                cases fc τ h3 <;> rfl
              | false => rfl
            | _ => rfl
          | exc c fs h3 => rfl
          | bad => rfl
        | exc c fs h2 => rfl
        | bad => rfl
      | exc c fs h1 => rfl
      | bad => rfl
    rw [e] at x
    refine tD.fst R T x fun w h1 ρ1 H1 v e1 R1 T1 r1 x1 => tD.fst R1 T1 x1 fun w2 h2 ρ2 H2 v2 e2 R2 T2 r2 x2 => ?_
    refine cmp_sound op (XW X.K ca W σ) ρ2 h2 H2 w w2 v v2 _ R2 (RV.ext R1 e2 w v r1) r2 ?_
    refine (x2.bind (RA := RV X.K)).imp fun w3 h3 ρ3 H3 v3 e3 R3 r3 x3 => ?_
    cases w3 with
    | bl k =>
      rw [RV.bl_] at r3
      refine ⟨k, r3, ?_⟩
      cases k with
      | true =>
        show tD X.K ca W fc σ H3 _
        refine tD.fst R3 (EnvR.ext R2 e3 T2) x3 fun w4 h4 ρ4 H4 v4 e4 R4 T4 r4 x4 => ?_
        refine cmp_sound op' (XW X.K ca W σ) ρ4 h4 H4 w2 w4 v2 v4 _ R4 (RV.ext R2 (e3.trans e4) w2 v2 r2) r4 ?_
        refine (x4.bind (RA := RV X.K)).imp fun w5 h5 ρ5 H5 v5 e5 R5 r5 x5 => ?_
        cases w5 with
        | bl k => rw [RV.bl_] at r5; exact ⟨k, r5, x5 ρ5 H5 k (Ext.refl _ _) R5 rfl⟩
        | _ => exact x5.elim
      | false => exact ⟨false, rfl, x3 ρ3 H3 false (Ext.refl _ _) R3 rfl⟩
    | _ => exact x3.elim
theorem pe_eIf (hc : PT X c (tDT X.K ca W ft)) (ha : PE X a (tD X.K ca W fa)) (hb : PE X b (tD X.K ca W fb)) : PE X (.IfExp c a b pos) (tD X.K ca W (eIf ft fa fb)) :=
  pe_of (pe_ifExp hc ha hb) fun σ H Q ρ τ h R T x => tDT.fst R T x fun b h1 ρ1 H1 e1 R1 T1 x1 => by
    cases b with
    | true => exact tD.again R1 T1 x1
    | false => exact tD.again R1 T1 x1
/-! lists of expressions -/
def notStar : Expr → Bool
  | .Starred _ _ => false
  | _ => true
theorem starEach_cons {env : Env} (e : Expr) (es : List Expr) (h : notStar e = true) : starEach (e :: es) env = (false, eval e env) :: starEach es env := by
  cases e <;> first | rfl | cases h
theorem pa_evs : ∀ (es : List Expr) (fs : List SE), es.all notStar = true → es.length = fs.length → (∀ (i : Nat) e f, es[i]? = some e → fs[i]? = some f → PE X e (tD X.K ca W f)) → PA X es (tDL X.K ca W (evs fs))
  | [], [], _, _, _ => pa_of pa_nil fun σ H Q ρ τ h R T x => x ρ H [] (Ext.refl _ _) R .nil
  | [], _ :: _, _, l, _ => by simp at l
  | _ :: _, [], _, l, _ => by simp at l
  | e :: es, f :: fs, hs, l, g => by
    rw [List.all_cons, Bool.and_eq_true] at hs
    refine pa_of (pa_cons (g 0 e f rfl rfl) (pa_evs es fs hs.2 (by simpa using l) fun i e' f' h1 h2 => g (i + 1) e' f' (by simpa using h1) (by simpa using h2)) (starEach_cons e es hs.1)) fun σ H Q ρ τ h R T x => ?_
    refine tD.fst R T x fun w h1 ρ1 H1 v e1 R1 T1 r1 x1 => tDL.fst R1 T1 x1 fun ws h2 ρ2 H2 vs e2 R2 T2 r2 x2 => ?_
    exact x2 ρ2 H2 (v :: vs) (Ext.refl _ _) R2 (.cons (RV.ext R1 e2 w v r1) r2)
/-- displays of tuples: what is made is known to the last -/
def tTupF (t : TA) : TE := fun σ H Q => t σ H fun xs H1 => xs.length ≤ sizeLine ∧ ∀ p ob, H1 p = none → ob.dict = none → Q (.ref p) (upd H1 p (.frz ob (.tup xs)))
theorem pe_tupF {t : TA} {x1} (h : PA X es t) : PE X (.Tuple es x1 pos) (tTupF t) := by
  refine ⟨fun pins s σ H Q I hq => ?_⟩
  refine wpAny_Tuple_spliced (thn (h.run pos pins s σ H _ I hq) fun us s1 ⟨xs, H1, I1, r, z, q⟩ => ⟨by rw [← r.length]; exact z, ?_⟩)
  have hf : H1 s1.heap.objs.size = none := I1.hok.fresh (Nat.le_refl _)
  exact ⟨.ref s1.heap.objs.size, _, I1.laid (t' := s1.toks) (o := .frz _ (.tup xs)) (fun b u e => Heap.get?_push_of_some _ e) (Nat.le_refl _) ⟨Heap.get?_push_size _ rfl, z, us, r, ⟨_, Heap.get?_push_size _ rfl, rfl, _, rfl⟩⟩, rfl, q _ _ hf rfl⟩
def eNul : SE := fun _ h => .ok (.tup []) h
theorem pe_eNul {x1 : Nat} : PE X (.Tuple [] x1 pos) (tD X.K ca W eNul) :=
  pe_of (pe_tupF pa_nil) fun σ H Q ρ τ h R T x => ⟨Nat.zero_le _, fun p ob n d => Wp.tupF R x .nil n d⟩
theorem pe_eTup {x1 : Nat} (p : PA X es (tDL X.K ca W fl)) : PE X (.Tuple es x1 pos) (tD X.K ca W (eTup fl)) :=
  pe_of (pe_tupF p) fun σ H Q ρ τ h R T x => tDL.fst R T x fun ws h1 ρ1 H1 vs e1 R1 T1 r1 x1 => by
    obtain ⟨z, x1⟩ := WpQ.iff x1
    exact ⟨by rw [← r1.length]; exact lim_ok z.1, fun p ob n d => x1.tupF R1 r1 n d⟩
theorem pe_eLst (p : PA X es (tDL X.K ca W fl)) : PE X (.List es pos) (tD X.K ca W (eLst fl)) :=
  pe_of (pe_lst p) fun σ H Q ρ τ h R T x => tDL.fst R T x fun ws h1 ρ1 H1 vs e1 R1 T1 r1 x1 => by
    obtain ⟨z, x1⟩ := WpQ.iff x1
    exact ⟨by rw [← r1.length]; exact lim_ok z, fun p n => x1.objN R1 ⟨vs, rfl, r1⟩ n⟩
theorem pe_eDct : PE X (.Dict [] [] pos) (tD X.K ca W eDct) :=
  pe_of pe_dnewK fun σ H Q ρ τ h R T x p n => Wp.objN (o := .dct []) R x ⟨[], rfl, rfl⟩ n
theorem pe_eIx (C : COk X W) (hs : PlainIx b) (ha : PE X a (tD X.K ca W fa)) (hb : PE X b (tD X.K ca W fb)) : PE X (.Subscript a b pos) (tD X.K ca W (eIx fa fb)) :=
  pe_two (c := .Subscript a b pos) ix_sound (fun _ _ p q => pe_ix (ix_A (by have := C.hu; omega)) p q hs) ha hb
def tO (K : PySem.W.Frag) (ca : Nat → Addr) (W : WX) (o : Option SE) : TO := fun σ H Q => ∃ ρ τ h, Rel K ca ρ h H ∧ EnvR K ρ H τ σ ∧ Wp K ca (fun _ _ (a b : Option Int) => b = a) (XW K ca W σ) ρ H (fun _ _ _ H' v => Q v H') (optI o τ h)
theorem tO.fst {α β : Type} {K : PySem.W.Frag} {RB : List Addr → Hp → α → β → Prop} {ρ : List Addr} {τ : Env'} {h : Hh} {H : Hp} {σ : L2.St} {f : Option SE} {k : Option Int → Hh → Res α} {Kf : α → Hh → List Addr → Hp → β → Prop} (R : Rel K ca ρ h H) (T : EnvR K ρ H τ σ) (x : Wp K ca RB (XW K ca W σ) ρ H Kf ((optI f τ h).bind k)) {P : Option Int → Hp → Prop}
    (g : ∀ b h1 ρ1 H1, Ext ρ H ρ1 H1 → Rel K ca ρ1 h1 H1 → EnvR K ρ1 H1 τ σ → Wp K ca RB (XW K ca W σ) ρ1 H1 Kf (k b h1) → P b H1) : tO K ca W f σ H P :=
  ⟨ρ, τ, h, R, T, (x.bind (RA := fun _ _ (a b : Option Int) => b = a)).imp fun w h1 ρ1 H1 v e R1 r x1 => by rw [r]; exact g w h1 ρ1 H1 e R1 (EnvR.ext R e T) x1⟩
theorem po_no : PO X none (tO X.K ca W none) := ⟨fun pins s σ H Q I ⟨ρ, τ, h, R, T, x⟩ => po_none.run pins s σ H Q I (x ρ H none (Ext.refl _ _) R rfl)⟩
theorem po_yes (ha : PE X a (tD X.K ca W fa)) : PO X (some a) (tO X.K ca W (some fa)) := ⟨fun pins s σ H Q I ⟨ρ, τ, h, R, T, x⟩ => (po_some ha).run pins s σ H Q I (by
  refine tD.fst R T (show Wp _ _ _ _ _ _ _ ((fa τ h).bind _) from x) fun w h1 ρ1 H1 v e1 R1 T1 r1 x1 => ?_
  cases w with
  | int i => rw [RV.int_] at r1; exact ⟨i, r1, x1 ρ1 H1 (some i) (Ext.refl _ _) R1 rfl⟩
  | _ => exact x1.elim)⟩
theorem pe_eSl {lo hi : Option Expr} {fl fh : Option SE} {p2 : Pos} (ha : PE X a (tD X.K ca W fa)) (hl : PO X lo (tO X.K ca W fl)) (hh : PO X hi (tO X.K ca W fh)) : PE X (.Subscript a (.Slice lo hi none p2) pos) (tD X.K ca W (eSl fa fl fh)) :=
  pe_of (pe_slice sl_all ha hl hh) fun σ H Q ρ τ h R T x => tD.fst R T x fun w h1 ρ1 H1 v e1 R1 T1 r1 x1 => tO.fst R1 T1 x1 fun l h2 ρ2 H2 e2 R2 T2 x2 => tO.fst R2 T2 x2 fun u h3 ρ3 H3 e3 R3 T3 x3 =>
    sl_sound R3 (RV.ext R1 (e2.trans e3) w v r1) x3
theorem RFs.lookup {K : PySem.W.Frag} {ρ : List Addr} {H : Hp} (f : Str) : ∀ {ws : List (Str × PV)} {vs : List (Str × V)}, RFs K ρ H ws vs → (ws.lookup f = none ∧ vs.lookup f = none) ∨ ∃ w v, ws.lookup f = some w ∧ vs.lookup f = some v ∧ RV K ρ H w v
  | [], vs, r => by have r : vs = [] := r; subst r; exact .inl ⟨rfl, rfl⟩
  | (j, w) :: ws, vs, ⟨v, t, e, q, r⟩ => by
    subst e
    show ((match f == j with | true => some w | false => ws.lookup f) = none ∧ (match f == j with | true => some v | false => t.lookup f) = none) ∨ ∃ w' v', (match f == j with | true => some w | false => ws.lookup f) = some w' ∧ (match f == j with | true => some v | false => t.lookup f) = some v' ∧ RV K ρ H w' v'
    cases f == j with
    | true => exact .inr ⟨w, v, rfl, rfl, q⟩
    | false => exact RFs.lookup f r
/-- o.f; at_: the attributes of a class -/
theorem pe_eFld {at_ : Nat → Str → Bool} {f : Str} (hb : attributeBase a f X.env (eval a X.env) = eval a X.env) (cls : ∀ c, at_ c f = true → Cls X.K (ca c) ∧ NoAttr X.K (ca c) f) (ha : PE X a (tD X.K ca W fa)) : PE X (.Attribute a f pos) (tD X.K ca W (eFld at_ f fa)) :=
  pe_of (pe_fld ha hb) fun σ H Q ρ τ h R T x => tD.fst R T x fun w h1 ρ1 H1 v e1 R1 T1 r1 x1 => by
    cases w with
    | obj i =>
      rw [RV.obj_] at r1
      obtain ⟨p, hp, rfl⟩ := r1
      have x1 : WpQ X.K ca (XW X.K ca W σ) ρ1 H1 Q (match h1.get i with
        | some (.ins c fs) => if at_ c f = true then (match fs.lookup f with
          | some w => .ok w h1
          | none => .bad) else .bad
        | _ => .bad) := x1
      split at x1
      · rename_i c fs q
        obtain ⟨ok, x1⟩ := WpQ.iff x1
        obtain ⟨p', u, k1, k2, r⟩ := R1.obj q
        rw [hp] at k1; cases k1
        obtain ⟨dx, vs, rfl, r⟩ := r
        rcases RFs.lookup f r with ⟨z, _⟩ | ⟨w', v', z1, z2, r'⟩
        · rw [z] at x1; exact x1.elim
        · rw [z1] at x1
          exact ⟨p, ca c, dx, vs, v', rfl, k2, (cls c ok).1, (cls c ok).2, z2, Wp.val R1 x1 r'⟩
      · exact x1.elim
    | _ => exact x1.elim
end
end DD
set_option Elab.async false
set_option linter.all false
set_option maxRecDepth 100000
set_option maxHeartbeats 4000000
/-! DG: calls. -/
namespace DD
open PySem PySem.Spec PyProof.Rows L2
variable [Ups]

/-- what a function of ours promises -/
def spC (K : PySem.W.Frag) (ca : Nat → Addr) (n : Nat) (F : List PV → Hh → Res PV) : Sp := fun vs H Q E => vs.length = n ∧ ∃ ρ ws h, Rel K ca ρ h H ∧ RVs K ρ H ws vs ∧
  WpQ K ca (fun c fs _ ρ H => ∀ d, ExD K ρ H fs d → E (.ref (ca c)) d H) ρ H Q (F ws h)
abbrev CT := Nat → List PV → Hh → Res PV
structure FnK (X : Cx) (k : Nat) (ca fa : Nat → Addr) (C : CT) (id n : Nat) : Prop where
  ok : ∃ fd ps, ps.length = n ∧ FnOk X.prog X.w X.K X.mg X.base (L2.CX X.prog X.w) k (fa id) fd ps (spC X.K ca n (C id)) ∧ Binds X.K fd ps []
  fn : PySem.W.isFn X.K (.ref (fa id)) = true
  kp : PySem.W.keepIn X.K (.ref (fa id)) = true
theorem starEach_all {env : Env} : ∀ es : List Expr, es.all notStar = true → ∀ pos, (backTo pos (starEach es env)).any (·.1) = false
  | [], _, _ => rfl
  | e :: es, h, pos => by
    rw [List.all_cons, Bool.and_eq_true] at h
    rw [starEach_cons e es h.1]
    show (false || (backTo pos (starEach es env)).any (·.1)) = false
    rw [starEach_all es h.2]
    rfl
def plainBase : Expr → Bool
  | .Call (.Name _ _) [] [] _ => false
  | _ => true
theorem base_eq {o : Expr} {m : Str} {env : Env} (h : plainBase o = true) : attributeBase o m env (eval o env) = eval o env := by
  cases o with
  | Call f as ks pos =>
    cases f with
    | Name x p =>
      cases as with
      | nil =>
        cases ks with
        | nil => cases h
        | cons _ _ => rfl
      | cons _ _ => rfl
    | _ => rfl
  | _ => rfl
theorem form_all {env : Env} : ∀ (es : List Expr) (pos : Pos), es.all notStar = true → (backTo pos (starEach es env)).all (!·.1) = true
  | [], _, _ => rfl
  | e :: es, pos, h => by
    rw [List.all_cons, Bool.and_eq_true] at h
    rw [starEach_cons e es h.1]
    show (true && (backTo pos (starEach es env)).all (!·.1)) = true
    rw [form_all es pos h.2]
    rfl
/-- a method's call, its tree -/
theorem meth_eq {o : Expr} {m : Str} {apos pos : Pos} {env : Env} {es : List Expr} (hb : plainBase o = true) (hs : es.all notStar = true) (hn : es.length < 30) (hl : (apos.endLine == pos.line) = true) :
    eval (.Call (.Attribute o m apos) es [] pos) env = (do
      let ov ← eval o env
      standAt apos.atName
      let (f, first) ← holding [ov] (getMethod ov m (plainOf o env))
      callWith pos f first (backTo pos (starEach es env)) (backToKw pos (keywordEach [] env))) := by
  show (do
    let ov ← attributeBase o m env (eval o env)
    standAt apos.atName
    methodCall o m apos pos env ov (es.length + 0) (backTo pos (starEach es env)) (backToKw pos (keywordEach [] env))) = _
  rw [base_eq hb]
  have e : ∀ ov, methodCall o m apos pos env ov (es.length + 0) (backTo pos (starEach es env)) (backToKw pos (keywordEach [] env)) = (do
      let (f, first) ← holding [ov] (getMethod ov m (plainOf o env))
      callWith pos f first (backTo pos (starEach es env)) (backToKw pos (keywordEach [] env))) := fun ov => mcall_line (by
    unfold methodCallForm
    rw [form_all es pos hs]
    show (true && true && decide (es.length + 0 + 0 < 30)) = true
    rw [decide_eq_true (show es.length + 0 + 0 < 30 from hn)]
    rfl) hl
  simp only [e]
section
variable {X : Cx} {ca fa : Nat → Addr} {W : WX} {pos apos p : Pos} {o : Expr} {es : List Expr} {fo : SE} {fl : SL} {C : CT} {k : Nat}
/-- the callee runs -/
theorem run_C {id n : Nat} {pins : List (Addr × Obj)} {σ : L2.St} {H : Hp} {s : Shared} {Q : VK} {us : List Value} {vs : List V} {ws : List PV} {ρ : List Addr} {h : Hh} (c : COk X W) (F : FnK X k ca fa C id n) (hr : Room k X.A) (I : Inv X pins σ H s) (r : Vals vs us)
    (R : Rel X.K ca ρ h H) (rw_ : RVs X.K ρ H ws vs) (hn : ws.length = n) (x : WpQ X.K ca (XW X.K ca W σ) ρ H Q (C id ws h)) : wpAny (model X.prog X.w) X.A (call (.ref (fa id)) us) (EP X pins σ Q) X.xe s := by
  obtain ⟨fd, ps, hl, ok, hb⟩ := F.ok
  refine run_fnSD (E := WE W) (dvs := []) ok hr hb .nil (passAt c.tk σ) I r ?_
  rw [List.append_nil]
  exact ⟨by rw [← rw_.length]; exact hn, ρ, ws, h, R, rw_, x⟩
/-- f(..) -/
def eCall (C : CT) (id n : Nat) (fl : SL) : SE := fun τ h => (fl τ h).bind fun ws h => if ws.length = n then C id ws h else .bad
theorem call_args {f : Value} {first : List Value} {Q : Value → Shared → Prop} {pins : List (Addr × Obj)} {σ : L2.St} {H : Hp} {s : Shared} {P : List V → Hp → Prop} {ta : TA} (hk : PySem.W.keepIn X.K f = true) (hs : es.all notStar = true) (I : Inv X pins σ H s) (ha : PA X es ta) (h : ta σ H P)
    (hz : es = [] → ta σ H P → P [] H) (g : ∀ us s1 vs H1, Inv X pins σ H1 s1 → Vals vs us → P vs H1 → wpAny (model X.prog X.w) X.A (call f (first ++ us)) Q X.xe s1) :
    wpAny (model X.prog X.w) X.A (callWith pos f first (backTo pos (starEach es X.env)) (backToKw pos (keywordEach [] X.env))) Q X.xe s := by
  cases es with
  | nil => exact PySem.W.callWith_K0 I.kIn hk (g [] s [] H I .nil (hz rfl h))
  | cons e es =>
    have hs' := hs
    rw [List.all_cons, Bool.and_eq_true] at hs'
    exact PySem.W.callWith_K (h₀ := X.base) I.ok.mod.kin hk (thn (ha.run pos pins s σ H _ I h) fun us s2 ⟨vs, H2, I2, r, q2⟩ => ⟨I2.kIn, g us s2 vs H2 I2 r q2⟩) (starEach_cons e es hs'.1) (starEach_all es hs'.2 pos)
/-- arguments of ours -/
structure Args (X : Cx) (ca : Nat → Addr) (W : WX) (es : List Expr) (fl : SL) : Prop where
  star : es.all notStar = true
  pa : PA X es (tDL X.K ca W fl)
  nil : es = [] → ∀ τ h, fl τ h = .ok [] h
theorem Args.nil' {σ : L2.St} {H : Hp} {P : List V → Hp → Prop} (A : Args X ca W es fl) (e : es = []) (h : tDL X.K ca W fl σ H P) : P [] H := by
  obtain ⟨ρ, τ, h, R, T, x⟩ := h
  rw [A.nil e τ h] at x
  exact x ρ H [] (Ext.refl _ _) R .nil
theorem pe_eCall {x : Str} {id n : Nat} (c : COk X W) (F : FnK X k ca fa C id n) (hr : Room k X.A) (hg : Gl X x) (hm : X.mg x = some (.ref (fa id))) (hdb : (x == ("__debug__" : Str)) = false) (A : Args X ca W es fl) :
    PE X (.Call (.Name x p) es [] pos) (tD X.K ca W (eCall C id n fl)) := by
  refine ⟨fun pins s σ H Q I ⟨ρ, τ, h, R, T, x⟩ => ?_⟩
  refine wpAny_Call_Name_kw (ld_glob I hg hm ?_ hdb)
  refine call_args (P := fun vs H1 => ∃ ρ1 ws h1, Rel X.K ca ρ1 h1 H1 ∧ RVs X.K ρ1 H1 ws vs ∧ ws.length = n ∧ WpQ X.K ca (XW X.K ca W σ) ρ1 H1 Q (C id ws h1)) F.kp A.star I A.pa ?_ (fun e z => A.nil' e z) ?_
  · exact tDL.fst R T x fun ws h1 ρ1 H1 vs e1 R1 T1 r1 x1 => by
      obtain ⟨hn, x1⟩ := WpQ.iff x1
      exact ⟨ρ1, ws, h1, R1, r1, hn, x1⟩
  · rintro us s1 vs H1 I1 r ⟨ρ1, ws, h1, R1, r1, hn, x1⟩
    exact run_C c F hr I1 r R1 r1 hn x1
/-- o.m(..) of an own instance; mt: methods by classes and names, with their counts of parameters -/
def methS (C : CT) (mt : Nat → Str → Option (Nat × Nat)) (m : Str) (fl : Env' → Hh → Res (List PV)) (τ : Env') (x : PV) (h : Hh) : Res PV := match x with
  | .obj i => match h.get i with
    | some (.ins c fs) => match mt c m, fs.lookup m with
      | some (id, n), none => (fl τ h).bind fun ws h => if (x :: ws).length = n then C id (x :: ws) h else .bad
      | _, _ => .bad
    | _ => .bad
  | _ => .bad
def eMeth (C : CT) (mt : Nat → Str → Option (Nat × Nat)) (m : Str) (fo : SE) (fl : SL) : SE := fun τ h => (fo τ h).bind fun x h => methS C mt m fl τ x h
theorem pe_eMeth {mt : Nat → Str → Option (Nat × Nat)} {m : Str} (c : COk X W) (hr : Room k X.A) (hb : plainBase o = true) (hn : es.length < 30) (hl : (apos.endLine == pos.line) = true)
    (hmt : ∀ c id n, mt c m = some (id, n) → FnK X k ca fa C id n ∧ Cls X.K (ca c) ∧ PySem.W.findIn X.K (.ref (ca c)) m = some (some (.ref (fa id)))) (he : PE X o (tD X.K ca W fo)) (A : Args X ca W es fl) :
    PE X (.Call (.Attribute o m apos) es [] pos) (tD X.K ca W (eMeth C mt m fo fl)) := by
  refine ⟨fun pins s σ H Q I ⟨ρ, τ, h, R, T, x⟩ => ?_⟩
  refine PySem.W.methodCall_KW (pl := plainOf o X.env) (thn (he.run pins s σ H (fun v H1 => ∃ i a cc dx fs vs id n ρ1 h1, v = .ref a ∧ H1 a = some (.ins (ca cc) dx vs) ∧ mt cc m = some (id, n) ∧ vs.lookup m = none ∧ ρ1[i]? = some a ∧ Rel X.K ca ρ1 h1 H1 ∧ EnvR X.K ρ1 H1 τ σ ∧ h1.get i = some (.ins cc fs) ∧
      WpQ X.K ca (XW X.K ca W σ) ρ1 H1 Q ((fl τ h1).bind fun ws h => if (PV.obj i :: ws).length = n then C id (PV.obj i :: ws) h else .bad)) I ?_) fun u s1 ⟨v, H1, I1, rx, i, a, cc, dx, fs, vs, id, n, ρ1, h1, ev, ea, em, el, ei, R1, T1, eg, x1⟩ => ?_) (meth_eq hb A.star hn hl)
  · refine tD.fst R T x fun w h1 ρ1 H1 v e1 R1 T1 r1 x1 => ?_
    cases w with
    | obj i =>
      rw [RV.obj_] at r1
      obtain ⟨a, ha, rfl⟩ := r1
      have x1 : WpQ X.K ca (XW X.K ca W σ) ρ1 H1 Q (match h1.get i with
        | some (.ins c fs) => match mt c m, fs.lookup m with
          | some (id, n), none => (fl τ h1).bind fun ws h => if (PV.obj i :: ws).length = n then C id (PV.obj i :: ws) h else .bad
          | _, _ => .bad
        | _ => .bad) := x1
      split at x1
      · rename_i cc fs q
        obtain ⟨a', u, k1, k2, r⟩ := R1.obj q
        rw [ha] at k1; cases k1
        obtain ⟨dx, vs, rfl, r⟩ := r
        split at x1
        · rename_i id n em el
          rcases RFs.lookup m r with ⟨_, z⟩ | ⟨w', v', z1, z2, r'⟩
          · exact ⟨i, a, cc, dx, fs, vs, id, n, ρ1, h1, rfl, k2, em, z, ha, R1, T1, q, x1⟩
          · rw [z1] at el; cases el
        · exact x1.elim
      · exact x1.elim
    | _ => exact x1.elim
  · subst ev
    obtain rfl : u = Value.ref a := rx
    obtain ⟨F, cl, fd⟩ := hmt cc id n em
    refine getmeth_ok I1 ea cl ⟨fd, F.fn, F.kp⟩ el ?_
    refine call_args (first := [.ref a]) (P := fun vs H2 => ∃ ρ2 ws h2, Rel X.K ca ρ2 h2 H2 ∧ RVs X.K ρ2 H2 ws vs ∧ ρ2[i]? = some a ∧ (PV.obj i :: ws).length = n ∧ WpQ X.K ca (XW X.K ca W σ) ρ2 H2 Q (C id (PV.obj i :: ws) h2)) F.kp A.star I1 A.pa ?_ (fun e z => A.nil' e z) ?_
    · exact tDL.fst R1 T1 x1 fun ws h2 ρ2 H2 vs e2 R2 T2 r2 x2 => by
        obtain ⟨hn, x2⟩ := WpQ.iff x2
        exact ⟨ρ2, ws, h2, R2, r2, e2.at_ ei, hn, x2⟩
    · rintro us s2 vs H2 I2 r ⟨ρ2, ws, h2, R2, r2, ei2, hn, x2⟩
      exact run_C (us := .ref a :: us) (vs := .ref a :: vs) (ws := PV.obj i :: ws) c F hr I2 (.cons rfl r) R2 (.cons ((RV.obj_ _ _).mpr ⟨a, ei2, rfl⟩) r2) hn x2
/-- C(..) of an own class with an __init__ -/
def eMake (C : CT) (cc id n : Nat) (fl : SL) : SE := fun τ h => (fl τ h).bind fun ws h => if (PV.obj h.n :: ws).length = n then ((C id (PV.obj h.n :: ws) (h.push (.ins cc []))).bind fun r h' => match r with
  | .non => .ok (.obj h.n) h'
  | _ => .bad) else .bad
theorem run_makeS {Ca f : Addr} {fd : FuncData} {ps : List Str} {sp : Sp} {E : XK} {pins : List (Addr × Obj)} {σ : L2.St} {H : Hp} {s : Shared} {Q : VK} {us : List Value} {vs : List V} (M : Mk X.K Ca f) (F : FnOk X.prog X.w X.K X.mg X.base (L2.CX X.prog X.w) k f fd ps sp) (hr : Room (k + 1) X.A) (hb : Binds X.K fd ps [])
    (hx : PassesAt (L2.CX X.prog X.w) X σ E) (I : Inv X pins σ H s) (r : Vals vs us)
    (h : ∀ x dx, H x = none → H dx = none → dx ≠ x → sp (.ref x :: vs) (upd (upd H dx (.own x)) x (.ins Ca dx [])) (fun v H2 => v = .non ∧ Q (.ref x) H2) E) :
    wpAny (model X.prog X.w) X.A (call (.ref Ca) us) (EP X pins σ Q) X.xe s := by
  have hq := h (s.heap.objs.size + 1) s.heap.objs.size (I.hok.fresh (Nat.le_succ _)) (I.hok.fresh (Nat.le_refl _)) (Nat.ne_of_lt (Nat.lt_succ_self _))
  have I2 := Inv.made (C := Ca) I
  have r2 : Vals (V.ref (s.heap.objs.size + 1) :: vs) (Value.ref (s.heap.objs.size + 1) :: us) := .cons rfl r
  have hl : (Value.ref (s.heap.objs.size + 1) :: us ++ []).length = ps.length := by
    have e := r2.length
    rw [F.len _ _ _ _ hq] at e
    rw [List.append_nil]
    exact e.symm
  refine wpAny_call (make_map (f := f) I.kIn M.makes M.init (beq_iff_eq.mp M.fn) (codeAny_mono (F.run _ X.stack _ _ ⟨Value.ref (s.heap.objs.size + 1) :: us, []⟩ (Value.ref (s.heap.objs.size + 1) :: us) _ _ E (hr.make Ca us [])
    (I2.env0.make Ca us []) (by have := hb _ (Value.ref (s.heap.objs.size + 1) :: us) I2.kIn hl; rw [List.append_nil] at this; exact this) r2 hq) fun r s' hq' => ?_))
  cases r with
  | error e => exact hx pins _ _ e s' I2 hq'
  | ok fl =>
    cases fl with
    | ret u =>
      obtain ⟨v, H', I3, rv, ev, q3⟩ := I2.after hq'
      subst ev
      exact ⟨rv, ⟨V.ref (s.heap.objs.size + 1), H', I3, rfl, q3⟩⟩
    | next => exact False.elim hq'
    | brk => exact False.elim hq'
    | cont => exact False.elim hq'
theorem pe_eMake {x : Str} {cc id n : Nat} (c : COk X W) (F : FnK X k ca fa C id n) (M : Mk X.K (ca cc) (fa id)) (hr : Room (k + 1) X.A) (hg : Gl X x) (hm : X.mg x = some (.ref (ca cc))) (hdb : (x == ("__debug__" : Str)) = false) (A : Args X ca W es fl) :
    PE X (.Call (.Name x p) es [] pos) (tD X.K ca W (eMake C cc id n fl)) := by
  refine ⟨fun pins s σ H Q I ⟨ρ, τ, h, R, T, x⟩ => ?_⟩
  refine wpAny_Call_Name_kw (ld_glob I hg hm ?_ hdb)
  refine call_args (P := fun vs H1 => ∃ ρ1 ws h1, Rel X.K ca ρ1 h1 H1 ∧ RVs X.K ρ1 H1 ws vs ∧ (PV.obj h1.n :: ws).length = n ∧ WpQ X.K ca (XW X.K ca W σ) ρ1 H1 Q ((C id (PV.obj h1.n :: ws) (h1.push (.ins cc []))).bind fun r h' => match r with
    | .non => .ok (.obj h1.n) h'
    | _ => .bad)) M.kp A.star I A.pa ?_ (fun e z => A.nil' e z) ?_
  · exact tDL.fst R T x fun ws h1 ρ1 H1 vs e1 R1 T1 r1 x1 => by
      obtain ⟨hn, x1⟩ := WpQ.iff x1
      exact ⟨ρ1, ws, h1, R1, r1, hn, x1⟩
  · rintro us s1 vs H1 I1 r ⟨ρ1, ws, h1, R1, r1, hn, x1⟩
    obtain ⟨fd, ps, hl, ok, hb⟩ := F.ok
    refine run_makeS (E := WE W σ) M ok hr hb (passAt c.tk σ) I1 r fun p dx np nd ne => ?_
    have n2 : upd H1 dx (.own p) p = none := by rw [upd_ne (Ne.symm ne)]; exact np
    have R2 := R1.fresh (u := .own p) nd
    have E2 := Ext.fresh (ρ := ρ1) (u := .own p) nd
    have R3 : Rel X.K ca (ρ1 ++ [p]) (h1.push (.ins cc [])) (upd (upd H1 dx (.own p)) p (.ins (ca cc) dx [])) := R2.new n2 ⟨dx, [], rfl, rfl⟩
    have E3 := E2.trans (Ext.new (u := .ins (ca cc) dx []) n2)
    refine ⟨by rw [List.length_cons, ← r1.length]; exact hn, ρ1 ++ [p], _, _, R3, .cons ((RV.obj_ _ _).mpr ⟨p, R1.atNew, rfl⟩) (RVs.ext R1 E3 _ _ r1), ?_⟩
    have x2 := Wp.ext E3 x1
    refine (x2.bind (RA := RV X.K)).imp fun w h4 ρ4 H4 v e4 R4 r4 x4 => ?_
    cases w with
    | non =>
      rw [RV.non_] at r4
      exact ⟨r4, x4 ρ4 H4 _ (Ext.refl _ _) R4 ((RV.obj_ _ _).mpr ⟨p, e4.at_ R1.atNew, rfl⟩)⟩
    | _ => exact x4.elim
/-! built-ins -/
def SoundL (K : PySem.W.Frag) (ca : Nat → Addr) (r : List V → Hp → VK → Prop) (k : List PV → Hh → Res PV) : Prop :=
  ∀ (XX : WX') (ρ : List Addr) (h : Hh) (H : Hp) (ws : List PV) (vs : List V) (Q : VK), Rel K ca ρ h H → RVs K ρ H ws vs → WpQ K ca XX ρ H Q (k ws h) → r vs H Q
def eB (f : List PV → Hh → Res PV) (fl : SL) : SE := fun τ h => (fl τ h).bind f
theorem pe_eB {x : Str} {id : String} {r : List V → Hp → VK → Prop} {f : List PV → Hh → Res PV} (hs : SoundL X.K ca r f) (hc : CallR X (.builtin id) r) (hg : Gl X x) (hm : X.mg x = none) (hv : bootBuiltins x = some (.builtin id)) (hn : x ≠ "__name__") (hdb : (x == ("__debug__" : Str)) = false) (h0 : es ≠ []) (A : Args X ca W es fl) :
    PE X (.Call (.Name x p) es [] pos) (tD X.K ca W (eB f fl)) := by
  cases es with
  | nil => exact absurd rfl h0
  | cons e es =>
    have hs' := A.star
    rw [List.all_cons, Bool.and_eq_true] at hs'
    exact pe_of (pe_callB hc hg hm hv A.pa hn hdb (starEach_cons e es hs'.1) (starEach_all es hs'.2 pos)) fun σ H Q ρ τ h R T x => tDL.fst R T x fun ws h1 ρ1 H1 vs e1 R1 T1 r1 x1 => hs _ ρ1 h1 H1 ws vs Q R1 r1 x1
theorem pe_eBT {x : Str} {id : String} {r : List V → Hp → VK → Prop} {f : List PV → Hh → Res PV} (hs : SoundL X.K ca r f) (hc : CallR X (.type id) r) (hg : Gl X x) (hm : X.mg x = none) (hv : bootBuiltins x = some (.type id)) (hn : x ≠ "__name__") (hdb : (x == ("__debug__" : Str)) = false) (h0 : es ≠ []) (A : Args X ca W es fl) :
    PE X (.Call (.Name x p) es [] pos) (tD X.K ca W (eB f fl)) := by
  cases es with
  | nil => exact absurd rfl h0
  | cons e es =>
    have hs' := A.star
    rw [List.all_cons, Bool.and_eq_true] at hs'
    exact pe_of (pe_callTy hc hg hm hv A.pa hn hdb (starEach_cons e es hs'.1) (starEach_all es hs'.2 pos)) fun σ H Q ρ τ h R T x => tDL.fst R T x fun ws h1 ρ1 H1 vs e1 R1 T1 r1 x1 => hs _ ρ1 h1 H1 ws vs Q R1 r1 x1
end
end DD
set_option Elab.async false
set_option linter.all false
set_option maxRecDepth 100000
set_option maxHeartbeats 4000000
/-! DH: methods of lists, dicts, texts. -/
namespace DD
open PySem PySem.Spec PyProof.Rows L2
variable [Ups]

inductive BM where
  | append | extend | pop | get | join | setdefault | update
  deriving DecidableEq
def BM.name : BM → Str
  | .append => "append"
  | .extend => "extend"
  | .pop => "pop"
  | .get => "get"
  | .join => "join"
  | .setdefault => "setdefault"
  | .update => "update"
def bmOf (m : Str) : Option BM :=
  if m = "append" then some .append else if m = "extend" then some .extend else if m = "pop" then some .pop else if m = "get" then some .get else if m = "join" then some .join else if m = "setdefault" then some .setdefault else if m = "update" then some .update else none
/-- 0: a list, 1: a dict, 2: a text -/
def kindS (h : Hh) : PV → Option Nat
  | .str _ => some 2
  | .obj i => match h.lst? i with
    | some _ => some 0
    | none => match h.dct? i with
      | some _ => some 1
      | none => none
  | _ => none
def strs? : List PV → Option (List Str)
  | [] => some []
  | .str x :: r => (strs? r).map (x :: ·)
  | _ :: _ => none
/-- a list's method -/
def lmS (b : BM) (i : Nat) (ws : List PV) (h : Hh) : Res PV := match h.get i with
  | some (.lst xs) => match b, ws with
    | .append, [y] => if xs.length < lim then .ok .non (h.put i (.lst (xs ++ [y]))) else .bad
    | .extend, [.obj j] => match h.get j with
      | some (.lst ys) => if xs.length + ys.length ≤ lim then .ok .non (h.put i (.lst (xs ++ ys))) else .bad
      | _ => .bad
    | .pop, [] => match xs[xs.length - 1]? with
      | some y => .ok y (h.put i (.lst xs.dropLast))
      | none => .bad
    | .pop, [.int k] => if k = 0 then (match xs with
      | y :: ys => .ok y (h.put i (.lst ys))
      | [] => .bad) else .bad
    | _, _ => .bad
  | _ => .bad
/-- a dict's method -/
def mergeP (acc : List (Key × PV)) (kvs : List (Key × PV)) : List (Key × PV) := kvs.foldl (fun acc kv => putP acc kv.1 kv.2) acc
def dmS (b : BM) (i : Nat) (ws : List PV) (h : Hh) : Res PV := match b, ws with
  | .get, [y] => match h.dct? i, keyP y with
    | some kvs, some k => .ok ((valP kvs k).getD .non) h
    | _, _ => .bad
  | .get, [y, z] => match h.dct? i, keyP y with
    | some kvs, some k => .ok ((valP kvs k).getD z) h
    | _, _ => .bad
  | .pop, [y] => match h.get i, keyP y with
    | some (.dct kvs), some k => match valP kvs k with
      | some v => .ok v (h.put i (.dct (dropP kvs k)))
      | none => .bad
    | _, _ => .bad
  | .pop, [y, z] => match h.get i, keyP y with
    | some (.dct kvs), some k => match valP kvs k with
      | some v => .ok v (h.put i (.dct (dropP kvs k)))
      | none => .ok z h
    | _, _ => .bad
  | .setdefault, [y, z] => match h.get i, keyP y with
    | some (.dct kvs), some k => if kvs.length < lim then (match valP kvs k with
      | some v => .ok v h
      | none => .ok z (h.put i (.dct (putP kvs k z)))) else .bad
    | _, _ => .bad
  | .update, [.obj j] => match h.get i, h.dct? j with
    | some (.dct kvs), some more => if Nat.beq i j = false ∧ kvs.length + more.length ≤ lim then .ok .non (h.put i (.dct (mergeP kvs more))) else .bad
    | _, _ => .bad
  | _, _ => .bad
def smS (b : BM) (a : Str) (ws : List PV) (h : Hh) : Res PV := match b, ws with
  | .join, [.obj j] => match h.lst? j with
    | some xs => match strs? xs with
      | some ys => if (ys.map (·.length)).sum + ys.length * a.length ≤ lim then .ok (.str (Txt.join a ys)) h else .bad
      | none => .bad
    | none => .bad
  | _, _ => .bad
def bmS (b : BM) (k : Nat) (x : PV) (ws : List PV) (h : Hh) : Res PV := match k, x with
  | 0, .obj i => lmS b i ws h
  | 1, .obj i => dmS b i ws h
  | 2, .str a => smS b a ws h
  | _, _ => .bad
def BM.on : BM → Nat → Bool
  | .append, 0 => true
  | .extend, 0 => true
  | .pop, 0 => true
  | .pop, 1 => true
  | .get, 1 => true
  | .setdefault, 1 => true
  | .update, 1 => true
  | .join, 2 => true
  | _, _ => false
def eBm (b : BM) (fo : SE) (fl : SL) : SE := fun τ h => (fo τ h).bind fun x h => match kindS h x with
  | some k => if b.on k = true then (fl τ h).bind fun ws h => bmS b k x ws h else .bad
  | none => .bad
/-- what is known of a type's method -/
structure BmOk (X : Cx) (ca : Nat → Addr) (W : WX) (b : BM) (k : Nat) (T id : String) : Prop where
  pa : PlainAttrs T
  slot : Slot T b.name id
  ty : typeOf (.builtin id) = pure (.type "method_descriptor")
  run : ∀ (pins : List (Addr × Obj)) (s : Shared) (σ : L2.St) (H : Hp) (x : V) (xs : List V) (v : Value) (us : List Value) (Q : VK) (ρ : List Addr) (h : Hh) (w : PV) (ws : List PV), Inv X pins σ H s → RelV x v → Vals xs us →
    Rel X.K ca ρ h H → RV X.K ρ H w x → RVs X.K ρ H ws xs → WpQ X.K ca (XW X.K ca W σ) ρ H Q (bmS b k w ws h) → wpAny (model X.prog X.w) X.A (call (.builtin id) (v :: us)) (EP X pins σ Q) X.xe s
def tyOf : Nat → String
  | 0 => "list"
  | 1 => "dict"
  | _ => "str"
theorem kind_is {X : Cx} {ca : Nat → Addr} {pins : List (Addr × Obj)} {s : Shared} {σ : L2.St} {H : Hp} {x : V} {v : Value} {ρ : List Addr} {h : Hh} {w : PV} {k : Nat} (I : Inv X pins σ H s) (r : RelV x v) (R : Rel X.K ca ρ h H) (q : RV X.K ρ H w x) (e : kindS h w = some k) :
    s.TypeIs v (tyOf k) ∧ ∀ a, v = .ref a → ∃ ob, s.heap.get? a = some ob ∧ ob.dict = none := by
  cases w with
  | str z =>
    rw [RV.str_] at q
    subst q
    cases e
    exact tyV_is (T := "str") I r rfl
  | obj i =>
    rw [RV.obj_] at q
    obtain ⟨a, ha, rfl⟩ := q
    have e : (match h.lst? i with
      | some _ => some 0
      | none => match h.dct? i with
        | some _ => some 1
        | none => none) = some k := e
    cases ql : h.lst? i with
    | some xs =>
      rw [ql] at e
      cases e
      obtain ⟨a', vs, ha', s', _, _⟩ := lst_get ql R
      rw [ha] at ha'; cases ha'
      exact tyV_is (T := "list") I r (.inl ⟨rfl, vs, .inl s'⟩)
    | none =>
      rw [ql] at e
      cases qd : h.dct? i with
      | none => rw [qd] at e; cases e
      | some kvs =>
        rw [qd] at e
        cases e
        obtain ⟨a', vs, ha', s', _, _⟩ := dct_get qd R
        rw [ha] at ha'; cases ha'
        obtain rfl : v = Value.ref a := r
        obtain ⟨t1, t2, _⟩ := isD_at I (.inl ⟨vs, s'⟩)
        exact ⟨t1, t2⟩
  | _ => cases e
section
variable {X : Cx} {ca fa : Nat → Addr} {W : WX} {pos apos p : Pos} {o : Expr} {es : List Expr} {fo : SE} {fl : SL} {C : CT}
theorem pe_eBm {b : BM} {m : Str} (hm : bmOf m = some b) (hmn : m = b.name) (hb : plainBase o = true) (hn : es.length < 29) (hl : (apos.endLine == pos.line) = true) (hk : ∀ k, b.on k = true → ∃ id, BmOk X ca W b k (tyOf k) id)
    (he : PE X o (tD X.K ca W fo)) (A : Args X ca W es fl) : PE X (.Call (.Attribute o m apos) es [] pos) (tD X.K ca W (eBm b fo fl)) := by
  subst hmn
  refine ⟨fun pins s σ H Q I ⟨ρ, τ, h, R, T, x⟩ => ?_⟩
  have hfew : ((backTo pos (starEach es X.env)).all (fun x => !x.1) && (backToKw pos (keywordEach [] X.env)).all (fun x => x.1.isSome)
      && decide (es.length + ([] : List Keyword).length + (if ([] : List Keyword).isEmpty then 0 else 1) < 30)) = true := by
    rw [form_all es pos A.star]
    show (true && true && decide (es.length + 0 + 0 < 30)) = true
    rw [decide_eq_true (show es.length + 0 + 0 < 30 by omega)]
    rfl
  refine wpAny_Call_method_late (base_eq hb) hfew hl rfl (thn (he.run pins s σ H (fun v H1 => ∃ ρ1 h1 w k, Rel X.K ca ρ1 h1 H1 ∧ EnvR X.K ρ1 H1 τ σ ∧ RV X.K ρ1 H1 w v ∧ kindS h1 w = some k ∧ b.on k = true ∧ WpQ X.K ca (XW X.K ca W σ) ρ1 H1 Q ((fl τ h1).bind fun ws h => bmS b k w ws h)) I ?_)
    fun u s1 ⟨v, H1, I1, r1, ρ1, h1, w, k, R1, T1, q1, ek, eo, x1⟩ => ?_)
  · refine tD.fst R T x fun w h1 ρ1 H1 v e1 R1 T1 r1 x1 => ?_
    cases ek : kindS h1 w with
    | none => rw [ek] at x1; exact x1.elim
    | some k =>
      rw [ek] at x1
      obtain ⟨eo, x1⟩ := WpQ.iff x1
      exact ⟨ρ1, h1, w, k, R1, T1, r1, ek, eo, x1⟩
  · obtain ⟨id, ok⟩ := hk k eo
    · obtain ⟨t1, t2⟩ := kind_is I1 r1 R1 q1 ek
      refine ⟨tyOf k, id, ok.pa, ok.slot, ok.ty, t1, t2, ?_⟩
      have fin : ∀ us s2 vs H2, Inv X pins σ H2 s2 → Vals vs us → (∃ ρ2 ws h2, Rel X.K ca ρ2 h2 H2 ∧ RV X.K ρ2 H2 w v ∧ RVs X.K ρ2 H2 ws vs ∧ WpQ X.K ca (XW X.K ca W σ) ρ2 H2 Q (bmS b k w ws h2)) → wpAny (model X.prog X.w) X.A (call (.builtin id) (u :: us)) (EP X pins σ Q) X.xe s2 :=
        fun us s2 vs H2 I2 rv ⟨ρ2, ws, h2, R2, q2, r2, x2⟩ => ok.run pins s2 σ H2 v vs u us Q ρ2 h2 w ws I2 r1 rv R2 q2 r2 x2
      have prep : tDL X.K ca W fl σ H1 fun vs H2 => ∃ ρ2 ws h2, Rel X.K ca ρ2 h2 H2 ∧ RV X.K ρ2 H2 w v ∧ RVs X.K ρ2 H2 ws vs ∧ WpQ X.K ca (XW X.K ca W σ) ρ2 H2 Q (bmS b k w ws h2) :=
        tDL.fst R1 T1 x1 fun ws h2 ρ2 H2 vs e2 R2 T2 r2 x2 => ⟨ρ2, ws, h2, R2, RV.ext R1 e2 w v q1, r2, x2⟩
      cases es with
      | nil => exact Calls.callWith_builtin rfl (PySem.evalArgs_none (fin [] s1 [] H1 I1 .nil (A.nil' rfl prep)))
      | cons e es =>
        have hs' := A.star
        rw [List.all_cons, Bool.and_eq_true] at hs'
        have hA := A.pa.run pos pins s1 σ H1 _ I1 prep
        have hs := starEach_cons (env := X.env) e es hs'.1
        rw [hs] at hA ⊢
        refine Calls.callWith_builtin (by show (false || (backTo pos (starEach es X.env)).any (·.1)) = false; rw [starEach_all es hs'.2 pos] <;> rfl) (Calls.evalArgs_plain ?_)
        exact thn hA fun us s2 ⟨vs, H2, I2, r2, q2⟩ => fin us s2 vs H2 I2 r2 q2

theorem lt_lim {n : Nat} (e : n < lim) : n < sizeLine := Nat.lt_of_lt_of_le e (by decide)
theorem xBad {XX : WX'} {ρ : List Addr} {H : Hp} {Q : VK} (P : Prop) (x : WpQ X.K ca XX ρ H Q .bad) : P := x.elim
theorem bm_append : BmOk X ca W .append 0 "list" "list.append" where
  pa := PySem.F.plainAttrs_list
  slot := PySem.F.slot_list_append
  ty := PySem.F.type_list_append
  run := fun pins s σ H x xs v us Q ρ h w ws I rx rs R q qs z => by
    refine mt_append pins s σ H x xs v us Q I rx rs ?_
    cases w with
    | obj i =>
      have z : WpQ X.K ca (XW X.K ca W σ) ρ H Q (lmS .append i ws h) := z
      unfold lmS at z
      split at z
      · rename_i ys e
        obtain ⟨a, u, ha, hu, r⟩ := R.obj e
        obtain ⟨vs, rfl, r⟩ := r
        rw [RV.obj_] at q
        obtain ⟨a', ha', rfl⟩ := q
        rw [ha] at ha'; cases ha'
        cases ws with
        | nil => exact z.elim
        | cons y r' =>
          cases r' with
          | cons _ _ => exact z.elim
          | nil =>
            obtain ⟨v1, t, rfl, q1, q2⟩ := qs.inv
            rw [q2.inv0]
            obtain ⟨l, z⟩ := WpQ.iff z
            exact ⟨a, vs, v1, rfl, rfl, hu, by rw [← r.length]; exact lt_lim l, Wp.objW (w := .non) R z ha ⟨_, rfl, r.app (.cons q1 .nil)⟩ ((RV.non_ _).mpr rfl)⟩
      · exact z.elim
    | _ => exact z.elim
theorem bm_extend : BmOk X ca W .extend 0 "list" "list.extend" where
  pa := PySem.F.plainAttrs_list
  slot := PySem.F.slot_list_extend
  ty := PySem.F.type_list_extend
  run := fun pins s σ H x xs v us Q ρ h w ws I rx rs R q qs z => by
    refine mt_extend pins s σ H x xs v us Q I rx rs ?_
    cases w with
    | obj i =>
      have z : WpQ X.K ca (XW X.K ca W σ) ρ H Q (lmS .extend i ws h) := z
      unfold lmS at z
      split at z
      · rename_i ys e
        obtain ⟨a, u, ha, hu, r⟩ := R.obj e
        obtain ⟨vs, rfl, r⟩ := r
        rw [RV.obj_] at q
        obtain ⟨a', ha', rfl⟩ := q
        rw [ha] at ha'; cases ha'
        cases ws with
        | nil => exact z.elim
        | cons y r' =>
          cases r' with
          | cons _ _ => cases y <;> exact z.elim
          | nil =>
            obtain ⟨v1, t, rfl, q1, q2⟩ := qs.inv
            rw [q2.inv0]
            cases y with
            | obj j =>
              have z : WpQ X.K ca (XW X.K ca W σ) ρ H Q (match h.get j with
                | some (.lst zs) => if ys.length + zs.length ≤ lim then .ok .non (h.put i (.lst (ys ++ zs))) else .bad
                | _ => .bad) := z
              split at z
              · rename_i zs e2
                obtain ⟨b, u2, hb, hu2, r2⟩ := R.obj e2
                obtain ⟨vs2, rfl, r2⟩ := r2
                rw [RV.obj_] at q1
                obtain ⟨b', hb', rfl⟩ := q1
                rw [hb] at hb'; cases hb'
                obtain ⟨l, z⟩ := WpQ.iff z
                exact ⟨a, b, vs, vs2, rfl, rfl, hu, hu2, lim_ok (RVs.len_le r r2 l), Wp.objW (w := .non) R z ha ⟨_, rfl, r.app r2⟩ ((RV.non_ _).mpr rfl)⟩
              · exact z.elim
            | _ => exact z.elim
      · exact z.elim
    | _ => exact z.elim
theorem RVs.dropLast {K : PySem.W.Frag} {ρ : List Addr} {H : Hp} {ws : List PV} {vs : List V} (r : RVs K ρ H ws vs) : RVs K ρ H ws.dropLast vs.dropLast := by
  rw [List.dropLast_eq_take, List.dropLast_eq_take, r.length]
  exact r.take _
theorem bm_pop : BmOk X ca W .pop 0 "list" "list.pop" where
  pa := PySem.F.plainAttrs_list
  slot := PySem.F.slot_list_pop
  ty := PySem.F.type_list_pop
  run := fun pins s σ H x xs v us Q ρ h w ws I rx rs R q qs z => by
    cases w with
    | obj i =>
      have z : WpQ X.K ca (XW X.K ca W σ) ρ H Q (lmS .pop i ws h) := z
      unfold lmS at z
      split at z
      · rename_i ys e
        obtain ⟨a, u, ha, hu, r⟩ := R.obj e
        obtain ⟨vs, rfl, r⟩ := r
        rw [RV.obj_] at q
        obtain ⟨a', ha', rfl⟩ := q
        rw [ha] at ha'; cases ha'
        cases ws with
        | nil =>
          rw [qs.inv0] at rs
          refine mt_pop pins s σ H _ [] v us Q I rx rs ?_
          have z : WpQ X.K ca (XW X.K ca W σ) ρ H Q (match ys[ys.length - 1]? with
            | some y => .ok y (h.put i (.lst ys.dropLast))
            | none => .bad) := z
          cases e3 : ys[ys.length - 1]? with
          | none => rw [e3] at z; exact z.elim
          | some y =>
            rw [e3] at z
            obtain ⟨v1, g1, g2⟩ := r.get e3
            exact ⟨a, vs, v1, rfl, rfl, hu, by rw [← r.length]; exact g1, Wp.objW R z ha ⟨_, rfl, r.dropLast⟩ g2⟩
        | cons y r' =>
          cases r' with
          | cons _ _ => cases y <;> exact z.elim
          | nil =>
            obtain ⟨v1, t, rfl, q1, q2⟩ := qs.inv
            rw [q2.inv0] at rs
            cases y with
            | int k =>
              rw [RV.int_] at q1
              subst q1
              obtain ⟨l, z⟩ := WpQ.iff z
              subst l
              refine mt_popAt pins s σ H _ _ v us Q I rx rs ?_
              cases ys with
              | nil => exact z.elim
              | cons y ys =>
                obtain ⟨v1, t, rfl, q3, q4⟩ := r.inv
                exact ⟨a, _, 0, 0, v1, rfl, rfl, hu, by decide, by decide, by simp [seqIndex?], rfl, Wp.objW R z ha ⟨_, rfl, q4⟩ q3⟩
            | _ => exact z.elim
      · exact z.elim
    | _ => exact z.elim
theorem bm_dget (c : COk X W) : BmOk X ca W .get 1 "dict" "dict.get" where
  pa := PySem.F.plainAttrs_dict
  slot := PySem.F.slot_dict_get
  ty := PySem.F.type_dict_get
  run := fun pins s σ H x xs v us Q ρ h w ws I rx rs R q qs z => by
    have hu1 : X.A.units + 1 < cLine := by have := c.hu; omega
    cases w with
    | obj i =>
      rw [RV.obj_] at q
      obtain ⟨a, ha, rfl⟩ := q
      obtain rfl : v = Value.ref a := rx
      have z : WpQ X.K ca (XW X.K ca W σ) ρ H Q (dmS .get i ws h) := z
      cases ws with
      | nil => exact z.elim
      | cons y ws =>
        obtain ⟨v1, t, rfl, q1, q2⟩ := qs.inv
        cases rs with
        | cons r1 rs =>
          cases ws with
          | nil =>
            rw [q2.inv0] at rs
            cases rs
            have z : WpQ X.K ca (XW X.K ca W σ) ρ H Q (match h.dct? i, keyP y with
              | some kvs, some k => .ok ((valP kvs k).getD .non) h
              | _, _ => .bad) := z
            cases qd : h.dct? i with
            | none => rw [qd] at z; exact z.elim
            | some kvs =>
              obtain ⟨a', vs, ha', s', rk, _⟩ := dct_get qd R
              rw [ha] at ha'; cases ha'
              cases qk : keyP y with
              | none => rw [qd, qk] at z; exact z.elim
              | some k =>
                rw [qd, qk] at z
                have ek := keyP_ok q1 qk
                subst ek
                refine d_get1 (Q := fun w' s' => EP X pins σ Q w' s') hu1 I (.inl ⟨vs, k, s', rfl, rfl⟩) r1 fun w' s'' I' rw' => ⟨_, H, I', rw', ?_⟩
                have z : WpQ X.K ca (XW X.K ca W σ) ρ H Q (.ok ((valP kvs k).getD .non) h) := z
                rcases rk.val k with ⟨z1, z2⟩ | ⟨w1, u1, z1, z2, r'⟩
                · rw [z2]; rw [z1] at z; exact Wp.val (w := .non) R z ((RV.non_ _).mpr rfl)
                · rw [z2]; rw [z1] at z; exact Wp.val (w := w1) R z r'
          | cons y2 ws =>
            obtain ⟨v2, t2, rfl, q3, q4⟩ := q2.inv
            cases ws with
            | cons _ _ => exact z.elim
            | nil =>
              rw [q4.inv0] at rs
              cases rs with
              | cons r2 rs =>
                cases rs
                have z : WpQ X.K ca (XW X.K ca W σ) ρ H Q (match h.dct? i, keyP y with
                  | some kvs, some k => .ok ((valP kvs k).getD y2) h
                  | _, _ => .bad) := z
                cases qd : h.dct? i with
                | none => rw [qd] at z; exact z.elim
                | some kvs =>
                  obtain ⟨a', vs, ha', s', rk, _⟩ := dct_get qd R
                  rw [ha] at ha'; cases ha'
                  cases qk : keyP y with
                  | none => rw [qd, qk] at z; exact z.elim
                  | some k =>
                    rw [qd, qk] at z
                    have ek := keyP_ok q1 qk
                    subst ek
                    refine d_get2 (Q := fun w' s' => EP X pins σ Q w' s') hu1 I (.inl ⟨vs, k, s', rfl, rfl⟩) r1 r2 fun w' s'' I' rw' => ⟨_, H, I', rw', ?_⟩
                    have z : WpQ X.K ca (XW X.K ca W σ) ρ H Q (.ok ((valP kvs k).getD y2) h) := z
                    rcases rk.val k with ⟨z1, z2⟩ | ⟨w1, u1, z1, z2, r'⟩
                    · rw [z2]; rw [z1] at z; exact Wp.val (w := y2) R z q3
                    · rw [z2]; rw [z1] at z; exact Wp.val (w := w1) R z r'
    | _ => exact z.elim
theorem bm_dpop : BmOk X ca W .pop 1 "dict" "dict.pop" where
  pa := PySem.F.plainAttrs_dict
  slot := PySem.F.slot_dict_pop
  ty := PySem.F.type_dict_pop
  run := fun pins s σ H x xs v us Q ρ h w ws I rx rs R q qs z => by
    cases w with
    | obj i =>
      rw [RV.obj_] at q
      obtain ⟨a, ha, rfl⟩ := q
      obtain rfl : v = Value.ref a := rx
      have z : WpQ X.K ca (XW X.K ca W σ) ρ H Q (dmS .pop i ws h) := z
      cases ws with
      | nil => exact z.elim
      | cons y ws =>
        obtain ⟨v1, t, rfl, q1, q2⟩ := qs.inv
        cases rs with
        | cons r1 rs =>
          cases ws with
          | nil =>
            rw [q2.inv0] at rs
            cases rs
            have z : WpQ X.K ca (XW X.K ca W σ) ρ H Q (match h.get i, keyP y with
              | some (.dct kvs), some k => match valP kvs k with
                | some v => .ok v (h.put i (.dct (dropP kvs k)))
                | none => .bad
              | _, _ => .bad) := z
            split at z
            · rename_i kvs k qd qk
              obtain ⟨a', u', ha', hu', rk⟩ := R.obj qd
              rw [ha] at ha'; cases ha'
              obtain ⟨vs, rfl, rk⟩ := rk
              have ek := keyP_ok q1 qk
              subst ek
              rcases rk.val k with ⟨z1, z2⟩ | ⟨w1, u1, z1, z2, r'⟩
              · rw [z1] at z; exact z.elim
              · rw [z1] at z
                exact d_pop (Q := fun w' s' => EP X pins σ Q w' s') I hu' r1 z2 (.inl rfl) fun w' s'' I' rw' => ⟨u1, _, I', rw', Wp.objW (w := w1) R z ha ⟨_, rfl, rk.drop k⟩ r'⟩
            · exact z.elim
          | cons y2 ws =>
            obtain ⟨v2, t2, rfl, q3, q4⟩ := q2.inv
            cases ws with
            | cons _ _ => exact z.elim
            | nil =>
              rw [q4.inv0] at rs
              cases rs with
              | cons r2 rs =>
                cases rs
                have z : WpQ X.K ca (XW X.K ca W σ) ρ H Q (match h.get i, keyP y with
                  | some (.dct kvs), some k => match valP kvs k with
                    | some v => .ok v (h.put i (.dct (dropP kvs k)))
                    | none => .ok y2 h
                  | _, _ => .bad) := z
                split at z
                · rename_i kvs k qd qk
                  obtain ⟨a', u', ha', hu', rk⟩ := R.obj qd
                  rw [ha] at ha'; cases ha'
                  obtain ⟨vs, rfl, rk⟩ := rk
                  have ek := keyP_ok q1 qk
                  subst ek
                  rcases rk.val k with ⟨z1, z2⟩ | ⟨w1, u1, z1, z2, r'⟩
                  · rw [z1] at z
                    exact d_popD (Q := fun w' s' => EP X pins σ Q w' s') I hu' r1 z2 fun s'' I' => ⟨v2, H, I', r2, Wp.val (w := y2) R z q3⟩
                  · rw [z1] at z
                    exact d_pop (Q := fun w' s' => EP X pins σ Q w' s') I hu' r1 z2 (.inr ⟨_, rfl⟩) fun w' s'' I' rw' => ⟨u1, _, I', rw', Wp.objW (w := w1) R z ha ⟨_, rfl, rk.drop k⟩ r'⟩
                · exact z.elim
    | _ => exact z.elim
theorem bm_setd : BmOk X ca W .setdefault 1 "dict" "dict.setdefault" where
  pa := PySem.F.plainAttrs_dict
  slot := PySem.F.slot_dict_setdefault
  ty := PySem.F.type_dict_setdefault
  run := fun pins s σ H x xs v us Q ρ h w ws I rx rs R q qs z => by
    cases w with
    | obj i =>
      rw [RV.obj_] at q
      obtain ⟨a, ha, rfl⟩ := q
      obtain rfl : v = Value.ref a := rx
      have z : WpQ X.K ca (XW X.K ca W σ) ρ H Q (dmS .setdefault i ws h) := z
      cases ws with
      | nil => exact z.elim
      | cons y ws =>
        obtain ⟨v1, t, rfl, q1, q2⟩ := qs.inv
        cases ws with
        | nil => exact z.elim
        | cons y2 ws =>
          obtain ⟨v2, t2, rfl, q3, q4⟩ := q2.inv
          cases ws with
          | cons _ _ => exact z.elim
          | nil =>
            rw [q4.inv0] at rs
            cases rs with
            | cons r1 rs =>
              cases rs with
              | cons r2 rs =>
                cases rs
                have z : WpQ X.K ca (XW X.K ca W σ) ρ H Q (match h.get i, keyP y with
                  | some (.dct kvs), some k => if kvs.length < lim then (match valP kvs k with
                    | some v => .ok v h
                    | none => .ok y2 (h.put i (.dct (putP kvs k y2)))) else .bad
                  | _, _ => .bad) := z
                split at z
                · rename_i kvs k qd qk
                  obtain ⟨a', u', ha', hu', rk⟩ := R.obj qd
                  rw [ha] at ha'; cases ha'
                  obtain ⟨vs, rfl, rk⟩ := rk
                  have ek := keyP_ok q1 qk
                  subst ek
                  obtain ⟨l, z⟩ := WpQ.iff z
                  rcases rk.val k with ⟨z1, z2⟩ | ⟨w1, u1, z1, z2, r'⟩
                  · rw [z1] at z
                    exact d_setd (Q := fun w' s' => EP X pins σ Q w' s') I hu' r1 r2 (by rw [← rk.length]; exact lt_lim l) (fun v' e' => by rw [z2] at e'; cases e') fun _ w' s'' I' rw' => ⟨v2, _, I', rw', Wp.objW (w := y2) R z ha ⟨_, rfl, rk.put k q3⟩ q3⟩
                  · rw [z1] at z
                    exact d_setd (Q := fun w' s' => EP X pins σ Q w' s') I hu' r1 r2 (by rw [← rk.length]; exact lt_lim l) (fun v' e' w' s'' I' rw' => ⟨v', H, I', rw', by rw [z2] at e'; cases e'; exact Wp.val (w := w1) R z r'⟩) fun e' => by rw [z2] at e'; cases e'
                · exact z.elim
    | _ => exact z.elim
/-- d.update(e) -/
theorem d_upd {X : Cx} {pins : List (Addr × Obj)} {σ : L2.St} {H : Hp} {s : Shared} {a b : Addr} {kvs more : List (Key × V)} {A : Around} {E : Value → Shared → Prop} {Q : Value → Shared → Prop} (I : Inv X pins σ H s) (e : H a = some (.dK kvs)) (e2 : Rd H b (.dK more)) (ne : a ≠ b) (hz : kvs.length + more.length ≤ sizeLine)
    (h : ∀ s', Inv X pins σ (upd H a (.dK (mergeK kvs more))) s' → Q .none s') : wpAny (model X.prog X.w) A (call (.builtin "dict.update") [.ref a, .ref b]) Q E s := by
  obtain ⟨z, hd, vs, rel, dd⟩ := dk_of I.hok e
  obtain ⟨z2, hd2, rs, rel2, dd2⟩ := dk_rd I.hok e2
  refine call_meetsIn PySem.F.slot_dict_update dd.typeIs PySem.F.entry_dict_update (PySem.F.args_dict_update_2 _ _) (meets_dict_update (mixKind X.prog X.w) a b ne hd2) ⟨vs, rs, dd, dd2, by rw [← rel.length, ← rel2.length]; exact hz, fun h' dd' _ hs => h _ ?_⟩
  have he : ∃ q, h'.get? a = some q := let ⟨q, _, _, hq, _⟩ := dd'; ⟨q, hq⟩
  have hl := length_mergeK more kvs
  exact d_write (t' := s.toks) I (by rw [e]; exact True.intro) hs he (dk_new (by omega) hd (rel2.merge rel) dd')
theorem RFs.merge {K : PySem.W.Frag} {ρ : List Addr} {H : Hp} : ∀ {more : List (Key × PV)} {vs : List (Key × V)} {acc : List (Key × PV)} {ac : List (Key × V)}, RFs K ρ H more vs → RFs K ρ H acc ac → RFs K ρ H (mergeP acc more) (mergeK ac vs)
  | [], vs, acc, ac, r, q => by
    have r : vs = [] := r
    subst r
    exact q
  | (k, x) :: more, vs, acc, ac, r, q => by
    obtain ⟨v, t, rfl, rx, rt⟩ := r
    show RFs K ρ H (mergeP (putP acc k x) more) (mergeK (putK ac k v) t)
    exact RFs.merge (more := more) rt (q.put k rx)
theorem bm_upd : BmOk X ca W .update 1 "dict" "dict.update" where
  pa := PySem.F.plainAttrs_dict
  slot := PySem.F.slot_dict_update
  ty := PySem.F.type_dict_update
  run := fun pins s σ H x xs v us Q ρ h w ws I rx rs R q qs z => by
    cases w with
    | obj i =>
      rw [RV.obj_] at q
      obtain ⟨a, ha, rfl⟩ := q
      obtain rfl : v = Value.ref a := rx
      have z : WpQ X.K ca (XW X.K ca W σ) ρ H Q (dmS .update i ws h) := z
      cases ws with
      | nil => exact z.elim
      | cons y ws =>
        obtain ⟨v1, t, rfl, q1, q2⟩ := qs.inv
        cases ws with
        | cons _ _ => cases y <;> exact z.elim
        | nil =>
          rw [q2.inv0] at rs
          cases rs with
          | cons r1 rs =>
            cases rs
            cases y with
            | obj j =>
              rw [RV.obj_] at q1
              obtain ⟨b, hb, rfl⟩ := q1
              obtain rfl : _ = Value.ref b := r1
              have z : WpQ X.K ca (XW X.K ca W σ) ρ H Q (match h.get i, h.dct? j with
                | some (.dct kvs), some more => if Nat.beq i j = false ∧ kvs.length + more.length ≤ lim then .ok .non (h.put i (.dct (mergeP kvs more))) else .bad
                | _, _ => .bad) := z
              split at z
              · rename_i kvs more qd qm
                obtain ⟨a', u', ha', hu', rk⟩ := R.obj qd
                rw [ha] at ha'; cases ha'
                obtain ⟨vs, rfl, rk⟩ := rk
                obtain ⟨b', ms, hb', sm, rm, _⟩ := dct_get qm R
                rw [hb] at hb'; cases hb'
                obtain ⟨⟨nij, l⟩, z⟩ := WpQ.iff z
                have ne : a ≠ b := fun e => by
                  subst e
                  have := nodup_at R.nd ha hb
                  subst this
                  rw [beqN] at nij
                  simp at nij
                exact d_upd (Q := fun w' s' => EP X pins σ Q w' s') I hu' sm ne (by rw [← rk.length, ← rm.length]; exact Nat.le_trans l (by decide)) fun s' I' => ⟨.non, _, I', rfl, Wp.objW (w := .non) R z ha ⟨_, rfl, rm.merge rk⟩ ((RV.non_ _).mpr rfl)⟩
              · exact z.elim
            | _ => exact z.elim
    | _ => exact z.elim
theorem strs_ok {K : PySem.W.Frag} {ρ : List Addr} {H : Hp} : ∀ {ws : List PV} {vs : List V} {ys : List Str}, RVs K ρ H ws vs → strs? ws = some ys → vs = ys.map V.str
  | [], vs, ys, r, e => by rw [r.inv0]; cases e; rfl
  | w :: ws, vs, ys, r, e => by
    obtain ⟨v, t, rfl, q, r'⟩ := r.inv
    cases w with
    | str x =>
      have e : (strs? ws).map (x :: ·) = some ys := e
      cases q2 : strs? ws with
      | none => rw [q2] at e; cases e
      | some ys' =>
        rw [q2] at e
        cases e
        rw [RV.str_] at q
        rw [q, strs_ok r' q2]
        rfl
    | _ => cases e
theorem bm_join : BmOk X ca W .join 2 "str" "str.join" where
  pa := PySem.F.plainAttrs_str
  slot := PySem.F.slot_str_join
  ty := PySem.F.type_str_join
  run := fun pins s σ H x xs v us Q ρ h w ws I rx rs R q qs z => by
    refine mt_join pins s σ H x xs v us Q I rx rs ?_
    cases w with
    | str a =>
      rw [RV.str_] at q
      subst q
      have z : WpQ X.K ca (XW X.K ca W σ) ρ H Q (smS .join a ws h) := z
      cases ws with
      | nil => exact z.elim
      | cons y ws =>
        obtain ⟨v1, t, rfl, q1, q2⟩ := qs.inv
        cases ws with
        | cons _ _ => cases y <;> exact z.elim
        | nil =>
          rw [q2.inv0]
          cases y with
          | obj j =>
            rw [RV.obj_] at q1
            obtain ⟨b, hb, rfl⟩ := q1
            have z : WpQ X.K ca (XW X.K ca W σ) ρ H Q (match h.lst? j with
              | some xs => match strs? xs with
                | some ys => if (ys.map (·.length)).sum + ys.length * a.length ≤ lim then .ok (.str (Txt.join a ys)) h else .bad
                | none => .bad
              | none => .bad) := z
            cases ql : h.lst? j with
            | none => rw [ql] at z; exact z.elim
            | some xs =>
              obtain ⟨b', vs, hb', s', r', _⟩ := lst_get ql R
              rw [hb] at hb'; cases hb'
              rw [ql] at z
              have z : WpQ X.K ca (XW X.K ca W σ) ρ H Q (match strs? xs with
                | some ys => if (ys.map (·.length)).sum + ys.length * a.length ≤ lim then .ok (.str (Txt.join a ys)) h else .bad
                | none => .bad) := z
              cases qs2 : strs? xs with
              | none => rw [qs2] at z; exact z.elim
              | some ys =>
                rw [qs2] at z
                have ev := strs_ok r' qs2
                subst ev
                obtain ⟨l, z⟩ := WpQ.iff z
                exact ⟨a, b, ys, rfl, rfl, .inl (.inl s'), Nat.le_trans l (by decide), Wp.val (w := .str _) R z ((RV.str_ _ _).mpr rfl)⟩
          | _ => exact z.elim
    | _ => exact z.elim
theorem bm_all (c : COk X W) : ∀ (b : BM) (k : Nat), b.on k = true → ∃ id, BmOk X ca W b k (tyOf k) id
  | .append, 0, _ => ⟨_, bm_append⟩
  | .extend, 0, _ => ⟨_, bm_extend⟩
  | .pop, 0, _ => ⟨_, bm_pop⟩
  | .pop, 1, _ => ⟨_, bm_dpop⟩
  | .get, 1, _ => ⟨_, bm_dget c⟩
  | .setdefault, 1, _ => ⟨_, bm_setd⟩
  | .update, 1, _ => ⟨_, bm_upd⟩
  | .join, 2, _ => ⟨_, bm_join⟩
end
end DD
set_option Elab.async false
set_option linter.all false
set_option maxRecDepth 100000
set_option maxHeartbeats 4000000
/-! DI: built-in functions. -/
namespace DD
open PySem PySem.Spec PyProof.Rows L2
variable [Ups]

/-! sorting -/
def insI (x : Int) : List Int → List Int
  | [] => [x]
  | y :: r => if x ≤ y then x :: y :: r else y :: insI x r
def sortI : List Int → List Int
  | [] => []
  | x :: r => insI x (sortI r)
def insT (x : Str) : List Str → List Str
  | [] => [x]
  | y :: r => if ltCps y.cps.toList x.cps.toList = true then y :: insT x r else x :: y :: r
def sortT : List Str → List Str
  | [] => []
  | x :: r => insT x (sortT r)
theorem insI_perm (x : Int) : ∀ l, (insI x l).Perm (x :: l)
  | [] => List.Perm.refl _
  | y :: r => by
    unfold insI
    split
    · exact List.Perm.refl _
    · exact ((insI_perm x r).cons y).trans (List.Perm.swap x y r)
theorem sortI_perm : ∀ l, (sortI l).Perm l
  | [] => List.Perm.refl _
  | x :: r => (insI_perm x _).trans ((sortI_perm r).cons x)
theorem insI_sorted (x : Int) : ∀ l, l.Pairwise (· ≤ ·) → (insI x l).Pairwise (· ≤ ·)
  | [], _ => by unfold insI; simp
  | y :: r, h => by
    unfold insI
    rw [List.pairwise_cons] at h
    split
    · rename_i q
      rw [List.pairwise_cons]
      refine ⟨fun z hz => ?_, List.pairwise_cons.mpr h⟩
      rcases List.mem_cons.mp hz with e | e
      · rw [e]; exact q
      · exact Int.le_trans q (h.1 z e)
    · rename_i q
      rw [List.pairwise_cons]
      refine ⟨fun z hz => ?_, insI_sorted x r h.2⟩
      rcases List.mem_cons.mp ((insI_perm x r).mem_iff.mp hz) with e | e
      · rw [e]; omega
      · exact h.1 z e
theorem sortI_sorted : ∀ l, (sortI l).Pairwise (· ≤ ·)
  | [] => List.Pairwise.nil
  | x :: r => insI_sorted x _ (sortI_sorted r)
theorem sortI_eq {a b : List Int} (p : a.Perm b) (s : a.Pairwise (· ≤ ·)) : a = sortI b :=
  List.Perm.eq_of_pairwise (fun x y _ _ h1 h2 => Int.le_antisymm h1 h2) s (sortI_sorted b) (p.trans (sortI_perm b).symm)
def leT (x y : Str) : Prop := ltCps y.cps.toList x.cps.toList = false
theorem leT_iff (x y : Str) : leT x y ↔ ¬ y.cps.toList < x.cps.toList := by
  unfold leT
  rw [ltCps_eq]
  simp
theorem leT_anti {x y : Str} (a : leT x y) (b : leT y x) : x = y := by
  rw [leT_iff] at a b
  have : x.cps.toList = y.cps.toList := List.le_antisymm a b
  cases x; cases y
  simpa using Array.toList_inj.mp this
theorem leT_trans {x y z : Str} (a : leT x y) (b : leT y z) : leT x z := by
  rw [leT_iff] at a b ⊢
  exact List.le_trans (l₁ := x.cps.toList) (l₂ := y.cps.toList) (l₃ := z.cps.toList) a b
theorem leT_total {x y : Str} (h : ltCps x.cps.toList y.cps.toList = true) : leT x y := by
  rw [leT_iff]
  rw [ltCps_eq, decide_eq_true_eq] at h
  exact List.lt_asymm h
theorem insT_perm (x : Str) : ∀ l, (insT x l).Perm (x :: l)
  | [] => List.Perm.refl _
  | y :: r => by
    unfold insT
    split
    · exact ((insT_perm x r).cons y).trans (List.Perm.swap x y r)
    · exact List.Perm.refl _
theorem sortT_perm : ∀ l, (sortT l).Perm l
  | [] => List.Perm.refl _
  | x :: r => (insT_perm x _).trans ((sortT_perm r).cons x)
theorem insT_sorted (x : Str) : ∀ l, l.Pairwise leT → (insT x l).Pairwise leT
  | [], _ => by unfold insT; simp
  | y :: r, h => by
    unfold insT
    rw [List.pairwise_cons] at h
    split
    · rename_i q
      rw [List.pairwise_cons]
      refine ⟨fun z hz => ?_, insT_sorted x r h.2⟩
      rcases List.mem_cons.mp ((insT_perm x r).mem_iff.mp hz) with e | e
      · rw [e]; exact leT_total q
      · exact h.1 z e
    · rename_i q
      have q : leT x y := by unfold leT; simpa using q
      rw [List.pairwise_cons]
      refine ⟨fun z hz => ?_, List.pairwise_cons.mpr h⟩
      rcases List.mem_cons.mp hz with e | e
      · rw [e]; exact q
      · exact leT_trans q (h.1 z e)
theorem sortT_sorted : ∀ l, (sortT l).Pairwise leT
  | [] => List.Pairwise.nil
  | x :: r => insT_sorted x _ (sortT_sorted r)
theorem pairT_of : ∀ {l : List Str}, sortedS l = true → l.Pairwise leT
  | [], _ => List.Pairwise.nil
  | [x], _ => by simp
  | x :: y :: r, h => by
    have h : (!ltCps y.cps.toList x.cps.toList && risingS y r) = true := h
    rw [Bool.and_eq_true] at h
    have h1 : leT x y := by
      unfold leT
      simpa using h.1
    have t := pairT_of (l := y :: r) h.2
    rw [List.pairwise_cons]
    refine ⟨fun z hz => ?_, t⟩
    rw [List.pairwise_cons] at t
    rcases List.mem_cons.mp hz with e | e
    · rw [e]; exact h1
    · exact leT_trans h1 (t.1 z e)
theorem sortT_eq {a b : List Str} (p : a.Perm b) (s : sortedS a = true) : a = sortT b :=
  List.Perm.eq_of_pairwise (fun x y _ _ h1 h2 => leT_anti h1 h2) (pairT_of s) (sortT_sorted b) (p.trans (sortT_perm b).symm)

/-! the functions -/
def ints? : List PV → Option (List Int)
  | [] => some []
  | .int x :: r => (ints? r).map (x :: ·)
  | _ :: _ => none
def keysI? : List (Key × PV) → Option (List Int)
  | [] => some []
  | (.inl x, _) :: r => (keysI? r).map (x :: ·)
  | _ :: _ => none
def keysT? : List (Key × PV) → Option (List Str)
  | [] => some []
  | (.inr x, _) :: r => (keysT? r).map (x :: ·)
  | _ :: _ => none
def kP : Key → PV
  | .inl i => .int i
  | .inr x => .str x
inductive BF where
  | len | int | str | abs | tuple | list | dict | sorted | max
  deriving DecidableEq
def newL (xs : List PV) (h : Hh) : Res PV := .ok (.obj h.n) (h.push (.lst xs))
def lenF (x : PV) (h : Hh) : Res PV := match x with
  | .tup xs => .ok (.int xs.length) h
  | .str z => if z.length ≤ lim then .ok (.int z.length) h else .bad
  | .obj i => match h.lst? i with
    | some xs => .ok (.int xs.length) h
    | none => match h.dct? i with
      | some kvs => .ok (.int kvs.length) h
      | none => .bad
  | _ => .bad
def intF (x : PV) (h : Hh) : Res PV := match x with
  | .int i => .ok (.int i) h
  | .bl b => .ok (.int (if b then 1 else 0)) h
  | _ => .bad
def strF (x : PV) (h : Hh) : Res PV := match x with
  | .int i => if i.natAbs < 10 ^ 100 then .ok (.str (toString i)) h else .bad
  | _ => .bad
def absF (x : PV) (h : Hh) : Res PV := match x with
  | .int i => .ok (.int (if i < 0 then -i else i)) h
  | _ => .bad
def tupleF (x : PV) (h : Hh) : Res PV := match x with
  | .tup xs => .ok (.tup xs) h
  | .obj i => match h.lst? i with
    | some xs => .ok (.tup xs) h
    | none => .bad
  | _ => .bad
def listF (x : PV) (h : Hh) : Res PV := match x with
  | .tup xs => newL xs h
  | .obj i => match h.lst? i with
    | some xs => newL xs h
    | none => match h.dct? i with
      | some kvs => newL (kvs.map fun kv => kP kv.1) h
      | none => .bad
  | _ => .bad
def sortedF (x : PV) (h : Hh) : Res PV := match x with
  | .obj i => match h.lst? i with
    | some xs => match ints? xs with
      | some ns => newL ((sortI ns).map .int) h
      | none => match strs? xs with
        | some ss => if ss.length < 64 then newL ((sortT ss).map .str) h else .bad
        | none => .bad
    | none => match h.dct? i with
      | some kvs => match keysT? kvs with
        | some ss => if ss.length < 64 then newL ((sortT ss).map .str) h else .bad
        | none => match keysI? kvs with
          | some ns => if ns.length < 64 then newL ((sortI ns).map .int) h else .bad
          | none => .bad
      | none => .bad
  | _ => .bad
section
variable {K : PySem.W.Frag} {ca : Nat → Addr} {ρ ρ' : List Addr} {h h' : Hh} {H H' : Hp} {XX : WX'} {Q : VK}
/-- one argument -/
def one (f : PV → Hh → Res PV) (ws : List PV) (h : Hh) : Res PV := match ws with
  | [x] => f x h
  | _ => .bad
def Sound1 (K : PySem.W.Frag) (ca : Nat → Addr) (r : V → Hp → VK → Prop) (f : PV → Hh → Res PV) : Prop :=
  ∀ (XX : WX') (ρ : List Addr) (h : Hh) (H : Hp) (w : PV) (v : V) (Q : VK), Rel K ca ρ h H → RV K ρ H w v → WpQ K ca XX ρ H Q (f w h) → r v H Q
theorem sound_one {r : V → Hp → VK → Prop} {f : PV → Hh → Res PV} (s : Sound1 K ca r f) : SoundL K ca (fun vs H Q => ∃ v, vs = [v] ∧ r v H Q) (one f) := by
  intro XX ρ h H ws vs Q R r1 x
  cases ws with
  | nil => exact x.elim
  | cons w ws =>
    cases ws with
    | cons _ _ => exact x.elim
    | nil =>
      obtain ⟨v, t, rfl, q, q2⟩ := r1.inv
      rw [q2.inv0]
      exact ⟨v, rfl, s XX ρ h H w v Q R q x⟩
theorem newL_ok {xs : List PV} {vs : List V} (R : Rel K ca ρ h H) (r : RVs K ρ H xs vs) (x : WpQ K ca XX ρ H Q (newL xs h)) {p : Addr} (n : H p = none) : Q (.ref p) (upd H p (.lst vs)) := Wp.objN (o := .lst xs) R x ⟨vs, rfl, r⟩ n
theorem RVs.ofInts : ∀ ns : List Int, RVs K ρ H (ns.map .int) (ns.map V.int)
  | [] => .nil
  | n :: ns => .cons ((RV.int_ _ _).mpr rfl) (RVs.ofInts ns)
theorem RVs.ofStrs : ∀ ns : List Str, RVs K ρ H (ns.map .str) (ns.map V.str)
  | [] => .nil
  | n :: ns => .cons ((RV.str_ _ _).mpr rfl) (RVs.ofStrs ns)
theorem ints_ok : ∀ {ws : List PV} {vs : List V} {ys : List Int}, RVs K ρ H ws vs → ints? ws = some ys → vs = ys.map V.int
  | [], vs, ys, r, e => by rw [r.inv0]; cases e; rfl
  | w :: ws, vs, ys, r, e => by
    obtain ⟨v, t, rfl, q, r'⟩ := r.inv
    cases w with
    | int x =>
      have e : (ints? ws).map (x :: ·) = some ys := e
      cases q2 : ints? ws with
      | none => rw [q2] at e; cases e
      | some ys' =>
        rw [q2] at e
        cases e
        rw [RV.int_] at q
        rw [q, ints_ok r' q2]
        rfl
    | _ => cases e
theorem keysI_ok : ∀ {ws : List (Key × PV)} {vs : List (Key × V)} {ys : List Int}, RFs K ρ H ws vs → keysI? ws = some ys → vs.map (·.1) = ys.map Sum.inl
  | [], vs, ys, r, e => by have r : vs = [] := r; subst r; cases e; rfl
  | (k, w) :: ws, vs, ys, ⟨v, t, e0, q, r'⟩, e => by
    subst e0
    cases k with
    | inl x =>
      have e : (keysI? ws).map (x :: ·) = some ys := e
      cases q2 : keysI? ws with
      | none => rw [q2] at e; cases e
      | some ys' =>
        rw [q2] at e
        cases e
        rw [List.map_cons, List.map_cons, keysI_ok r' q2]
    | inr x => cases e
theorem keysT_ok : ∀ {ws : List (Key × PV)} {vs : List (Key × V)} {ys : List Str}, RFs K ρ H ws vs → keysT? ws = some ys → vs.map (·.1) = ys.map Sum.inr
  | [], vs, ys, r, e => by have r : vs = [] := r; subst r; cases e; rfl
  | (k, w) :: ws, vs, ys, ⟨v, t, e0, q, r'⟩, e => by
    subst e0
    cases k with
    | inr x =>
      have e : (keysT? ws).map (x :: ·) = some ys := e
      cases q2 : keysT? ws with
      | none => rw [q2] at e; cases e
      | some ys' =>
        rw [q2] at e
        cases e
        rw [List.map_cons, List.map_cons, keysT_ok r' q2]
    | inl x => cases e
theorem RFs.keys : ∀ {ws : List (Key × PV)} {vs : List (Key × V)}, RFs K ρ H ws vs → RVs K ρ H (ws.map fun kv => kP kv.1) (vs.map fun kv => kV kv.1)
  | [], vs, r => by have r : vs = [] := r; subst r; exact .nil
  | (k, w) :: ws, vs, ⟨v, t, e0, q, r'⟩ => by
    subst e0
    refine .cons ?_ (RFs.keys r')
    cases k with
    | inl x => exact (RV.int_ _ _).mpr rfl
    | inr x => exact (RV.str_ _ _).mpr rfl
/-! len -/
def rLenA (K : PySem.W.Frag) : V → Hp → VK → Prop := fun x H Q => (∃ n, LenV K x H n ∧ Q (.int n) H) ∨ ∃ a kvs, x = .ref a ∧ Rd H a (.dK kvs) ∧ Q (.int kvs.length) H
theorem call_lenA {X : Cx} : CallR X (.builtin "len") (fun vs H Q => ∃ v, vs = [v] ∧ rLenA X.K v H Q) := by
  intro pins s σ H xs us Q I r h
  obtain ⟨v, rfl, h | ⟨a, kvs, rfl, e, q⟩⟩ := h
  · obtain ⟨n, l, q⟩ := h
    exact call_len pins s σ H _ us Q I r ⟨v, n, rfl, l, q⟩
  · obtain ⟨u, rfl, ru⟩ := vals1 r
    cases ru
    exact d_len I e fun t s' I' => ⟨.int kvs.length, H, I', ⟨t, rfl⟩, q⟩
theorem len_sound : Sound1 K ca (rLenA K) lenF := by
  intro XX ρ h H w v Q R r x
  cases w with
  | tup xs =>
    rw [RV.tup_] at r
    obtain ⟨a, vs, rfl, s, rs⟩ := r
    exact .inl ⟨_, .inr ⟨vs, s.1, rfl⟩, by rw [← rs.length]; exact Wp.val (w := .int xs.length) R x ((RV.int_ _ _).mpr rfl)⟩
  | str z =>
    rw [RV.str_] at r
    subst r
    obtain ⟨l, x⟩ := WpQ.iff x
    exact .inl ⟨_, ⟨lim_ok l, rfl⟩, Wp.val (w := .int z.length) R x ((RV.int_ _ _).mpr rfl)⟩
  | obj i =>
    rw [RV.obj_] at r
    obtain ⟨a, ha, rfl⟩ := r
    have x : WpQ K ca XX ρ H Q (match h.lst? i with
      | some xs => .ok (.int xs.length) h
      | none => match h.dct? i with
        | some kvs => .ok (.int kvs.length) h
        | none => .bad) := x
    cases ql : h.lst? i with
    | some xs =>
      rw [ql] at x
      obtain ⟨a', vs, ha', s, rs, _⟩ := lst_get ql R
      rw [ha] at ha'; cases ha'
      exact .inl ⟨_, .inl ⟨vs, .inl s, rfl⟩, by rw [← rs.length]; exact Wp.val (w := .int xs.length) R x ((RV.int_ _ _).mpr rfl)⟩
    | none =>
      rw [ql] at x
      have x : WpQ K ca XX ρ H Q (match h.dct? i with
        | some kvs => .ok (.int kvs.length) h
        | none => .bad) := x
      split at x
      · rename_i kvs qd
        obtain ⟨a', vs, ha', hu, rk, _⟩ := dct_get qd R
        rw [ha] at ha'; cases ha'
        exact .inr ⟨a, vs, rfl, hu, by rw [← rk.length]; exact Wp.val (w := .int kvs.length) R x ((RV.int_ _ _).mpr rfl)⟩
      · exact x.elim
  | _ => exact x.elim
theorem int_sound : Sound1 K ca (fun v H Q => (∃ i, v = .int i ∧ Q (.int i) H) ∨ ∃ k, v = .bl k ∧ Q (.int (if k then 1 else 0)) H) intF := by
  intro XX ρ h H w v Q R r x
  cases w with
  | int i => rw [RV.int_] at r; exact .inl ⟨i, r, Wp.val (w := .int i) R x ((RV.int_ _ _).mpr rfl)⟩
  | bl b => rw [RV.bl_] at r; exact .inr ⟨b, r, Wp.val (w := .int _) R x ((RV.int_ _ _).mpr rfl)⟩
  | _ => exact x.elim
theorem call_intA {X : Cx} : CallR X (.type "int") (fun vs H Q => ∃ v, vs = [v] ∧ ((∃ i, v = .int i ∧ Q (.int i) H) ∨ ∃ k, v = .bl k ∧ Q (.int (if k then 1 else 0)) H)) := by
  intro pins s σ H xs us Q I r h
  obtain ⟨v, rfl, ⟨i, rfl, q⟩ | ⟨k, rfl, q⟩⟩ := h
  · exact call_int1 pins s σ H _ us Q I r (.inl ⟨i, rfl, q⟩)
  · exact call_int1 pins s σ H _ us Q I r (.inr ⟨k, rfl, q⟩)
theorem log_lt {n : Nat} (e : n < 10 ^ 100) : n.log2 < 1920 := by
  by_cases z : n = 0
  · subst z; decide
  · rw [Nat.log2_lt z]
    exact Nat.lt_of_lt_of_le e (by decide +kernel)
theorem str_sound : Sound1 K ca (fun v H Q => ∃ i : Int, v = .int i ∧ i.natAbs.log2 < 1920 ∧ Q (.str (toString i)) H) strF := by
  intro XX ρ h H w v Q R r x
  cases w with
  | int i =>
    rw [RV.int_] at r
    obtain ⟨l, x⟩ := WpQ.iff x
    exact ⟨i, r, log_lt l, Wp.val (w := .str _) R x ((RV.str_ _ _).mpr rfl)⟩
  | _ => exact x.elim
theorem call_strA {X : Cx} : CallR X (.type "str") (fun vs H Q => ∃ v, vs = [v] ∧ ∃ i : Int, v = .int i ∧ i.natAbs.log2 < 1920 ∧ Q (.str (toString i)) H) := by
  intro pins s σ H xs us Q I r h
  obtain ⟨v, rfl, i, rfl, l, q⟩ := h
  exact call_str_int pins s σ H _ us Q I r ⟨i, rfl, l, q⟩
theorem abs_sound : Sound1 K ca (fun v H Q => ∃ i : Int, v = .int i ∧ Q (.int (if i < 0 then -i else i)) H) absF := by
  intro XX ρ h H w v Q R r x
  cases w with
  | int i => rw [RV.int_] at r; exact ⟨i, r, Wp.val (w := .int _) R x ((RV.int_ _ _).mpr rfl)⟩
  | _ => exact x.elim
theorem call_absA {X : Cx} : CallR X (.builtin "abs") (fun vs H Q => ∃ v, vs = [v] ∧ ∃ i : Int, v = .int i ∧ Q (.int (if i < 0 then -i else i)) H) := by
  intro pins s σ H xs us Q I r h
  obtain ⟨v, rfl, i, rfl, q⟩ := h
  exact call_abs pins s σ H _ us Q I r ⟨i, rfl, q⟩
/-- tuple(l): what is made is known to the last -/
theorem call_tupF {X : Cx} : CallR X (.type "tuple") (fun xs H Q => ∃ p ys, xs = [.ref p] ∧ SqL X.K H p ys ∧ ∀ l ob, H l = none → ob.dict = none → Q (.ref l) (upd H l (.frz ob (.tup ys)))) := by
  rintro pins s σ H xs us Q I r ⟨p, ys, rfl, hq, q⟩
  obtain ⟨u, rfl, rx⟩ := vals1 r
  cases rx
  obtain ⟨its, r', pl, hz⟩ := I.list hq
  have hlen := r'.length
  refine call_tuple_list pl.isList (fun h' kp => ?_) (by simp only [List.size_toArray] <;> omega)
  have I1 : Inv X pins σ H { s with heap := h' } := I.kept (t' := s.toks) kp
  exact ⟨.ref h'.objs.size, _, I1.laid (t' := s.toks) (o := .frz _ (.tup ys)) (fun b o e => Heap.get?_push_of_some _ e) (Nat.le_refl _) ⟨Heap.get?_push_size _ rfl, hz, its, r', IsTup.new _ _⟩, rfl, q _ _ (I1.hok.fresh (Nat.le_refl _)) rfl⟩
def rTupA (K : PySem.W.Frag) : V → Hp → VK → Prop := fun v H Q => (∃ p ys, v = .ref p ∧ SqL K H p ys ∧ ∀ l ob, H l = none → ob.dict = none → Q (.ref l) (upd H l (.frz ob (.tup ys)))) ∨ ∃ p ys, v = .ref p ∧ SqT K H p ys ∧ Q (.ref p) H
theorem tuple_sound : Sound1 K ca (rTupA K) tupleF := by
  intro XX ρ h H w v Q R r x
  cases w with
  | tup xs =>
    have r' := r
    rw [RV.tup_] at r
    obtain ⟨a, vs, rfl, s, rs⟩ := r
    exact .inr ⟨a, vs, rfl, s.1, Wp.val (w := .tup xs) R x r'⟩
  | obj i =>
    rw [RV.obj_] at r
    obtain ⟨a, ha, rfl⟩ := r
    have x : WpQ K ca XX ρ H Q (match h.lst? i with
      | some xs => .ok (.tup xs) h
      | none => .bad) := x
    cases ql : h.lst? i with
    | some xs =>
      rw [ql] at x
      obtain ⟨a', vs, ha', s, rs, _⟩ := lst_get ql R
      rw [ha] at ha'; cases ha'
      exact .inl ⟨a, vs, rfl, .inl s, fun l ob n d => Wp.tupF R x rs n d⟩
    | none => rw [ql] at x; exact x.elim
  | _ => exact x.elim
theorem call_tupA {X : Cx} : CallR X (.type "tuple") (fun vs H Q => ∃ v, vs = [v] ∧ rTupA X.K v H Q) := by
  intro pins s σ H xs us Q I r h
  rcases h with ⟨v, rfl, ⟨p, ys, rfl, h⟩ | ⟨p, ys, rfl, h⟩⟩
  · exact call_tupF pins s σ H _ us Q I r ⟨p, ys, rfl, h⟩
  · exact call_tuple_of pins s σ H _ us Q I r ⟨p, ys, rfl, .inr h⟩
def rLstA (K : PySem.W.Frag) : V → Hp → VK → Prop := fun v H Q => (∃ p ys, v = .ref p ∧ (SqL K H p ys ∨ SqT K H p ys) ∧ ∀ l, H l = none → Q (.ref l) (upd H l (.lst ys))) ∨
  ∃ (a : Addr) (kvs : List (Key × V)), v = .ref a ∧ Rd H a (.dK kvs) ∧ ∀ p, H p = none → Q (.ref p) (upd H p (.lst (kvs.map fun kv => kV kv.1)))
theorem list_sound : Sound1 K ca (rLstA K) listF := by
  intro XX ρ h H w v Q R r x
  cases w with
  | tup xs =>
    rw [RV.tup_] at r
    obtain ⟨a, vs, rfl, s, rs⟩ := r
    exact .inl ⟨a, vs, rfl, .inr s.1, fun l n => newL_ok R rs x n⟩
  | obj i =>
    rw [RV.obj_] at r
    obtain ⟨a, ha, rfl⟩ := r
    have x : WpQ K ca XX ρ H Q (match h.lst? i with
      | some xs => newL xs h
      | none => match h.dct? i with
        | some kvs => newL (kvs.map fun kv => kP kv.1) h
        | none => .bad) := x
    cases ql : h.lst? i with
    | some xs =>
      rw [ql] at x
      obtain ⟨a', vs, ha', s, rs, _⟩ := lst_get ql R
      rw [ha] at ha'; cases ha'
      exact .inl ⟨a, vs, rfl, .inl (.inl s), fun l n => newL_ok R rs x n⟩
    | none =>
      rw [ql] at x
      have x : WpQ K ca XX ρ H Q (match h.dct? i with
        | some kvs => newL (kvs.map fun kv => kP kv.1) h
        | none => .bad) := x
      cases qd : h.dct? i with
      | none => rw [qd] at x; exact x.elim
      | some kvs =>
        rw [qd] at x
        obtain ⟨a', vs, ha', s, rk, _⟩ := dct_get qd R
        rw [ha] at ha'; cases ha'
        exact .inr ⟨a, vs, rfl, s, fun l n => newL_ok R rk.keys x n⟩
  | _ => exact x.elim
theorem call_lstA {X : Cx} (hc : X.calm = true) : CallR X (.type "list") (fun vs H Q => ∃ v, vs = [v] ∧ rLstA X.K v H Q) := by
  intro pins s σ H xs us Q I r h
  obtain ⟨v, rfl, ⟨p, ys, rfl, e, h⟩ | ⟨a, kvs, rfl, e, h⟩⟩ := h
  · exact call_list_of pins s σ H _ us Q I r ⟨p, ys, rfl, e, h⟩
  · exact call_listD hc pins s σ H _ us Q I r ⟨a, kvs, rfl, e, h⟩
def rSrtA (K : PySem.W.Frag) : V → Hp → VK → Prop := fun v H Q => rSortedI K [v] H Q ∨ rSortedS K [v] H Q ∨
  (∃ (a : Addr) (kvs : List (Key × V)) (ks : List Str), v = .ref a ∧ Rd H a (.dK kvs) ∧ kvs.map (·.1) = ks.map Sum.inr ∧ ks.length < 64 ∧ ∀ ys p, ys.Perm ks → sortedS ys = true → H p = none → Q (.ref p) (upd H p (.lst (ys.map V.str)))) ∨
  ∃ (a : Addr) (kvs : List (Key × V)) (ks : List Int), v = .ref a ∧ Rd H a (.dK kvs) ∧ kvs.map (·.1) = ks.map Sum.inl ∧ ks.length < 64 ∧ ∀ (ys : List Int) (p : Addr), ys.Perm ks → ys.Pairwise (· ≤ ·) → H p = none → Q (.ref p) (upd H p (.lst (ys.map V.int)))
theorem sorted_sound : Sound1 K ca (rSrtA K) sortedF := by
  intro XX ρ h H w v Q R r x
  cases w with
  | obj i =>
    rw [RV.obj_] at r
    obtain ⟨a, ha, rfl⟩ := r
    unfold sortedF at x
    dsimp only at x
    cases ql : h.lst? i with
    | some xs =>
      rw [ql] at x
      obtain ⟨a', vs, ha', s, rs, _⟩ := lst_get ql R
      rw [ha] at ha'; cases ha'
      dsimp only at x
      cases qi : ints? xs with
      | some ns =>
        rw [qi] at x
        have ev := ints_ok rs qi
        subst ev
        refine .inl ⟨a, ns, rfl, .inl s, fun ns' p hp hs n => ?_⟩
        have e := sortI_eq hp hs
        subst e
        exact newL_ok R (RVs.ofInts _) x n
      | none =>
        rw [qi] at x
        dsimp only at x
        cases qt : strs? xs with
        | none => rw [qt] at x; exact x.elim
        | some ss =>
          rw [qt] at x
          have ev := strs_ok rs qt
          subst ev
          obtain ⟨l, x⟩ := WpQ.iff x
          refine .inr (.inl ⟨a, ss, rfl, .inl s, l, fun ns' p hp hs n => ?_⟩)
          have e := sortT_eq hp hs
          subst e
          exact newL_ok R (RVs.ofStrs _) x n
    | none =>
      rw [ql] at x
      dsimp only at x
      cases qd : h.dct? i with
      | none => rw [qd] at x; exact x.elim
      | some kvs =>
        rw [qd] at x
        obtain ⟨a', vs, ha', s, rk, _⟩ := dct_get qd R
        rw [ha] at ha'; cases ha'
        dsimp only at x
        cases qt : keysT? kvs with
        | some ss =>
          rw [qt] at x
          obtain ⟨l, x⟩ := WpQ.iff x
          refine .inr (.inr (.inl ⟨a, vs, ss, rfl, s, keysT_ok rk qt, l, fun ns' p hp hs n => ?_⟩))
          have e := sortT_eq hp hs
          subst e
          exact newL_ok R (RVs.ofStrs _) x n
        | none =>
          rw [qt] at x
          dsimp only at x
          cases qi : keysI? kvs with
          | none => rw [qi] at x; exact x.elim
          | some ns =>
            rw [qi] at x
            obtain ⟨l, x⟩ := WpQ.iff x
            refine .inr (.inr (.inr ⟨a, vs, ns, rfl, s, keysI_ok rk qi, l, fun ns' p hp hs n => ?_⟩))
            have e := sortI_eq hp hs
            subst e
            exact newL_ok R (RVs.ofInts _) x n
  | _ => exact x.elim
theorem call_srtA {X : Cx} (hc : X.calm = true) : CallR X (.builtin "sorted") (fun vs H Q => ∃ v, vs = [v] ∧ rSrtA X.K v H Q) := by
  intro pins s σ H xs us Q I r h
  obtain ⟨v, rfl, h | h | ⟨a, kvs, ks, rfl, h⟩ | ⟨a, kvs, ks, rfl, h⟩⟩ := h
  · exact cr_sortedI pins s σ H _ us Q I r h
  · exact cr_sortedS pins s σ H _ us Q I r h
  · exact call_sortedD hc pins s σ H _ us Q I r ⟨a, kvs, ks, rfl, h⟩
  · exact call_sortedDI hc pins s σ H _ us Q I r ⟨a, kvs, ks, rfl, h⟩
end
end DD
set_option Elab.async false
set_option linter.all false
set_option maxRecDepth 100000
set_option maxHeartbeats 4000000
/-! DHV: list(d.values()); max of a list. -/
namespace DD
open PySem PySem.Spec PyProof.Rows L2
def rValsL : V → Hp → VK → Prop := fun x H Q => ∃ (d : Addr) (kvs : List (Key × V)), x = .ref d ∧ Rd H d (.dK kvs) ∧ ∀ p, H p = none → Q (.ref p) (upd H p (.lst (kvs.map (·.2))))
def tListVals (te : TE) : TE := fun σ H Q => te σ H fun x H1 => rValsL x H1 Q
section
variable {X : Cx} {e : Expr} {te : TE} {p apos cpos pos : Pos}
theorem pe_listVals (hc : X.calm = true) (he : PE X e te) (hg : Gl X "list") (hm : X.mg "list" = none) (hbase : attributeBase e "values" X.env (eval e X.env) = eval e X.env) (hline : (apos.endLine == cpos.line) = true)
    (hs : starEach [.Call (.Attribute e "values" apos) [] [] cpos] X.env = (false, eval (.Call (.Attribute e "values" apos) [] [] cpos) X.env) :: starEach [] X.env := by rfl) :
    PE X (.Call (.Name "list" p) [.Call (.Attribute e "values" apos) [] [] cpos] [] pos) (tListVals te) := by
  refine ⟨fun pins s σ H Q I hq => ?_⟩
  refine wpAny_Call_Name_kw (ld_blt I hg hm (show bootBuiltins "list" = some (.type "list") by rfl) ?_)
  refine PyProof.Rows.callWith_type1 ?_ hs rfl
  rw [hs]
  show wpAny _ _ (spliced ((false, eval (.Call (.Attribute e "values" apos) [] [] cpos) X.env) :: backTo pos (starEach [] X.env))) _ _ s
  refine Calls.spliced_cons ?_
  refine wpAny_Call_method (T := "dict") (id := "dict.values") hbase rfl hline F.plainAttrs_dict F.slot_dict_values F.type_dict_values (thn (he.run pins s σ H _ I hq) fun u s1 ⟨x, H1, I1, rx, d, kvs, ex, hd, q⟩ => ?_)
  subst ex
  obtain rfl : u = Value.ref d := rx
  obtain ⟨hz, hs0, vs, kv, hdo⟩ := dk_rd I1.hok hd
  obtain ⟨ep, hat⟩ := hdo.dictAt
  have lk : kvs.length = vs.length := Paired.length kv
  have I2 : Inv X pins σ H1 { s1 with heap := s1.heap.push { cls := .type "dict_values", data := .fields #[.ref d] } } := I1.kept (t' := s1.toks) fun b ob q => Heap.get?_push_of_some _ q
  refine ⟨hdo.typeIs, hdo.mapOf.noDict, ?_⟩
  show wpAny _ _ (callWith cpos (.builtin "dict.values") [.ref d] [] []) _ X.xe s1
  refine method_meetsIn F.slot_dict_values F.entry_dict_values rfl (PySem.evalArgs_none ⟨rfl, hdo.typeIs, F.args_dict_values_1 _, _, meets_dict_values (mixKind X.prog X.w) d hs0, ⟨vs, hdo⟩, ?_⟩)
  refine Calls.spliced_nil ?_
  refine PySem.W.kdl_call (PySem.W.kdl_values (knd := mixKind X.prog X.w) (kvs := vs) (ep := ep) (d := d) (r := s1.heap.objs.size)) (I1.ok.hd hc) ⟨⟨_, Heap.get?_push_size _ rfl, rfl, rfl⟩, hat.push _⟩ (by omega) fun h' tk acc c hk hS hacc => ?_
  have rv : Vals (kvs.map (·.2)) acc.toList := by
    refine L2.vals_of_at (by have := hacc.1; simp only [List.length_map, Array.length_toList]; omega) fun j x u ex eu => ?_
    rw [List.getElem?_map] at ex
    cases eq : kvs[j]? with
    | none => rw [eq] at ex; cases ex
    | some kv0 =>
      rw [eq] at ex
      cases ex
      obtain ⟨w0, g1, g2, g3⟩ := LiI.paired_get kv eq
      obtain ⟨k0, g4⟩ := hacc.2 j u (by rw [← Array.getElem?_toList]; exact eu)
      rw [g1] at g4
      cases g4
      exact g3
  have J := I2.laid (a := (s1.heap.push { cls := .type "dict_values", data := .fields #[.ref d] }).objs.size) (o := .lst (kvs.map (·.2))) (h' := h') (t' := tk) (fun b o q => hk b o q) (Nat.le_refl _) ⟨by rw [List.length_map]; exact hz, acc.toList, c, rv, by rw [Array.toArray_toList]; exact hS⟩
  exact ⟨.ref _, _, J, rfl, q _ (I2.hok.fresh (Nat.le_refl _))⟩
end
variable [Ups]
def valsF (x : PV) (h : Hh) : Res PV := match x with
  | .obj i => match h.dct? i with
    | some kvs => newL (kvs.map (·.2)) h
    | none => .bad
  | _ => .bad
def eLVals (f : SE) : SE := fun τ h => (f τ h).bind valsF
def maxI : List Int → Int
  | [] => 0
  | [x] => x
  | x :: y :: r => max x (maxI (y :: r))
def maxF (x : PV) (h : Hh) : Res PV := match x with
  | .obj i => match h.lst? i with
    | some xs => match ints? xs with
      | some (n :: ns) => .ok (.int (maxI (n :: ns))) h
      | _ => .bad
    | none => .bad
  | _ => .bad
theorem maxI_mem : ∀ (x : Int) (l : List Int), maxI (x :: l) ∈ x :: l ∧ ∀ y ∈ x :: l, y ≤ maxI (x :: l)
  | x, [] => ⟨by simp [maxI], by simp [maxI]⟩
  | x, y :: r => by
    obtain ⟨a, b⟩ := maxI_mem y r
    show max x (maxI (y :: r)) ∈ _ ∧ ∀ z ∈ _, z ≤ max x (maxI (y :: r))
    refine ⟨?_, fun z hz => ?_⟩
    · by_cases h : x ≤ maxI (y :: r)
      · rw [Int.max_eq_right h]; exact List.mem_cons_of_mem _ a
      · rw [Int.max_eq_left (by omega)]; exact List.mem_cons_self
    · rcases List.mem_cons.mp hz with e | e
      · subst e; exact Int.le_max_left _ _
      · exact Int.le_trans (b z e) (Int.le_max_right _ _)
section
variable {X : Cx} {ca : Nat → Addr} {W : WX} {e : Expr} {fe : SE} {p apos cpos pos : Pos}
theorem rvs_vals {K : PySem.W.Frag} {ρ : List Addr} {H : Hp} : ∀ {kvs : List (Key × PV)} {vs : List (Key × V)}, RFs K ρ H kvs vs → RVs K ρ H (kvs.map (·.2)) (vs.map (·.2))
  | [], vs, r => by
    have r : vs = [] := r
    subst r
    exact .nil
  | (k, x) :: kvs, vs, ⟨v, t, e, rx, rt⟩ => by
    subst e
    exact .cons rx (rvs_vals rt)
theorem pe_eLVals (hc : X.calm = true) (he : PE X e (tD X.K ca W fe)) (hg : Gl X "list") (hm : X.mg "list" = none) (hbase : attributeBase e "values" X.env (eval e X.env) = eval e X.env) (hline : (apos.endLine == cpos.line) = true) :
    PE X (.Call (.Name "list" p) [.Call (.Attribute e "values" apos) [] [] cpos] [] pos) (tD X.K ca W (eLVals fe)) :=
  pe_of (pe_listVals hc he hg hm hbase hline) fun σ H Q ρ τ h R T x => tD.fst R T x fun w h1 ρ1 H1 v e1 R1 T1 r x1 => by
    cases w with
    | obj i =>
      rw [RV.obj_] at r
      obtain ⟨a, ha, rfl⟩ := r
      have x1 : WpQ X.K ca (XW X.K ca W σ) ρ1 H1 Q (match h1.dct? i with
        | some kvs => newL (kvs.map (·.2)) h1
        | none => .bad) := x1
      cases q : h1.dct? i with
      | none => rw [q] at x1; exact x1.elim
      | some kvs =>
        rw [q] at x1
        obtain ⟨a', vs, ha', s, rk, _⟩ := dct_get q R1
        rw [ha] at ha'; cases ha'
        exact ⟨a, vs, rfl, s, fun p n => Wp.objN (o := .lst (kvs.map (·.2))) R1 x1 ⟨_, rfl, rvs_vals rk⟩ n⟩
    | _ => exact x1.elim
end
section
variable {K : PySem.W.Frag} {ca : Nat → Addr}
def rMaxA (K : PySem.W.Frag) : V → Hp → VK → Prop := fun v H Q => ∃ (a : Addr) (ns : List Int), v = .ref a ∧ SqL K H a (ns.map V.int) ∧ 0 < ns.length ∧ ∀ m, m ∈ ns → (∀ y, y ∈ ns → y ≤ m) → Q (.int m) H
theorem max_sound : Sound1 K ca (rMaxA K) maxF := by
  intro XX ρ h H w v Q R r x
  cases w with
  | obj i =>
    rw [RV.obj_] at r
    obtain ⟨a, ha, rfl⟩ := r
    unfold maxF at x
    dsimp only at x
    cases ql : h.lst? i with
    | none => rw [ql] at x; exact x.elim
    | some xs =>
      rw [ql] at x
      obtain ⟨a', vs, ha', s, rs, _⟩ := lst_get ql R
      rw [ha] at ha'; cases ha'
      dsimp only at x
      cases qi : ints? xs with
      | none => rw [qi] at x; exact x.elim
      | some ns =>
        rw [qi] at x
        have ev := ints_ok rs qi
        subst ev
        cases ns with
        | nil => exact x.elim
        | cons n ns =>
          obtain ⟨m1, m2⟩ := maxI_mem n ns
          refine ⟨a, n :: ns, rfl, .inl s, Nat.succ_pos _, fun m hm hy => ?_⟩
          have e : m = maxI (n :: ns) := Int.le_antisymm (m2 m hm) (hy _ m1)
          subst e
          exact Wp.val (w := .int _) R x ((RV.int_ _ _).mpr rfl)
  | _ => exact x.elim
end
theorem call_maxA {X : Cx} (hc : X.calm = true) : CallR X (.builtin "max") (fun vs H Q => ∃ v, vs = [v] ∧ rMaxA X.K v H Q) := by
  intro pins s σ H xs us Q I r h
  obtain ⟨v, rfl, a, ns, rfl, s', l, q⟩ := h
  exact cr_max hc pins s σ H _ us Q I r ⟨a, ns, rfl, s', l, q⟩
end DD
set_option Elab.async false
set_option linter.all false
set_option maxRecDepth 100000
set_option maxHeartbeats 4000000
/-! DJ: statements. -/
namespace DD
open PySem PySem.Spec PyProof.Rows L2
variable [Ups]

inductive RS where
  | nx (τ : Env') (h : Hh) | rt (w : PV) (h : Hh) | bk (τ : Env') (h : Hh) | ct (τ : Env') (h : Hh)
  | exc (c : Nat) (fs : List (Str × PV)) (τ : Env') (h : Hh) | bad
abbrev SS := Env' → Hh → RS
def Res.st {α : Type} (τ : Env') : Res α → (α → Hh → RS) → RS
  | .ok a h, k => k a h
  | .exc c fs h, _ => .exc c fs τ h
  | .bad, _ => .bad
def RS.seq : RS → SS → RS
  | .nx τ h, t => t τ h
  | r, _ => r
section
variable (K : PySem.W.Frag) (ca : Nat → Addr) (W : WX)
def WpS (ρ : List Addr) (H : Hp) (D : Ends) : RS → Prop
  | .nx τ h => ∀ ρ' H' σ', Ext ρ H ρ' H' → Rel K ca ρ' h H' → EnvR K ρ' H' τ σ' → D.nx σ' H'
  | .rt w h => ∀ ρ' H' v, Ext ρ H ρ' H' → Rel K ca ρ' h H' → RV K ρ' H' w v → D.rt v H'
  | .bk τ h => ∀ ρ' H' σ', Ext ρ H ρ' H' → Rel K ca ρ' h H' → EnvR K ρ' H' τ σ' → D.bk σ' H'
  | .ct τ h => ∀ ρ' H' σ', Ext ρ H ρ' H' → Rel K ca ρ' h H' → EnvR K ρ' H' τ σ' → D.ct σ' H'
  | .exc c fs τ h => ∀ ρ' H' σ', Ext ρ H ρ' H' → Rel K ca ρ' h H' → EnvR K ρ' H' τ σ' → XW K ca W σ' c fs h ρ' H'
  | .bad => False
def tS (s : SS) : TS := fun D σ H => ∃ ρ τ h, Rel K ca ρ h H ∧ EnvR K ρ H τ σ ∧ WpS K ca W ρ H D (s τ h)
end
section
variable {X : Cx} {K : PySem.W.Frag} {ca : Nat → Addr} {W : WX} {σ : L2.St} {ρ ρ1 : List Addr} {τ : Env'} {h : Hh} {H H1 : Hp} {D D' : Ends}
theorem WpS.ext {r : RS} (E : Ext ρ H ρ1 H1) (x : WpS K ca W ρ H D r) : WpS K ca W ρ1 H1 D r := by
  cases r with
  | nx τ h => exact fun ρ' H' σ' e => x ρ' H' σ' (E.trans e)
  | rt w h => exact fun ρ' H' v e => x ρ' H' v (E.trans e)
  | bk τ h => exact fun ρ' H' σ' e => x ρ' H' σ' (E.trans e)
  | ct τ h => exact fun ρ' H' σ' e => x ρ' H' σ' (E.trans e)
  | exc c fs τ h => exact fun ρ' H' σ' e => x ρ' H' σ' (E.trans e)
  | bad => exact x
/-- other ends -/
theorem WpS.imp {r : RS} (x : WpS K ca W ρ H D r) (n : ∀ τ h ρ' H' σ', Ext ρ H ρ' H' → Rel K ca ρ' h H' → EnvR K ρ' H' τ σ' → r = .nx τ h → D.nx σ' H' → D'.nx σ' H') (rt : ∀ v H', D.rt v H' → D'.rt v H')
    (b : ∀ σ' H', D.bk σ' H' → D'.bk σ' H') (c : ∀ τ h ρ' H' σ', Ext ρ H ρ' H' → Rel K ca ρ' h H' → EnvR K ρ' H' τ σ' → r = .ct τ h → D.ct σ' H' → D'.ct σ' H') : WpS K ca W ρ H D' r := by
  cases r with
  | nx τ h => exact fun ρ' H' σ' e R T => n τ h ρ' H' σ' e R T rfl (x ρ' H' σ' e R T)
  | rt w h => exact fun ρ' H' v e R q => rt _ _ (x ρ' H' v e R q)
  | bk τ h => exact fun ρ' H' σ' e R T => b _ _ (x ρ' H' σ' e R T)
  | ct τ h => exact fun ρ' H' σ' e R T => c τ h ρ' H' σ' e R T rfl (x ρ' H' σ' e R T)
  | exc c fs τ h => exact x
  | bad => exact x
theorem WpS.seq {r : RS} {t : SS} (x : WpS K ca W ρ H D (r.seq t)) : WpS K ca W ρ H { D with nx := tS K ca W t D } r := by
  cases r with
  | nx τ h => exact fun ρ' H' σ' e R T => ⟨ρ', τ, h, R, T, WpS.ext e x⟩
  | rt w h => exact x
  | bk τ h => exact x
  | ct τ h => exact x
  | exc c fs τ h => exact x
  | bad => exact x
theorem WpS.nxt (R : Rel K ca ρ h H) (T : EnvR K ρ H τ σ) (x : WpS K ca W ρ H D (.nx τ h)) : D.nx σ H := x ρ H σ (Ext.refl _ _) R T
/-- the part of a statement that is an evaluation -/
theorem Wp.st {α β : Type} {RA : List Addr → Hp → α → β → Prop} {r : Res α} {k : α → Hh → RS} (T : EnvR K ρ H τ σ) (R : Rel K ca ρ h H) (x : WpS K ca W ρ H D (r.st τ k)) :
    Wp K ca RA (XW K ca W σ) ρ H (fun w h1 ρ1 H1 _ => WpS K ca W ρ1 H1 D (k w h1)) r := by
  cases r with
  | ok w h' => exact fun ρ' H' v e _ _ => WpS.ext e x
  | exc c fs h' => exact fun ρ' H' e R' => x ρ' H' σ e R' (EnvR.ext R e T)
  | bad => exact x
theorem tD.st {f : SE} {k : PV → Hh → RS} (R : Rel K ca ρ h H) (T : EnvR K ρ H τ σ) (x : WpS K ca W ρ H D ((f τ h).st τ k)) {P : V → Hp → Prop}
    (g : ∀ w h1 ρ1 H1 v, Ext ρ H ρ1 H1 → Rel K ca ρ1 h1 H1 → EnvR K ρ1 H1 τ σ → RV K ρ1 H1 w v → WpS K ca W ρ1 H1 D (k w h1) → P v H1) : tD K ca W f σ H P :=
  ⟨ρ, τ, h, R, T, (Wp.st (RA := RV K) T R x).imp fun w h1 ρ1 H1 v e R1 r x1 => g w h1 ρ1 H1 v e R1 (EnvR.ext R e T) r x1⟩
theorem tDT.st {f : ST} {k : Bool → Hh → RS} (R : Rel K ca ρ h H) (T : EnvR K ρ H τ σ) (x : WpS K ca W ρ H D ((f τ h).st τ k)) {P : Bool → Hp → Prop}
    (g : ∀ b h1 ρ1 H1, Ext ρ H ρ1 H1 → Rel K ca ρ1 h1 H1 → EnvR K ρ1 H1 τ σ → WpS K ca W ρ1 H1 D (k b h1) → P b H1) : tDT K ca W f σ H P :=
  ⟨ρ, τ, h, R, T, (Wp.st (RA := fun _ _ (a b : Bool) => b = a) T R x).imp fun w h1 ρ1 H1 v e R1 r x1 => by rw [r]; exact g w h1 ρ1 H1 e R1 (EnvR.ext R e T) x1⟩
theorem tDL.st {f : SL} {k : List PV → Hh → RS} (R : Rel K ca ρ h H) (T : EnvR K ρ H τ σ) (x : WpS K ca W ρ H D ((f τ h).st τ k)) {P : List V → Hp → Prop}
    (g : ∀ w h1 ρ1 H1 v, Ext ρ H ρ1 H1 → Rel K ca ρ1 h1 H1 → EnvR K ρ1 H1 τ σ → RVs K ρ1 H1 w v → WpS K ca W ρ1 H1 D (k w h1) → P v H1) : tDL K ca W f σ H P :=
  ⟨ρ, τ, h, R, T, (Wp.st (RA := RVs K) T R x).imp fun w h1 ρ1 H1 v e R1 r x1 => g w h1 ρ1 H1 v e R1 (EnvR.ext R e T) r x1⟩
theorem ps_of {s : Stmt} {t : TS} {f : SS} (p : PS X s t) (i : ∀ D σ H ρ τ h, Rel K ca ρ h H → EnvR K ρ H τ σ → WpS K ca W ρ H D (f τ h) → t D σ H) : PS X s (tS K ca W f) :=
  ⟨fun pins s σ H D I ⟨ρ, τ, h, R, T, x⟩ => p.run pins s σ H D I (i D σ H ρ τ h R T x)⟩
theorem pss_of {s : List Stmt} {t : TS} {f : SS} (p : PSs X s t) (i : ∀ D σ H ρ τ h, Rel K ca ρ h H → EnvR K ρ H τ σ → WpS K ca W ρ H D (f τ h) → t D σ H) : PSs X s (tS K ca W f) :=
  ⟨fun pins s σ H D I ⟨ρ, τ, h, R, T, x⟩ => p.run pins s σ H D I (i D σ H ρ τ h R T x)⟩
end
/-! ### plain statements -/
def sBad : SS := fun _ _ => .bad
def sNil : SS := .nx
def sSeq (s t : SS) : SS := fun τ h => (s τ h).seq t
def sBrk : SS := .bk
def sCnt : SS := .ct
def sDrop (f : SE) : SS := fun τ h => (f τ h).st τ fun _ h => .nx τ h
def sRet (f : SE) : SS := fun τ h => (f τ h).st τ fun w h => .rt w h
def sRetN : SS := fun _ h => .rt .non h
def sIf (c : ST) (s t : SS) : SS := fun τ h => (c τ h).st τ fun b h => if b = true then s τ h else t τ h
section
variable {X : Cx} {ca : Nat → Addr} {W : WX} {pos pos' : Pos} {s : Stmt} {ss ss' : List Stmt} {e c : Expr} {f : SE} {fc : ST} {a b : SS}
theorem ps_sBad : PS X s (tS X.K ca W sBad) := ⟨fun _ _ _ _ _ _ ⟨_, _, _, _, _, x⟩ => x.elim⟩
theorem pss_sBad : PSs X ss (tS X.K ca W sBad) := ⟨fun _ _ _ _ _ _ ⟨_, _, _, _, _, x⟩ => x.elim⟩
theorem pss_sNil : PSs X [] (tS X.K ca W sNil) := pss_of pss_nil fun D σ H ρ τ h R T x => WpS.nxt R T x
theorem pss_sSeq (p : PS X s (tS X.K ca W a)) (q : PSs X ss (tS X.K ca W b)) : PSs X (s :: ss) (tS X.K ca W (sSeq a b)) := pss_of (pss_cons p q) fun D σ H ρ τ h R T x => ⟨ρ, τ, h, R, T, x.seq⟩
theorem ps_sPass : PS X (.Pass pos) (tS X.K ca W sNil) := ps_of ps_pass fun D σ H ρ τ h R T x => WpS.nxt R T x
theorem ps_sDoc {x : Str} {j} : PS X (.Expr (.Constant (.str x) j pos) pos') (tS X.K ca W sNil) := ps_of ps_doc fun D σ H ρ τ h R T x => WpS.nxt R T x
theorem ps_sBrk : PS X (.Break pos) (tS X.K ca W sBrk) := ps_of ps_break fun D σ H ρ τ h R T x => x ρ H σ (Ext.refl _ _) R T
theorem ps_sCnt : PS X (.Continue pos) (tS X.K ca W sCnt) := ps_of ps_continue fun D σ H ρ τ h R T x => x ρ H σ (Ext.refl _ _) R T
theorem ps_sDrop (p : PE X e (tD X.K ca W f)) (hs : swapsWith e none pos.line X.env = pure false) : PS X (.Expr e pos) (tS X.K ca W (sDrop f)) :=
  ps_of (ps_expr p hs) fun D σ H ρ τ h R T x => tD.st R T x fun w h1 ρ1 H1 v e1 R1 T1 r x1 => WpS.nxt R1 T1 x1
theorem ps_sRet (p : PE X e (tD X.K ca W f)) : PS X (.Return (some e) pos) (tS X.K ca W (sRet f)) :=
  ps_of (ps_ret p) fun D σ H ρ τ h R T x => tD.st R T x fun w h1 ρ1 H1 v e1 R1 T1 r x1 => x1 ρ1 H1 v (Ext.refl _ _) R1 r
theorem ps_sRetN : PS X (.Return none pos) (tS X.K ca W sRetN) := ps_of ps_retN fun D σ H ρ τ h R T x => x ρ H .non (Ext.refl _ _) R ((RV.non_ _).mpr rfl)
theorem ps_sIf (p : PT X c (tDT X.K ca W fc)) (q : PSs X ss (tS X.K ca W a)) (r : PSs X ss' (tS X.K ca W b)) : PS X (.If c ss ss' pos) (tS X.K ca W (sIf fc a b)) :=
  ps_of (ps_if p q r) fun D σ H ρ τ h R T x => tDT.st R T x fun d h1 ρ1 H1 e1 R1 T1 x1 => by
    cases d with
    | true => exact ⟨ρ1, τ, h1, R1, T1, x1⟩
    | false => exact ⟨ρ1, τ, h1, R1, T1, x1⟩
end
/-! ### while, with fuel -/
def sWhile : Nat → ST → SS → SS
  | 0, _, _ => fun _ _ => .bad
  | n + 1, c, s => fun τ h => (c τ h).st τ fun b h => if b = true then (match s τ h with
    | .nx τ h => sWhile n c s τ h
    | .ct τ h => sWhile n c s τ h
    | .bk τ h => .nx τ h
    | r => r) else .nx τ h
section
variable {X : Cx} {ca : Nat → Addr} {W : WX} {pos : Pos} {ss : List Stmt} {c : Expr} {fc : ST} {a : SS}
theorem ps_sWhile (n : Nat) (hp : PassesOwn (model X.prog X.w) X.A X.env X.xe) (p : PT X c (tDT X.K ca W fc)) (q : PSs X ss (tS X.K ca W a)) : PS X (.While c ss [] pos) (tS X.K ca W (sWhile n fc a)) :=
  ps_of (ps_while hp p q) fun D σ H ρ τ h R T x => by
    refine ⟨fun m σ H => ∃ ρ τ h, Rel X.K ca ρ h H ∧ EnvR X.K ρ H τ σ ∧ WpS X.K ca W ρ H D (sWhile m fc a τ h), ⟨n, ρ, τ, h, R, T, x⟩, ?_⟩
    rintro m σ H ⟨ρ, τ, h, R, T, x⟩
    cases m with
    | zero => exact x.elim
    | succ m =>
      refine tDT.st R T x fun b h1 ρ1 H1 e1 R1 T1 x1 => ?_
      cases b with
      | false => exact WpS.nxt R1 T1 x1
      | true =>
        refine ⟨fun σ H => ∃ ρ τ h, Rel X.K ca ρ h H ∧ EnvR X.K ρ H τ σ ∧ WpS X.K ca W ρ H D (sWhile m fc a τ h), fun σ' H' q => ⟨m, Nat.lt_succ_self _, q⟩, ρ1, τ, h1, R1, T1, ?_⟩
        have x1 : WpS X.K ca W ρ1 H1 D (match a τ h1 with
          | .nx τ h => sWhile m fc a τ h
          | .ct τ h => sWhile m fc a τ h
          | .bk τ h => .nx τ h
          | r => r) := x1
        cases q : a τ h1 with
        | nx τ2 h2 => rw [q] at x1; exact fun ρ' H' σ' e R T => ⟨ρ', τ2, h2, R, T, WpS.ext e x1⟩
        | ct τ2 h2 => rw [q] at x1; exact fun ρ' H' σ' e R T => ⟨ρ', τ2, h2, R, T, WpS.ext e x1⟩
        | bk τ2 h2 => rw [q] at x1; exact x1
        | rt w h2 => rw [q] at x1; exact x1
        | exc c fs τ2 h2 => rw [q] at x1; exact x1
        | bad => rw [q] at x1; exact x1
end
/-! ### targets -/
abbrev GS := PV → Env' → Hh → RS
abbrev GSs := List PV → Env' → Hh → RS
abbrev dN (Q : L2.St → Hp → Prop) : Ends := { nx := Q, rt := fun _ _ => False }
def tG (K : PySem.W.Frag) (ca : Nat → Addr) (W : WX) (g : GS) : TG := fun v σ H Q => ∃ ρ τ h w, Rel K ca ρ h H ∧ EnvR K ρ H τ σ ∧ RV K ρ H w v ∧ WpS K ca W ρ H (dN Q) (g w τ h)
def tGs (K : PySem.W.Frag) (ca : Nat → Addr) (W : WX) (g : GSs) : TGs := fun v σ H Q => ∃ ρ τ h w, Rel K ca ρ h H ∧ EnvR K ρ H τ σ ∧ RVs K ρ H w v ∧ WpS K ca W ρ H (dN Q) (g w τ h)
def gN (i : Nat) : GS := fun w τ h => .nx (τ.set i (some w)) h
def gNilS : GSs := fun ws τ h => match ws with
  | [] => .nx τ h
  | _ => .bad
def gConsS (g : GS) (r : GSs) : GSs := fun ws τ h => match ws with
  | [] => .bad
  | w :: ws => (g w τ h).seq (r ws)
def gT (n : Nat) (g : GSs) : GS := fun w τ h => match w with
  | .tup ws => if ws.length = n then g ws τ h else .bad
  | _ => .bad
def setS (o i w : PV) (h : Hh) : Option Hh := match o with
  | .obj p => match h.get p with
    | some (.lst xs) => match i with
      | .int k => (ixN xs.length k).map fun j => h.put p (.lst (xs.set j w))
      | _ => none
    | some (.dct kvs) => match keyP i with
      | some k => if kvs.length < lim then some (h.put p (.dct (putP kvs k w))) else none
      | none => none
    | _ => none
  | _ => none
def gSubS (fo fi : SE) : GS := fun w τ h => (fo τ h).st τ fun o h => (fi τ h).st τ fun i h => match setS o i w h with
  | some h => .nx τ h
  | none => .bad
def setF (at_ : Nat → Str → Bool) (f : Str) (o w : PV) (h : Hh) : Option Hh := match o with
  | .obj p => match h.get p with
    | some (.ins c fs) => if at_ c f = true ∧ fs.length < 1000 then some (h.put p (.ins c (putP fs f w))) else none
    | _ => none
  | _ => none
/-- target = e -/
def sAsg (f : SE) (g : GS) : SS := fun τ h => (f τ h).st τ fun w h => g w τ h
def sFldS (at_ : Nat → Str → Bool) (f : Str) (fv fo : SE) : SS := fun τ h => (fv τ h).st τ fun w h => (fo τ h).st τ fun o h => match setF at_ f o w h with
  | some h => .nx τ h
  | none => .bad
section
variable {K : PySem.W.Frag} {ca : Nat → Addr} {W : WX} {ρ : List Addr} {h : Hh} {H : Hp} {κ : Type}
theorem RVs.set : ∀ {ws : List PV} {vs : List V} {j : Nat} {w : PV} {v : V}, RVs K ρ H ws vs → RV K ρ H w v → RVs K ρ H (ws.set j w) (vs.set j v)
  | [], _, _, _, _, r, _ => by rw [r.inv0]; exact .nil
  | x :: xs, vs, 0, w, v, r, q => by
    obtain ⟨u, t, rfl, _, s⟩ := r.inv
    exact .cons q s
  | x :: xs, vs, j + 1, w, v, r, q => by
    obtain ⟨u, t, rfl, a, s⟩ := r.inv
    exact .cons a (RVs.set s q)
end
/-- no comprehension of a list or a dict: what a store is not swapped for -/
def noComp : Expr → Bool
  | .ListComp .. => false
  | .SetComp .. => false
  | .DictComp .. => false
  | _ => true
theorem swaps_no {e : Expr} {t : Option Expr} {l : Nat} {env : Env} (h : noComp e = true) : swapsWith e t l env = pure false := by
  cases e <;> first | rfl | cases h
section
variable {X : Cx} {ca : Nat → Addr} {W : WX} {pos pos' : Pos} {e o i : Expr} {f fo fi : SE}
theorem pg_gN {i : Nat} {x : Str} (hN : X.N.Nodup) (hi : X.N[i]? = some x) (hx : Loc X.env.scope x) (hf : X.fn x = true ∨ X.env.scope.names.lookup x = some .local) : PG X (.Name x pos) (tG X.K ca W (gN i)) :=
  ⟨fun pins s σ H v u Q I r ⟨ρ, τ, h, w, R, T, q, x⟩ => (pg_name hN hi hx hf).run pins s σ H v u Q I r (x ρ H _ (Ext.refl _ _) R (T.set q i))⟩
theorem pgs_gNil : PGs X [] (tGs X.K ca W gNilS) :=
  ⟨fun pins s σ H v u Q I r ⟨ρ, τ, h, ws, R, T, q, x⟩ => by
    cases ws with
    | nil => exact pgs_nil.run pins s σ H v u Q I r ⟨q.inv0, x ρ H σ (Ext.refl _ _) R T⟩
    | cons _ _ => exact x.elim⟩
theorem pgs_gCons {e : Expr} {es : List Expr} {g : GS} {gs : GSs} (p : PG X e (tG X.K ca W g)) (q : PGs X es (tGs X.K ca W gs)) (hs : (assignEach (e :: es) X.env).map (·.2) = assign e X.env :: (assignEach es X.env).map (·.2)) :
    PGs X (e :: es) (tGs X.K ca W (gConsS g gs)) :=
  ⟨fun pins s σ H v u Q I r ⟨ρ, τ, h, ws, R, T, rw_, x⟩ => by
    cases ws with
    | nil => exact x.elim
    | cons w ws =>
      obtain ⟨v1, vr, rfl, r1, r2⟩ := rw_.inv
      refine (pgs_cons p q hs).run pins s σ H _ u Q I r ⟨v1, vr, rfl, ρ, τ, h, w, R, T, r1, ?_⟩
      have x : WpS X.K ca W ρ H (dN Q) ((g w τ h).seq (gs ws)) := x
      cases z : g w τ h with
      | nx τ2 h2 => rw [z] at x; exact fun ρ' H' σ' e R' T' => ⟨ρ', τ2, h2, ws, R', T', RVs.ext R e _ _ r2, WpS.ext e x⟩
      | rt w h2 => rw [z] at x; exact x
      | bk τ2 h2 => rw [z] at x; exact x
      | ct τ2 h2 => rw [z] at x; exact x
      | exc c fs τ2 h2 => rw [z] at x; exact x
      | bad => rw [z] at x; exact x⟩
theorem pg_gT {es : List Expr} {k n : Nat} {gs : GSs} (hc : X.calm = true) (p : PGs X es (tGs X.K ca W gs)) (hn : (assignEach es X.env).length = n) (hst : (assignEach es X.env).findIdx? (·.1) = none) : PG X (.Tuple es k pos) (tG X.K ca W (gT n gs)) :=
  ⟨fun pins s σ H v u Q I r ⟨ρ, τ, h, w, R, T, q, x⟩ => by
    cases w with
    | tup ws =>
      rw [RV.tup_] at q
      obtain ⟨a, vs, rfl, sq, rv⟩ := q
      have x : WpS X.K ca W ρ H (dN Q) (if ws.length = n then gs ws τ h else .bad) := x
      by_cases hl : ws.length = n
      · rw [if_pos hl] at x
        exact (pg_tup hc p hn hst).run pins s σ H _ u Q I r ⟨a, vs, rfl, sq.1, by rw [← rv.length]; exact hl, ρ, τ, h, ws, R, T, rv, x⟩
      · rw [if_neg hl] at x; exact x.elim
    | _ => exact x.elim⟩
end
end DD
set_option Elab.async false
set_option linter.all false
set_option maxRecDepth 100000
set_option maxHeartbeats 4000000
/-! DK: stores into things, pairs of names, op=, raise. -/
namespace DD
open PySem PySem.Spec PyProof.Rows L2
variable [Ups]

/-- a store ends by going on, or by an exception -/
def RS.only : RS → RS
  | .nx τ h => .nx τ h
  | .exc c fs τ h => .exc c fs τ h
  | _ => .bad
def sAsg' (f : SE) (g : GS) : SS := fun τ h => (f τ h).st τ fun w h => (g w τ h).only
theorem WpS.only {K : PySem.W.Frag} {ca : Nat → Addr} {W : WX} {ρ : List Addr} {H : Hp} {D : Ends} {r : RS} (x : WpS K ca W ρ H D r.only) : WpS K ca W ρ H (dN D.nx) r := by
  cases r with
  | nx τ h => exact x
  | exc c fs τ h => exact x
  | _ => exact x.elim
def putFS (f : Str) (v : PV) : List (Str × PV) → List (Str × PV)
  | [] => [(f, v)]
  | (g, x) :: r => if g = f then (g, v) :: r else (g, x) :: putFS f v r
def setFS (at_ : Nat → Str → Bool) (f : Str) (o w : PV) (h : Hh) : Option Hh := match o with
  | .obj p => match h.get p with
    | some (.ins c fs) => if at_ c f = true ∧ fs.length < 1000 then some (h.put p (.ins c (putFS f w fs))) else none
    | _ => none
  | _ => none
def sFld' (at_ : Nat → Str → Bool) (f : Str) (fv fo : SE) : SS := fun τ h => (fv τ h).st τ fun w h => (fo τ h).st τ fun o h => match setFS at_ f o w h with
  | some h => .nx τ h
  | none => .bad
section
variable {K : PySem.W.Frag} {ca : Nat → Addr} {W : WX} {ρ : List Addr} {h h' : Hh} {H : Hp}
theorem RFs.putF {f : Str} {w : PV} {v : V} (q : RV K ρ H w v) : ∀ {ws : List (Str × PV)} {vs : List (Str × V)}, RFs K ρ H ws vs → RFs K ρ H (putFS f w ws) (L2.putF f v vs)
  | [], vs, r => by have r : vs = [] := r; subst r; exact ⟨v, [], rfl, q, rfl⟩
  | (j, x) :: ws, vs, ⟨u, t, e, a, r⟩ => by
    subst e
    unfold putFS L2.putF
    by_cases z : j = f
    · rw [if_pos z, if_pos z]; exact ⟨v, t, rfl, q, r⟩
    · rw [if_neg z, if_neg z]; exact ⟨u, _, rfl, a, RFs.putF q r⟩
/-- a store: the heap behind it -/
theorem set_sound {o i w : PV} {vo vi v : V} (R : Rel K ca ρ h H) (ro : RV K ρ H o vo) (ri : RV K ρ H i vi) (rw_ : RV K ρ H w v) (e : setS o i w h = some h') :
    ∃ H', Ext ρ H ρ H' ∧ Rel K ca ρ h' H' ∧ ((∃ p xs k j, vo = .ref p ∧ vi = .int k ∧ H p = some (.lst xs) ∧ ixN xs.length k = some j ∧ H' = upd H p (.lst (xs.set j v))) ∨ ∃ p, vo = .ref p ∧ DPut H p vi v H') := by
  cases o with
  | obj p =>
    rw [RV.obj_] at ro
    obtain ⟨a, ha, rfl⟩ := ro
    have e : (match h.get p with
      | some (.lst xs) => match (generalizing := false) i with
        | .int k => (ixN xs.length k).map fun j => h.put p (.lst (xs.set j w))
        | _ => none
      | some (.dct kvs) => match keyP i with
        | some k => if kvs.length < lim then some (h.put p (.dct (putP kvs k w))) else none
        | none => none
      | _ => none) = some h' := e
    split at e
    · rename_i xs q
      obtain ⟨a', u, k1, k2, vs, rfl, r⟩ := R.obj q
      rw [ha] at k1; cases k1
      cases i with
      | int k =>
        rw [RV.int_] at ri
        subst ri
        have e : ((ixN xs.length k).map fun j => h.put p (.lst (xs.set j w))) = some h' := e
        cases z : ixN xs.length k with
        | none => rw [z] at e; cases e
        | some j =>
          rw [z] at e
          cases e
          exact ⟨_, Ext.write ha ⟨_, k2⟩ (by rw [k2]; trivial), R.write ha ⟨_, rfl, r.set rw_⟩, .inl ⟨a, vs, k, j, rfl, rfl, k2, by rw [← r.length]; exact z, rfl⟩⟩
      | _ => cases e
    · rename_i kvs q
      obtain ⟨a', u, k1, k2, vs, rfl, r⟩ := R.obj q
      rw [ha] at k1; cases k1
      split at e
      · rename_i k z
        by_cases l : kvs.length < lim
        · rw [if_pos l] at e
          cases e
          have hk := keyP_ok ri z
          subst hk
          exact ⟨_, Ext.write ha ⟨_, k2⟩ (by rw [k2]; trivial), R.write ha ⟨_, rfl, r.put k rw_⟩, .inr ⟨a, rfl, DPut.k k2 (by rw [← r.length]; exact lt_lim l)⟩⟩
        · rw [if_neg l] at e; cases e
      · cases e
    · cases e
  | _ => cases e
theorem setF_sound {at_ : Nat → Str → Bool} {f : Str} {o w : PV} {vo v : V} (R : Rel K ca ρ h H) (ro : RV K ρ H o vo) (rw_ : RV K ρ H w v) (e : setFS at_ f o w h = some h') :
    ∃ a c dx vs, vo = .ref a ∧ H a = some (.ins (ca c) dx vs) ∧ at_ c f = true ∧ vs.length < 1000 ∧ Ext ρ H ρ (upd H a (.ins (ca c) dx (L2.putF f v vs))) ∧ Rel K ca ρ h' (upd H a (.ins (ca c) dx (L2.putF f v vs))) ∧ ∃ p fs, o = .obj p ∧ h.get p = some (.ins c fs) := by
  cases o with
  | obj p =>
    rw [RV.obj_] at ro
    obtain ⟨a, ha, rfl⟩ := ro
    have e : (match h.get p with
      | some (.ins c fs) => if at_ c f = true ∧ fs.length < 1000 then some (h.put p (.ins c (putFS f w fs))) else none
      | _ => none) = some h' := e
    split at e
    · rename_i c fs q
      obtain ⟨a', u, k1, k2, dx, vs, rfl, r⟩ := R.obj q
      rw [ha] at k1; cases k1
      by_cases l : at_ c f = true ∧ fs.length < 1000
      · rw [if_pos l] at e
        cases e
        exact ⟨a, c, dx, vs, rfl, k2, l.1, by rw [← r.length]; exact l.2, Ext.write ha ⟨_, k2⟩ (by rw [k2]; trivial), R.write ha ⟨dx, _, rfl, r.putF rw_⟩, p, fs, rfl, q⟩
      · rw [if_neg l] at e; cases e
    · cases e
  | _ => cases e
end
def rSetA : TSet := fun o i v H Q => rSetL o i v H Q ∨ ∃ p H', o = .ref p ∧ DPut H p i v H' ∧ Q H'
theorem set_any {X : Cx} (hu : X.A.units + 1 < cLine) : PSet X rSetA := by
  intro pins s σ H o i v ov iv u Q I ro ri rv h
  rcases h with h | ⟨p, H', rfl, g, q⟩
  · exact set_list pins s σ H o i v ov iv u Q I ro ri rv h
  · obtain rfl : ov = Value.ref p := ro
    exact d_setItem hu I g ri rv fun s' I' => ⟨H', I', q⟩
def notSl : Expr → Bool
  | .Slice .. => false
  | _ => true
theorem asg_sub {o i : Expr} {env : Env} {pos : Pos} (h : notSl i = true) (v : Value) : assign (.Subscript o i pos) env v = (do
      let ov ← holding [v] (eval o env)
      let iv ← holding [v, ov] (eval i env)
      standAt pos
      holding [v, ov, iv] (setItem ov iv v)
      release [v, ov, iv] []) := by
  cases i <;> first | rfl | cases h
section
variable {X : Cx} {ca : Nat → Addr} {W : WX} {pos pos' : Pos} {e o i : Expr} {f fo fi : SE}
theorem pg_gSub (c : COk X W) (hs : notSl i = true) (ho : PE X o (tD X.K ca W fo)) (hi : PE X i (tD X.K ca W fi)) : PG X (.Subscript o i pos) (tG X.K ca W (gSubS fo fi)) :=
  ⟨fun pins s σ H v u Q I r ⟨ρ, τ, h, w, R, T, q, x⟩ => (pg_sub ho hi (set_any (by have := c.hu; omega)) (asg_sub hs)).run pins s σ H v u Q I r <|
    tD.st R T x fun w1 h1 ρ1 H1 v1 e1 R1 T1 r1 x1 => tD.st R1 T1 x1 fun w2 h2 ρ2 H2 v2 e2 R2 T2 r2 x2 => by
      have x2 : WpS X.K ca W ρ2 H2 (dN Q) (match setS w1 w2 w h2 with
        | some h => .nx τ h
        | none => .bad) := x2
      split at x2
      · rename_i h3 z
        obtain ⟨H3, e3, R3, g⟩ := set_sound R2 (RV.ext R1 e2 w1 v1 r1) r2 (RV.ext R (e1.trans e2) w v q) z
        have x3 := x2 ρ2 H3 σ e3 R3 (EnvR.ext R2 e3 T2)
        rcases g with ⟨p, xs, k, j, rfl, rfl, g1, g2, rfl⟩ | ⟨p, rfl, g⟩
        · exact .inl ⟨p, xs, k, j, rfl, rfl, g1, g2, x3⟩
        · exact .inr ⟨p, H3, rfl, g, x3⟩
      · exact x2.elim⟩
theorem ps_sAsg {tg : Expr} {g : GS} (p : PE X e (tD X.K ca W f)) (q : PG X tg (tG X.K ca W g)) (hs : swapsWithSole [tg] e pos.line X.env = pure false) (hw : swappedStores [tg] e X.env = pure none) (h1 : (assignEach [tg] X.env).map (·.2) = [assign tg X.env]) :
    PS X (.Assign [tg] e pos) (tS X.K ca W (sAsg' f g)) :=
  ps_of (ps_asg p q hs hw h1) fun D σ H ρ τ h R T x => tD.st R T x fun w h1 ρ1 H1 v e1 R1 T1 r x1 => ⟨ρ1, τ, h1, w, R1, T1, r, x1.only⟩
theorem ps_sSet {i : Nat} {x : Str} (hN : X.N.Nodup) (hi : X.N[i]? = some x) (hx : Loc X.env.scope x) (hf : X.fn x = true ∨ X.env.scope.names.lookup x = some .local) (p : PE X e (tD X.K ca W f)) (hs : swapsWith e (some (.Name x pos')) pos.line X.env = pure false) :
    PS X (.Assign [.Name x pos'] e pos) (tS X.K ca W (sAsg' f (gN i))) :=
  ps_of (ps_set hN hi hx p hs hf) fun D σ H ρ τ h R T x => tD.st R T x fun w h1 ρ1 H1 v e1 R1 T1 r x1 => x1 ρ1 H1 _ (Ext.refl _ _) R1 (T1.set r i)
theorem ps_sFld' {at_ : Nat → Str → Bool} {fl : Str} (cls : ∀ c, at_ c fl = true → Cls X.K (ca c) ∧ NoAttr X.K (ca c) fl) (ho : PE X o (tD X.K ca W fo)) (p : PE X e (tD X.K ca W f)) (hs : swapsWith e (some (.Attribute o fl pos')) pos.line X.env = pure false) :
    PS X (.Assign [.Attribute o fl pos'] e pos) (tS X.K ca W (sFld' at_ fl f fo)) :=
  ps_of (ps_fld ho p hs) fun D σ H ρ τ h R T x => tD.st R T x fun w1 h1 ρ1 H1 v1 e1 R1 T1 r1 x1 => tD.st R1 T1 x1 fun w2 h2 ρ2 H2 v2 e2 R2 T2 r2 x2 => by
    have x2 : WpS X.K ca W ρ2 H2 D (match setFS at_ fl w2 w1 h2 with
      | some h => .nx τ h
      | none => .bad) := x2
    split at x2
    · rename_i h3 z
      obtain ⟨a, c, dx, vs, rfl, g1, g2, g3, g4, g5, _⟩ := setF_sound R2 r2 (RV.ext R1 e2 w1 v1 r1) z
      exact ⟨a, ca c, dx, vs, rfl, g1, (cls c g2).1, (cls c g2).2, g3, x2 ρ2 _ σ g4 g5 (EnvR.ext R2 g4 T2)⟩
    · exact x2.elim
/-- a, b = x, y of plain local names -/
def sPar (i j : Nat) (fl : SL) : SS := fun τ h => (fl τ h).st τ fun ws h => match ws with
  | [v, w] => .nx ((τ.set i (some v)).set j (some w)) h
  | _ => .bad
def sPar3 (i j k : Nat) (fl : SL) : SS := fun τ h => (fl τ h).st τ fun ws h => match ws with
  | [u, v, w] => .nx (((τ.set i (some u)).set j (some v)).set k (some w)) h
  | _ => .bad
theorem ps_sPar {i j : Nat} {x y : Str} {a b : Expr} {fl : SL} {px py pt : Pos} {kt k2 pt2} (hc : X.calm = true) (hN : X.N.Nodup) (hi : X.N[i]? = some x) (hj : X.N[j]? = some y) (hij : i ≠ j)
    (hx : X.env.scope.names.lookup x = some .local) (hy : X.env.scope.names.lookup y = some .local) (ha : PA X [a, b] (tDL X.K ca W fl))
    (hw : swappedStores [.Tuple [.Name x px, .Name y py] kt pt] (.Tuple [a, b] k2 pt2) X.env = pure (some [x, y])) :
    PS X (.Assign [.Tuple [.Name x px, .Name y py] kt pt] (.Tuple [a, b] k2 pt2) pos) (tS X.K ca W (sPar i j fl)) :=
  ps_of (ps_par hc hN hi hj hij hx hy ha hw) fun D σ H ρ τ h R T x => tDL.st R T x fun ws h1 ρ1 H1 vs e1 R1 T1 r x1 => by
    match ws, r, x1 with
    | [v, w], r, x1 =>
      obtain ⟨v1, t1, rfl, q1, r⟩ := r.inv
      obtain ⟨v2, t2, rfl, q2, r⟩ := r.inv
      rw [r.inv0]
      exact ⟨v1, v2, rfl, x1 ρ1 H1 _ (Ext.refl _ _) R1 ((T1.set q1 i).set q2 j)⟩
    | [], r, x1 => exact x1.elim
    | [_], r, x1 => exact x1.elim
    | _ :: _ :: _ :: _, r, x1 => exact x1.elim
theorem ps_sPar3 {i j k : Nat} {x y z : Str} {a b c : Expr} {fl : SL} {px py pz pt : Pos} {kt k2 pt2} (hc : X.calm = true) (hN : X.N.Nodup) (hi : X.N[i]? = some x) (hj : X.N[j]? = some y) (hk : X.N[k]? = some z) (hij : i ≠ j) (hik : i ≠ k) (hjk : j ≠ k)
    (hx : X.env.scope.names.lookup x = some .local) (hy : X.env.scope.names.lookup y = some .local) (hz : X.env.scope.names.lookup z = some .local) (ha : PA X [a, b, c] (tDL X.K ca W fl))
    (hw : swappedStores [.Tuple [.Name x px, .Name y py, .Name z pz] kt pt] (.Tuple [a, b, c] k2 pt2) X.env = pure (some [x, y, z])) :
    PS X (.Assign [.Tuple [.Name x px, .Name y py, .Name z pz] kt pt] (.Tuple [a, b, c] k2 pt2) pos) (tS X.K ca W (sPar3 i j k fl)) :=
  ps_of (ps_par3 hc hN hi hj hk hij hik hjk hx hy hz ha hw) fun D σ H ρ τ h R T x => tDL.st R T x fun ws h1 ρ1 H1 vs e1 R1 T1 r x1 => by
    match ws, r, x1 with
    | [u, v, w], r, x1 =>
      obtain ⟨v1, t1, rfl, q1, r⟩ := r.inv
      obtain ⟨v2, t2, rfl, q2, r⟩ := r.inv
      obtain ⟨v3, t3, rfl, q3, r⟩ := r.inv
      rw [r.inv0]
      exact ⟨v1, v2, v3, rfl, x1 ρ1 H1 _ (Ext.refl _ _) R1 (((T1.set q1 i).set q2 j).set q3 k)⟩
    | [], r, x1 => exact x1.elim
    | [_], r, x1 => exact x1.elim
    | [_, _], r, x1 => exact x1.elim
    | _ :: _ :: _ :: _ :: _, r, x1 => exact x1.elim
/-! ### raise -/
abbrev SR := Env' → Hh → Res (Nat × List (Str × PV))
def tR (K : PySem.W.Frag) (ca : Nat → Addr) (W : WX) (f : SR) : L2.St → Hp → XK → Prop := fun σ H Q => ∃ ρ τ h, Rel K ca ρ h H ∧ EnvR K ρ H τ σ ∧
  Wp K ca (fun _ _ (a b : Nat × List (Str × PV)) => b = a) (XW K ca W σ) ρ H (fun p _ ρ' H' _ => ∀ d, ExD K ρ' H' p.2 d → Q (.ref (ca p.1)) d H') (f τ h)
def sRaise (f : SR) : SS := fun τ h => (f τ h).st τ fun p h => .exc p.1 p.2 τ h
theorem ps_sRaise {f : SR} (c : COk X W) (p : PMk X e (tR X.K ca W f)) : PS X (.Raise (some e) none pos) (tS X.K ca W (sRaise f)) :=
  ps_of (ps_raise c.calm c.tk p) fun D σ H ρ τ h R T x => ⟨ρ, τ, h, R, T, (Wp.st (RA := fun _ _ (a b : Nat × List (Str × PV)) => b = a) T R x).imp fun p h1 ρ1 H1 v e1 R1 r x1 d ex =>
    x1 ρ1 H1 σ (Ext.refl _ _) R1 (EnvR.ext R e1 T) d ex⟩
end
end DD
set_option Elab.async false
set_option linter.all false
set_option maxRecDepth 100000
set_option maxHeartbeats 4000000
/-! DL: what is walked; for. -/
namespace DD
open PySem PySem.Spec PyProof.Rows L2
variable [Ups]

/-! ### names and tuples of names as targets -/
inductive Pat where
  | nm (i : Nat) | tp (ps : List Pat)
mutual
def patS : Pat → PV → Env' → Option Env'
  | .nm i, w, τ => some (τ.set i (some w))
  | .tp ps, .tup ws, τ => patsS ps ws τ
  | .tp _, _, _ => none
def patsS : List Pat → List PV → Env' → Option Env'
  | [], [], τ => some τ
  | p :: ps, w :: ws, τ => match patS p w τ with
    | some τ => patsS ps ws τ
    | none => none
  | _, _, _ => none
end
mutual
def tP (K : PySem.W.Frag) : Pat → TG
  | .nm i => gName i
  | .tp ps => gTup K ps.length (tPs K ps)
def tPs (K : PySem.W.Frag) : List Pat → TGs
  | [] => gNil
  | p :: ps => gCons (tP K p) (tPs K ps)
end
mutual
def Pat.slots : Pat → List Nat
  | .nm i => [i]
  | .tp ps => slotsL ps
def slotsL : List Pat → List Nat
  | [] => []
  | p :: ps => p.slots ++ slotsL ps
end
theorem wipe_get {σ : L2.St} {j : Nat} : ∀ {vs : List Nat}, (wipe σ vs)[j]? = if j ∈ vs ∧ j < σ.length then some none else σ[j]?
  | [] => by simp [wipe]
  | v :: vs => by
    unfold wipe
    rw [List.getElem?_set, wipe_length, wipe_get (vs := vs)]
    by_cases h : v = j
    · subst h
      by_cases l : v < σ.length
      · simp [l]
      · simp [l]
    · rw [if_neg h]
      by_cases q : j ∈ vs ∧ j < σ.length
      · rw [if_pos q, if_pos ⟨List.mem_cons_of_mem _ q.1, q.2⟩]
      · rw [if_neg q, if_neg (fun z => q ⟨(List.mem_cons.mp z.1).resolve_left (fun e => h e.symm), z.2⟩)]
theorem wipe_set {σ : L2.St} {i : Nat} {v : Option V} {vs : List Nat} (h : i ∈ vs) : wipe (σ.set i v) vs = wipe σ vs := by
  refine List.ext_getElem? fun j => ?_
  rw [wipe_get, wipe_get, List.length_set]
  by_cases q : j ∈ vs ∧ j < σ.length
  · rw [if_pos q, if_pos q]
  · rw [if_neg q, if_neg q, List.getElem?_set]
    by_cases e : i = j
    · subst e
      rw [if_pos rfl, if_neg (fun l => q ⟨h, l⟩), List.getElem?_eq_none (by have : ¬ i < σ.length := fun l => q ⟨h, l⟩; omega)]
    · rw [if_neg e]
def wipeP (τ : Env') : List Nat → Env'
  | [] => τ
  | v :: vs => (wipeP τ vs).set v none
section
variable {K : PySem.W.Frag} {ca : Nat → Addr} {W : WX} {ρ : List Addr} {h : Hh} {H : Hp}
theorem EnvR.none {τ : Env'} {σ : L2.St} (r : EnvR K ρ H τ σ) (i : Nat) : EnvR K ρ H (τ.set i none) (σ.set i none) := by
  refine ⟨by simp [r.1], fun j x e => ?_⟩
  rw [List.getElem?_set] at e ⊢
  by_cases z : i = j
  · subst z
    rw [if_pos rfl] at e
    by_cases l : i < τ.length
    · rw [if_pos l] at e; cases e
    · rw [if_neg l] at e; cases e
  · rw [if_neg z] at e ⊢
    exact r.2 j x e
theorem EnvR.wipe {τ : Env'} {σ : L2.St} (r : EnvR K ρ H τ σ) : ∀ vs : List Nat, EnvR K ρ H (wipeP τ vs) (L2.wipe σ vs)
  | [] => r
  | v :: vs => (EnvR.wipe r vs).none v
mutual
theorem pat_sound {Q : L2.St → Hp → Prop} : ∀ (p : Pat) (w : PV) (v : V) (τ τ' : Env') (σ : L2.St), RV K ρ H w v → EnvR K ρ H τ σ → patS p w τ = some τ' →
    (∀ σ', EnvR K ρ H τ' σ' → (∀ vs : List Nat, (∀ i ∈ p.slots, i ∈ vs) → wipe σ' vs = wipe σ vs) → Q σ' H) → tP K p v σ H Q
  | .nm i, w, v, τ, τ', σ, r, T, e, k => by
    unfold patS at e
    cases e
    unfold tP
    exact k _ (T.set r i) fun vs h => wipe_set (h i (by simp [Pat.slots]))
  | .tp ps, w, v, τ, τ', σ, r, T, e, k => by
    cases w with
    | tup ws =>
      unfold patS at e
      rw [RV.tup_] at r
      obtain ⟨a, vs, rfl, sq, rv⟩ := r
      have hl : vs.length = ps.length := by rw [← rv.length]; exact pats_len ps ws τ τ' e
      unfold tP
      exact ⟨a, vs, rfl, sq.1, hl, pats_sound ps ws vs τ τ' σ rv T e fun σ' T' f => k σ' T' fun us h => f us (by unfold Pat.slots at h; exact h)⟩
    | _ => unfold patS at e; cases e
theorem pats_sound {Q : L2.St → Hp → Prop} : ∀ (ps : List Pat) (ws : List PV) (vs : List V) (τ τ' : Env') (σ : L2.St), RVs K ρ H ws vs → EnvR K ρ H τ σ → patsS ps ws τ = some τ' →
    (∀ σ', EnvR K ρ H τ' σ' → (∀ us : List Nat, (∀ i ∈ slotsL ps, i ∈ us) → wipe σ' us = wipe σ us) → Q σ' H) → tPs K ps vs σ H Q
  | [], ws, vs, τ, τ', σ, r, T, e, k => by
    cases ws with
    | nil =>
      unfold patsS at e
      cases e
      unfold tPs
      exact ⟨r.inv0, k σ T fun _ _ => rfl⟩
    | cons _ _ => unfold patsS at e; cases e
  | p :: ps, ws, vs, τ, τ', σ, r, T, e, k => by
    cases ws with
    | nil => unfold patsS at e; cases e
    | cons w ws =>
      unfold patsS at e
      obtain ⟨v, t, rfl, q, r⟩ := r.inv
      cases z : patS p w τ with
      | none => rw [z] at e; cases e
      | some τ1 =>
        rw [z] at e
        unfold tPs
        refine ⟨v, t, rfl, pat_sound p w v τ τ1 σ q T z fun σ1 T1 f1 => pats_sound ps ws t τ1 τ' σ1 r T1 e fun σ' T' f' => k σ' T' fun us hu => ?_⟩
        unfold slotsL at hu
        rw [f' us fun i hi => hu i (List.mem_append_right _ hi), f1 us fun i hi => hu i (List.mem_append_left _ hi)]
theorem pats_len : ∀ (ps : List Pat) (ws : List PV) (τ τ' : Env'), patsS ps ws τ = some τ' → ws.length = ps.length
  | [], ws, τ, τ', e => by
    cases ws with
    | nil => rfl
    | cons _ _ => unfold patsS at e; cases e
  | p :: ps, ws, τ, τ', e => by
    cases ws with
    | nil => unfold patsS at e; cases e
    | cons w ws =>
      unfold patsS at e
      cases z : patS p w τ with
      | none => rw [z] at e; cases e
      | some τ1 =>
        rw [z] at e
        simp [pats_len ps ws τ1 τ' e]
end
end
/-! ### sources -/
inductive Side where
  | tup (xs : List PV) | lst (o : Nat)
def Side.all (h : Hh) : Side → Option (List PV)
  | .tup xs => some xs
  | .lst o => h.lst? o
inductive Src where
  | pur (xs : List PV) | lst (o : Nat) | enm (o : Nat) | zip (a b : Side) | rev (o n : Nat) | enmT (xs : List PV) | zipM (a b : Side)
def Src.step (i : Nat) (h : Hh) : Src → Option (Option PV)
  | .pur xs => some xs[i]?
  | .lst o => (h.lst? o).map fun xs => xs[i]?
  | .enm o => (h.lst? o).map fun xs => xs[i]?.map fun x => .tup [.int i, x]
  | .zip a b => match a.all h, b.all h with
    | some xs, some ys => match xs[i]?, ys[i]? with
      | some x, some y => some (some (.tup [x, y]))
      | _, _ => some none
    | _, _ => none
  | .rev o n => match h.lst? o with
    | some xs => if xs.length = n then (if i < n then some xs[n - 1 - i]? else some none) else none
    | none => none
  | .enmT xs => match xs[i]? with
    | some x => some (some (.tup [.int i, x]))
    | none => if xs.length = i then some none else none
  | .zipM a b => match a.all h, b.all h with
    | some xs, some ys => match xs[i]?, ys[i]? with
      | some x, some y => some (some (.tup [x, y]))
      | _, _ => if i ≤ xs.length ∧ i ≤ ys.length then some none else none
    | _, _ => none
structure SrcOk (K : PySem.W.Frag) (ca : Nat → Addr) (ρ0 : List Addr) (H0 : Hp) (s : Src) (J : It) : Prop where
  go : ∀ i ρ h H x, Ext ρ0 H0 ρ H → Rel K ca ρ h H → s.step i h = some (some x) → J.go i H ∧ ∀ v H', J.yld i H v H' → Ext ρ H ρ H' ∧ Rel K ca ρ h H' ∧ RV K ρ H' x v
  stop : ∀ i ρ h H, Ext ρ0 H0 ρ H → Rel K ca ρ h H → s.step i h = some none → J.stop i H
theorem SrcOk.ext {K : PySem.W.Frag} {ca : Nat → Addr} {ρ0 ρ1 : List Addr} {H0 H1 : Hp} {s : Src} {J : It} (k : SrcOk K ca ρ0 H0 s J) (e : Ext ρ0 H0 ρ1 H1) : SrcOk K ca ρ1 H1 s J :=
  ⟨fun i ρ h H x e' => k.go i ρ h H x (e.trans e'), fun i ρ h H e' => k.stop i ρ h H (e.trans e')⟩
abbrev SI := Env' → Hh → Res Src
def tI (K : PySem.W.Frag) (ca : Nat → Addr) (W : WX) (f : SI) : TI := fun σ H R => ∃ ρ τ h, Rel K ca ρ h H ∧ EnvR K ρ H τ σ ∧ Wp K ca (SrcOk K ca) (XW K ca W σ) ρ H (fun _ _ _ H' J => R J H') (f τ h)
theorem pi_of {X : Cx} {K : PySem.W.Frag} {ca : Nat → Addr} {W : WX} {tg e : Expr} {t : TI} {f : SI} (p : PI X tg e t) (i : ∀ σ H R ρ τ h, Rel K ca ρ h H → EnvR K ρ H τ σ → Wp K ca (SrcOk K ca) (XW K ca W σ) ρ H (fun _ _ _ H' J => R J H') (f τ h) → t σ H R) : PI X tg e (tI K ca W f) :=
  ⟨fun pins s σ H R I ⟨ρ, τ, h, R', T, x⟩ => p.run pins s σ H R I (i σ H R ρ τ h R' T x)⟩
theorem pi_bad {X : Cx} {K : PySem.W.Frag} {ca : Nat → Addr} {W : WX} {tg e : Expr} : PI X tg e (tI K ca W fun _ _ => .bad) := ⟨fun _ _ _ _ _ _ ⟨_, _, _, _, _, x⟩ => x.elim⟩
/-! ### for -/
def sForGo (s : Src) (p : Pat) (b : SS) : Nat → Nat → SS
  | 0, _ => fun _ _ => .bad
  | n + 1, i => fun τ h => match s.step i h with
    | none => .bad
    | some none => .nx τ h
    | some (some x) => match patS p x τ with
      | none => .bad
      | some τ => match b τ h with
        | .nx τ h => sForGo s p b n (i + 1) τ h
        | .ct τ h => sForGo s p b n (i + 1) τ h
        | .bk τ h => .nx τ h
        | r => r
def sFor (n : Nat) (f : SI) (p : Pat) (b : SS) : SS := fun τ h => (f τ h).st τ fun s h => sForGo s p b n 0 τ h
section
variable {X : Cx} {ca : Nat → Addr} {W : WX} {pos : Pos} {ss : List Stmt} {tg iter : Expr} {p : Pat} {b : SS} {f : SI}
theorem for_go {D : Ends} {ρ1 : List Addr} {H1 : Hp} {s : Src} {J : It} (k : SrcOk X.K ca ρ1 H1 s J) (n i : Nat) {σ : L2.St} {τ : Env'} {h : Hh} (R : Rel X.K ca ρ1 h H1) (T : EnvR X.K ρ1 H1 τ σ) (x : WpS X.K ca W ρ1 H1 D (sForGo s p b n 0 τ h)) :
    ∃ Wn : Nat → Nat → L2.St → Hp → Prop, (∃ m, Wn 0 m σ H1) ∧ ∀ i m σ H, Wn i m σ H →
      (J.stop i H ∧ D.nx σ H) ∨ (J.go i H ∧ ∃ N : L2.St → Hp → Prop, (∀ σ' H', N σ' H' → ∃ m', m' < m ∧ Wn (i + 1) m' σ' H') ∧ ∀ x H', J.yld i H x H' → tP X.K p x σ H' fun σ2 H2 => tS X.K ca W b { D with nx := N, ct := N, bk := D.nx } σ2 H2) := by
  refine ⟨fun i m σ H => ∃ ρ τ h, Ext ρ1 H1 ρ H ∧ Rel X.K ca ρ h H ∧ EnvR X.K ρ H τ σ ∧ WpS X.K ca W ρ H D (sForGo s p b m i τ h), ⟨n, ρ1, τ, h, Ext.refl _ _, R, T, x⟩, ?_⟩
  rintro i m σ H ⟨ρ, τ, h, E, R, T, x⟩
  cases m with
  | zero => exact x.elim
  | succ m =>
    unfold sForGo at x
    cases z : s.step i h with
    | none => rw [z] at x; exact x.elim
    | some o =>
      cases o with
      | none => rw [z] at x; exact .inl ⟨k.stop i ρ h H E R z, WpS.nxt R T x⟩
      | some w =>
        rw [z] at x
        obtain ⟨g1, g2⟩ := k.go i ρ h H w E R z
        refine .inr ⟨g1, fun σ H => ∃ ρ τ h, Ext ρ1 H1 ρ H ∧ Rel X.K ca ρ h H ∧ EnvR X.K ρ H τ σ ∧ WpS X.K ca W ρ H D (sForGo s p b m (i + 1) τ h), fun σ' H' q => ⟨m, Nat.lt_succ_self _, q⟩, fun v H' y => ?_⟩
        obtain ⟨E2, R2, r2⟩ := g2 v H' y
        have T2 := EnvR.ext R E2 T
        have x : WpS X.K ca W ρ H D (match patS p w τ with
          | none => .bad
          | some τ => match b τ h with
            | .nx τ h => sForGo s p b m (i + 1) τ h
            | .ct τ h => sForGo s p b m (i + 1) τ h
            | .bk τ h => .nx τ h
            | r => r) := x
        cases zp : patS p w τ with
        | none => rw [zp] at x; exact x.elim
        | some τ1 =>
          rw [zp] at x
          refine pat_sound p w v τ τ1 σ r2 T2 zp fun σ' T' _ => ⟨ρ, τ1, h, R2, T', ?_⟩
          have x : WpS X.K ca W ρ H' D (match b τ1 h with
            | .nx τ h => sForGo s p b m (i + 1) τ h
            | .ct τ h => sForGo s p b m (i + 1) τ h
            | .bk τ h => .nx τ h
            | r => r) := WpS.ext E2 x
          have EE := E.trans E2
          cases q : b τ1 h with
          | nx τ2 h2 => rw [q] at x; exact fun ρ' H' σ' e R T => ⟨ρ', τ2, h2, EE.trans e, R, T, WpS.ext e x⟩
          | ct τ2 h2 => rw [q] at x; exact fun ρ' H' σ' e R T => ⟨ρ', τ2, h2, EE.trans e, R, T, WpS.ext e x⟩
          | bk τ2 h2 => rw [q] at x; exact x
          | rt w h2 => rw [q] at x; exact x
          | exc c fs τ2 h2 => rw [q] at x; exact x
          | bad => rw [q] at x; exact x
theorem tI.st {D : Ends} {σ : L2.St} {ρ : List Addr} {τ : Env'} {h : Hh} {H : Hp} {k : Src → Hh → RS} (R : Rel X.K ca ρ h H) (T : EnvR X.K ρ H τ σ) (x : WpS X.K ca W ρ H D ((f τ h).st τ k)) {P : It → Hp → Prop}
    (g : ∀ w h1 ρ1 H1 v, Ext ρ H ρ1 H1 → Rel X.K ca ρ1 h1 H1 → EnvR X.K ρ1 H1 τ σ → SrcOk X.K ca ρ1 H1 w v → WpS X.K ca W ρ1 H1 D (k w h1) → P v H1) : tI X.K ca W f σ H P :=
  ⟨ρ, τ, h, R, T, (Wp.st (RA := SrcOk X.K ca) T R x).imp fun w h1 ρ1 H1 v e R1 r x1 => g w h1 ρ1 H1 v e R1 (EnvR.ext R e T) r x1⟩
theorem ps_sFor (n : Nat) (hp : PassesOwn (model X.prog X.w) X.A X.env X.xe) (hc : X.calm = true) (hi : PI X tg iter (tI X.K ca W f)) (hg : PG X tg (tP X.K p)) (hb : PSs X ss (tS X.K ca W b)) (hs : ∀ x, foldedSetIterable iter X.env x = pure x) :
    PS X (.For tg iter ss [] pos) (tS X.K ca W (sFor n f p b)) :=
  ps_of (ps_for hp hc hi hg hb hs) fun D σ H ρ τ h R T x => tI.st R T x fun s h1 ρ1 H1 J e1 R1 T1 k x1 => for_go k n 0 R1 T1 x1
end
end DD
set_option Elab.async false
set_option linter.all false
set_option maxRecDepth 100000
set_option maxHeartbeats 4000000
/-! DM: the sources. -/
namespace DD
open PySem PySem.Spec PyProof.Rows L2
variable [Ups]

section
variable {K : PySem.W.Frag} {ca : Nat → Addr} {ρ ρ0 : List Addr} {h : Hh} {H H0 : Hp}
theorem lst_at {o : Nat} {a : Addr} {xs : List PV} (R : Rel K ca ρ h H) (e : h.lst? o = some xs) (ha : ρ[o]? = some a) : ∃ vs, SqL K H a vs ∧ RVs K ρ H xs vs := by
  obtain ⟨a', vs, h1, h2, r, _⟩ := lst_get e R
  rw [ha] at h1; cases h1
  exact ⟨vs, .inl h2, r⟩
theorem lst_adr {o : Nat} {xs : List PV} (R : Rel K ca ρ h H) (e : h.lst? o = some xs) : ∃ a, ρ[o]? = some a := by
  obtain ⟨a', vs, h1, _⟩ := lst_get e R
  exact ⟨a', h1⟩
theorem RVs.get_none {xs : List PV} {vs : List V} {i : Nat} (r : RVs K ρ H xs vs) (e : xs[i]? = none) : vs.length ≤ i := by
  rw [← r.length]; exact List.getElem?_eq_none_iff.mp e
theorem src_pur {xs : List PV} {J : It} (go : ∀ i ρ h H x, Ext ρ0 H0 ρ H → Rel K ca ρ h H → xs[i]? = some x → J.go i H ∧ ∀ v H', J.yld i H v H' → Ext ρ H ρ H' ∧ Rel K ca ρ h H' ∧ RV K ρ H' x v)
    (stop : ∀ i ρ h H, Ext ρ0 H0 ρ H → Rel K ca ρ h H → xs.length ≤ i → J.stop i H) : SrcOk K ca ρ0 H0 (.pur xs) J :=
  ⟨fun i ρ h H x e R z => go i ρ h H x e R (Option.some.inj (show some xs[i]? = some (some x) from z)), fun i ρ h H e R z => stop i ρ h H e R (List.getElem?_eq_none_iff.mp (Option.some.inj (show some xs[i]? = some none from z)))⟩
/-- nothing of ours changes at a turn -/
theorem same_ok {x : PV} {v : V} {H' : Hp} (R : Rel K ca ρ h H) (e : H' = H) (r : RV K ρ H x v) : Ext ρ H ρ H' ∧ Rel K ca ρ h H' ∧ RV K ρ H' x v := by
  subst e; exact ⟨Ext.refl _ _, R, r⟩
/-- a pair made at a turn -/
theorem pair_ok {T : Addr} {x y : PV} {u v w : V} {H' : Hp} (R : Rel K ca ρ h H) (ew : w = .ref T) (n : H T = none) (e : H' = upd H T (.tup [u, v])) (a : RV K ρ H x u) (b : RV K ρ H y v) : Ext ρ H ρ H' ∧ Rel K ca ρ h H' ∧ RV K ρ H' (.tup [x, y]) w := by
  subst e ew
  exact ⟨Ext.fresh n, R.fresh n, (RV.tup_ _ _).mpr ⟨T, [u, v], rfl, ⟨.inl (.inl upd_same), fun z => absurd rfl z⟩, .cons (RV.ext R (Ext.fresh n) _ _ a) (.cons (RV.ext R (Ext.fresh n) _ _ b) .nil)⟩⟩
theorem src_tup {xs : List PV} {vs : List V} {a : Addr} (R0 : Rel K ca ρ0 h H0) (s : SqT K H0 a vs) (r : RVs K ρ0 H0 xs vs) : SrcOk K ca ρ0 H0 (.pur xs) (Itt K a) :=
  src_pur (fun i ρ h' H x e R z => by
    have s' := SqT.ext0 R0 e.toExt0 s
    obtain ⟨v, hv, rv⟩ := (RVs.ext R0 e _ _ r).get z
    exact ⟨⟨vs, v, s', hv⟩, fun v' H' y => by
      have := y.2 vs s'
      rw [hv] at this; cases this
      exact same_ok R y.1 rv⟩)
    fun i ρ h' H e R l => ⟨vs, SqT.ext0 R0 e.toExt0 s, by rw [← r.length]; exact l⟩
theorem src_lst {o : Nat} {a : Addr} (ha : ρ0[o]? = some a) : SrcOk K ca ρ0 H0 (.lst o) (Itl K a) :=
  ⟨fun i ρ h H x e R z => by
    have z : ((h.lst? o).map fun xs => xs[i]?) = some (some x) := z
    cases q : h.lst? o with
    | none => rw [q] at z; cases z
    | some xs =>
      rw [q] at z
      have z : xs[i]? = some x := Option.some.inj z
      obtain ⟨vs, s, r⟩ := lst_at R q (e.at_ ha)
      obtain ⟨v, hv, rv⟩ := r.get z
      exact ⟨⟨vs, v, s, hv⟩, fun v' H' y => by
        have := y.2 vs s
        rw [hv] at this; cases this
        exact same_ok R y.1 rv⟩,
   fun i ρ h H e R z => by
    have z : ((h.lst? o).map fun xs => xs[i]?) = some none := z
    cases q : h.lst? o with
    | none => rw [q] at z; cases z
    | some xs =>
      rw [q] at z
      have z : xs[i]? = none := Option.some.inj z
      obtain ⟨vs, s, r⟩ := lst_at R q (e.at_ ha)
      exact ⟨vs, s, r.get_none z⟩⟩
theorem src_enm {o : Nat} {a : Addr} (ha : ρ0[o]? = some a) : SrcOk K ca ρ0 H0 (.enm o) (Ite K a) :=
  ⟨fun i ρ h H x e R z => by
    have z : ((h.lst? o).map fun xs => xs[i]?.map fun x => PV.tup [.int i, x]) = some (some x) := z
    cases q : h.lst? o with
    | none => rw [q] at z; cases z
    | some xs =>
      rw [q] at z
      have z : (xs[i]?.map fun x => PV.tup [.int i, x]) = some x := Option.some.inj z
      cases q2 : xs[i]? with
      | none => rw [q2] at z; cases z
      | some y =>
        rw [q2] at z; cases z
        obtain ⟨vs, s, r⟩ := lst_at R q (e.at_ ha)
        obtain ⟨v, hv, rv⟩ := r.get q2
        exact ⟨⟨vs, v, s, hv⟩, fun v' H' ⟨T, x', e1, e2, e3, e4⟩ => by
          have := e4 vs s
          rw [hv] at this; cases this
          exact pair_ok R e1 e2 e3 ((RV.int_ _ _).mpr rfl) rv⟩,
   fun i ρ h H e R z => by
    have z : ((h.lst? o).map fun xs => xs[i]?.map fun x => PV.tup [.int i, x]) = some none := z
    cases q : h.lst? o with
    | none => rw [q] at z; cases z
    | some xs =>
      rw [q] at z
      have z : (xs[i]?.map fun x => PV.tup [.int i, x]) = none := Option.some.inj z
      obtain ⟨vs, s, r⟩ := lst_at R q (e.at_ ha)
      exact ⟨vs, s, r.get_none (by cases q2 : xs[i]? with | none => rfl | some y => rw [q2] at z; cases z)⟩⟩
theorem src_rev {o n : Nat} {a : Addr} (ha : ρ0[o]? = some a) : SrcOk K ca ρ0 H0 (.rev o n) (Itv K a n) :=
  ⟨fun i ρ h H x e R z => by
    have z : (match h.lst? o with
      | some xs => if xs.length = n then (if i < n then some xs[n - 1 - i]? else some none) else none
      | none => none) = some (some x) := z
    cases q : h.lst? o with
    | none => rw [q] at z; cases z
    | some xs =>
      rw [q] at z
      have z : (if xs.length = n then (if i < n then some xs[n - 1 - i]? else some none) else none) = some (some x) := z
      by_cases l : xs.length = n
      · rw [if_pos l] at z
        by_cases l2 : i < n
        · rw [if_pos l2] at z
          have z : xs[n - 1 - i]? = some x := Option.some.inj z
          obtain ⟨vs, s, r⟩ := lst_at R q (e.at_ ha)
          obtain ⟨v, hv, rv⟩ := r.get z
          exact ⟨⟨l2, vs, v, s, hv⟩, fun v' H' y => by
            have := y.2 vs s
            rw [hv] at this; cases this
            exact same_ok R y.1 rv⟩
        · rw [if_neg l2] at z; cases z
      · rw [if_neg l] at z; exact (nomatch z),
   fun i ρ h H e R z => by
    have z : (match h.lst? o with
      | some xs => if xs.length = n then (if i < n then some xs[n - 1 - i]? else some none) else none
      | none => none) = some none := z
    cases q : h.lst? o with
    | none => rw [q] at z; cases z
    | some xs =>
      rw [q] at z
      have z : (if xs.length = n then (if i < n then some xs[n - 1 - i]? else some none) else none) = some none := z
      by_cases l : xs.length = n
      · rw [if_pos l] at z
        by_cases l2 : i < n
        · rw [if_pos l2] at z
          have z : xs[n - 1 - i]? = none := Option.some.inj z
          have := List.getElem?_eq_none_iff.mp z
          show n ≤ i
          omega
        · exact Nat.le_of_not_lt l2
      · rw [if_neg l] at z; cases z⟩
theorem src_revT {xs : List PV} {vs : List V} {a : Addr} (R0 : Rel K ca ρ0 h H0) (s : SqT K H0 a vs) (r : RVs K ρ0 H0 xs vs) : SrcOk K ca ρ0 H0 (.pur xs.reverse) (RT.ItvT K a vs.length) :=
  src_pur (fun i ρ h' H x e R z => by
    have s' := SqT.ext0 R0 e.toExt0 s
    have l : i < xs.length := by have := (List.getElem?_eq_some_iff.mp z).1; simpa using this
    rw [List.getElem?_reverse l] at z
    obtain ⟨v, hv, rv⟩ := (RVs.ext R0 e _ _ r).get z
    rw [r.length] at hv l
    exact ⟨⟨l, vs, v, s', hv⟩, fun v' H' y => by
      have := y.2 vs s'
      rw [hv] at this; cases this
      exact same_ok R y.1 rv⟩)
    fun i ρ h' H e R l => by rw [List.length_reverse, r.length] at l; exact l
def rngP (lo : Int) (n : Nat) : List PV := (List.range n).map fun i => .int (lo + (i : Nat))
theorem rngP_get {lo : Int} {n i : Nat} {x : PV} (e : (rngP lo n)[i]? = some x) : i < n ∧ x = .int (lo + (i : Nat)) := by
  unfold rngP at e
  rw [List.getElem?_map] at e
  by_cases l : i < n
  · rw [List.getElem?_range l] at e
    exact ⟨l, by simpa using e.symm⟩
  · rw [List.getElem?_eq_none (by simp; omega)] at e; cases e
theorem rngP_len {lo : Int} {n : Nat} : (rngP lo n).length = n := by simp [rngP]
theorem src_rng {lo : Int} {n : Nat} : SrcOk K ca ρ0 H0 (.pur (rngP lo n)) (Itr lo n) :=
  src_pur (fun i ρ h H x e R z => by
    obtain ⟨l, rfl⟩ := rngP_get z
    exact ⟨l, fun v H' y => same_ok R y.1 ((RV.int_ _ _).mpr y.2)⟩) fun i ρ h H e R l => by rw [rngP_len] at l; exact l
theorem src_revR {a : Int} {n : Nat} : SrcOk K ca ρ0 H0 (.pur (rngP a n).reverse) (Itc (a + (n : Nat) - 1) (-1) n) :=
  src_pur (fun i ρ h H x e R z => by
    have l : i < n := by have := (List.getElem?_eq_some_iff.mp z).1; rw [List.length_reverse, rngP_len] at this; exact this
    rw [List.getElem?_reverse (by rw [rngP_len]; exact l), rngP_len] at z
    obtain ⟨_, rfl⟩ := rngP_get z
    exact ⟨l, fun v H' y => same_ok R y.1 ((RV.int_ _ _).mpr (by rw [y.2]; congr 1; omega))⟩) fun i ρ h H e R l => by rw [List.length_reverse, rngP_len] at l; exact l
def strP (z : Str) : List PV := z.cps.toList.map fun c => .str ⟨#[c]⟩
theorem src_str {z : Str} : SrcOk K ca ρ0 H0 (.pur (strP z)) (Its z) :=
  src_pur (fun i ρ h H x e R q => by
    unfold strP at q
    rw [List.getElem?_map] at q
    cases k : z.cps.toList[i]? with
    | none => rw [k] at q; cases q
    | some c =>
      rw [k] at q; cases q
      have k' : z.cps[i]? = some c := by simpa using k
      refine ⟨show i < z.cps.size by have := (List.getElem?_eq_some_iff.mp k).1; simpa using this, fun v H' y => ?_⟩
      obtain ⟨e1, c', e2, e3⟩ := y
      rw [k'] at e2; cases e2
      exact same_ok R e1 ((RV.str_ _ _).mpr e3)) fun i ρ h H e R l => show z.cps.size ≤ i by simpa [strP] using l
end
/-! zip -/
section
variable {K : PySem.W.Frag} {ca : Nat → Addr} {ρ ρ0 : List Addr} {h : Hh} {H H0 : Hp}
/-- a side stands at an address -/
def SideAt (K : PySem.W.Frag) (ca : Nat → Addr) (ρ0 : List Addr) (H0 : Hp) (a : Addr) (s : Side) : Prop := ∀ ρ h H xs, Ext ρ0 H0 ρ H → Rel K ca ρ h H → s.all h = some xs → ∃ vs, RVs K ρ H xs vs ∧ match s with
  | .tup _ => SqT K H a vs
  | .lst _ => SqL K H a vs
theorem sideT {xs : List PV} {vs : List V} {a : Addr} (R0 : Rel K ca ρ0 h H0) (s : SqT K H0 a vs) (r : RVs K ρ0 H0 xs vs) : SideAt K ca ρ0 H0 a (.tup xs) := fun ρ h H ys e R z => by
  cases z
  exact ⟨vs, RVs.ext R0 e _ _ r, SqT.ext0 R0 e.toExt0 s⟩
theorem sideL {o : Nat} {a : Addr} (ha : ρ0[o]? = some a) : SideAt K ca ρ0 H0 a (.lst o) := fun ρ h H ys e R z => by
  obtain ⟨vs, s, r⟩ := lst_at R z (e.at_ ha)
  exact ⟨vs, r, s⟩
theorem zip_step {s t : Side} {i : Nat} {o : Option PV} (e : Src.step i h (.zip s t) = some o) : ∃ xs ys, s.all h = some xs ∧ t.all h = some ys ∧ ((∃ x y, xs[i]? = some x ∧ ys[i]? = some y ∧ o = some (.tup [x, y])) ∨ ((xs[i]? = none ∨ ys[i]? = none) ∧ o = none)) := by
  have e : (match s.all h, t.all h with
    | some xs, some ys => match xs[i]?, ys[i]? with
      | some x, some y => some (some (PV.tup [x, y]))
      | _, _ => some none
    | _, _ => none) = some o := e
  cases q1 : s.all h with
  | none => rw [q1] at e; cases e
  | some xs =>
    cases q2 : t.all h with
    | none => rw [q1, q2] at e; cases e
    | some ys =>
      rw [q1, q2] at e
      have e : (match xs[i]?, ys[i]? with
        | some x, some y => some (some (PV.tup [x, y]))
        | _, _ => some none) = some o := e
      refine ⟨xs, ys, rfl, rfl, ?_⟩
      cases q3 : xs[i]? with
      | none => rw [q3] at e; exact .inr ⟨.inl rfl, (Option.some.inj e).symm⟩
      | some x =>
        cases q4 : ys[i]? with
        | none => rw [q3, q4] at e; exact .inr ⟨.inr rfl, (Option.some.inj e).symm⟩
        | some y => rw [q3, q4] at e; exact .inl ⟨x, y, rfl, rfl, (Option.some.inj e).symm⟩
theorem src_zipL {o p : Nat} {a b : Addr} (ha : ρ0[o]? = some a) (hb : ρ0[p]? = some b) : SrcOk K ca ρ0 H0 (.zip (.lst o) (.lst p)) (Itz K a b) :=
  ⟨fun i ρ h H x e R z => by
    obtain ⟨xs, ys, q1, q2, q⟩ := zip_step z
    rcases q with ⟨x', y', k1, k2, k3⟩ | ⟨_, k⟩
    · cases k3
      obtain ⟨vs, s1, r1⟩ := lst_at R q1 (e.at_ ha)
      obtain ⟨us, s2, r2⟩ := lst_at R q2 (e.at_ hb)
      obtain ⟨v, hv, rv⟩ := r1.get k1
      obtain ⟨u, hu, ru⟩ := r2.get k2
      exact ⟨⟨vs, us, v, u, s1, s2, hv, hu⟩, fun v' H' ⟨T, x1, y1, e1, e2, e3, e4, e5⟩ => by
        have z1 := e4 vs s1
        have z2 := e5 us s2
        rw [hv] at z1; cases z1
        rw [hu] at z2; cases z2
        exact pair_ok R e1 e2 e3 rv ru⟩
    · exact (nomatch k),
   fun i ρ h H e R z => by
    obtain ⟨xs, ys, q1, q2, q⟩ := zip_step z
    rcases q with ⟨x', y', k1, k2, k3⟩ | ⟨k, _⟩
    · cases k3
    · obtain ⟨vs, s1, r1⟩ := lst_at R q1 (e.at_ ha)
      obtain ⟨us, s2, r2⟩ := lst_at R q2 (e.at_ hb)
      exact ⟨vs, us, s1, s2, k.imp (fun k => r1.get_none k) fun k => r2.get_none k⟩⟩
theorem src_zipT {ws zs : List PV} {a b : Addr} (ha : SideAt K ca ρ0 H0 a (.tup ws)) (hb : SideAt K ca ρ0 H0 b (.tup zs)) : SrcOk K ca ρ0 H0 (.zip (.tup ws) (.tup zs)) (RZ.ItzT K a b) :=
  ⟨fun i ρ h H x e R z => by
    obtain ⟨xs, ys, q1, q2, q⟩ := zip_step z
    rcases q with ⟨x', y', k1, k2, k3⟩ | ⟨_, k⟩
    · cases k3
      obtain ⟨vs, r1, s1⟩ := ha ρ h H xs e R q1
      obtain ⟨us, r2, s2⟩ := hb ρ h H ys e R q2
      obtain ⟨v, hv, rv⟩ := r1.get k1
      obtain ⟨u, hu, ru⟩ := r2.get k2
      exact ⟨⟨vs, us, v, u, s1, s2, hv, hu⟩, fun v' H' ⟨T, x1, y1, e1, e2, e3, e4, e5⟩ => by
        have z1 := e4 vs s1
        have z2 := e5 us s2
        rw [hv] at z1; cases z1
        rw [hu] at z2; cases z2
        exact pair_ok R e1 e2 e3 rv ru⟩
    · exact (nomatch k),
   fun i ρ h H e R z => by
    obtain ⟨xs, ys, q1, q2, q⟩ := zip_step z
    rcases q with ⟨x', y', k1, k2, k3⟩ | ⟨k, _⟩
    · cases k3
    · obtain ⟨vs, r1, s1⟩ := ha ρ h H xs e R q1
      obtain ⟨us, r2, s2⟩ := hb ρ h H ys e R q2
      exact ⟨vs, us, s1, s2, k.imp (fun k => r1.get_none k) fun k => r2.get_none k⟩⟩
end
end DD
set_option Elab.async false
set_option linter.all false
set_option maxRecDepth 100000
set_option maxHeartbeats 4000000
/-! DN: rules of iteration. -/
namespace DD
open PySem PySem.Spec PyProof.Rows L2
variable [Ups]

def iAny (K : PySem.W.Frag) (te : TE) : TI := fun σ H R => te σ H fun v H1 => (∃ a, v = .ref a ∧ (∃ xs, SqL K H1 a xs) ∧ R (Itl K a) H1) ∨ (∃ a, v = .ref a ∧ (∃ xs, SqT K H1 a xs) ∧ R (Itt K a) H1) ∨ ∃ x, v = .str x ∧ R (Its x) H1
theorem pi_any {X : Cx} {tg l : Expr} {tl : TE} (hl : PE X l tl) : PI X tg l (iAny X.K tl) := by
  refine ⟨fun pins s σ H R I h => ?_⟩
  refine thn (hl.run pins s σ H _ I h) fun v s1 ⟨x, H1, I1, r1, q1⟩ => ?_
  rcases q1 with ⟨a, e, ⟨xs, hq⟩, q⟩ | ⟨a, e, ⟨xs, hq⟩, q⟩ | ⟨z, e, q⟩
  · subst e
    cases r1
    obtain ⟨its, rv, p, hz⟩ := I1.list hq
    exact wpAny_pyIter_list p.isList (pi_one (tk := s1.toks) I1 _ (turn_list a _) ⟨_, Heap.get?_push_size _ rfl, rfl, rfl⟩ q)
  · subst e
    cases r1
    obtain ⟨its, rv, p, hz⟩ := I1.tuple hq
    exact wpAny_pyIter_tuple (show s1.heap.IsTuple a its.toArray from p) (pi_one (tk := s1.toks) I1 _ (turn_tuple a _) ⟨_, Heap.get?_push_size _ rfl, rfl, rfl⟩ q)
  · subst e
    obtain ⟨t, rfl⟩ := r1
    cases ha : z.cps.all (· < 128)
    · exact wpAny_pyIter_wide ha (pi_one (tk := s1.toks) I1 _ (turn_str _ z t "str_iterator" (.inr rfl)) ⟨_, Heap.get?_push_size _ rfl, rfl, rfl⟩ q)
    · exact wpAny_pyIter_ascii ha (pi_one (tk := s1.toks) I1 _ (turn_str _ z t "str_ascii_iterator" (.inl rfl)) ⟨_, Heap.get?_push_size _ rfl, rfl, rfl⟩ q)
def anyS (x : PV) (h : Hh) : Res Src := match x with
  | .tup xs => .ok (.pur xs) h
  | .str z => .ok (.pur (strP z)) h
  | .obj o => match h.lst? o with
    | some _ => .ok (.lst o) h
    | none => .bad
  | _ => .bad
def iEv (f : SE) (k : PV → Hh → Res Src) : SI := fun τ h => (f τ h).bind k
section
variable {X : Cx} {ca : Nat → Addr} {W : WX} {pos p : Pos} {tg e e2 : Expr} {f : SE}
theorem pi_iAny (he : PE X e (tD X.K ca W f)) : PI X tg e (tI X.K ca W (iEv f anyS)) :=
  pi_of (pi_any he) fun σ H R ρ τ h R' T x => tD.fst R' T x fun w h1 ρ1 H1 v e1 R1 T1 r x1 => by
    cases w with
    | tup xs =>
      rw [RV.tup_] at r
      obtain ⟨a, vs, rfl, s, rv⟩ := r
      exact .inr (.inl ⟨a, rfl, ⟨vs, s.1⟩, x1 ρ1 H1 _ (Ext.refl _ _) R1 (src_tup R1 s.1 rv)⟩)
    | str z =>
      rw [RV.str_] at r
      exact .inr (.inr ⟨z, r, x1 ρ1 H1 _ (Ext.refl _ _) R1 src_str⟩)
    | obj o =>
      rw [RV.obj_] at r
      obtain ⟨a, ha, rfl⟩ := r
      have x1 : Wp X.K ca (SrcOk X.K ca) (XW X.K ca W σ) ρ1 H1 (fun _ _ _ H' J => R J H') (match h1.lst? o with
        | some _ => .ok (.lst o) h1
        | none => .bad) := x1
      cases q : h1.lst? o with
      | none => rw [q] at x1; exact x1.elim
      | some xs =>
        rw [q] at x1
        obtain ⟨vs, s, _⟩ := lst_at R1 q ha
        exact .inl ⟨a, rfl, ⟨vs, s⟩, x1 ρ1 H1 _ (Ext.refl _ _) R1 (src_lst ha)⟩
    | _ => exact x1.elim
def lim62 (i : Int) : Bool := decide (-(2 ^ 62) ≤ i) && decide (i < 2 ^ 62)
theorem lim62_ok {i : Int} (h : lim62 i = true) : -(2 ^ 62) ≤ i ∧ i < 2 ^ 62 := by
  unfold lim62 at h
  rw [Bool.and_eq_true] at h
  exact ⟨of_decide_eq_true h.1, of_decide_eq_true h.2⟩
/-- range(n), range(a, b) -/
def rng1S (ws : List PV) (h : Hh) : Res Src := match ws with
  | [.int j] => if lim62 j = true then .ok (.pur (rngP 0 j.toNat)) h else .bad
  | _ => .bad
def rng2S (ws : List PV) (h : Hh) : Res Src := match ws with
  | [.int i, .int j] => if lim62 i = true ∧ lim62 j = true then .ok (.pur (rngP i (j - i).toNat)) h else .bad
  | _ => .bad
def iEvL (f : SL) (k : List PV → Hh → Res Src) : SI := fun τ h => (f τ h).bind k
theorem one_inv {K : PySem.W.Frag} {ρ : List Addr} {H : Hp} {w : PV} {vs : List V} (r : RVs K ρ H [w] vs) : ∃ v, vs = [v] ∧ RV K ρ H w v := by
  obtain ⟨v, t, rfl, q, r⟩ := r.inv
  rw [r.inv0]; exact ⟨v, rfl, q⟩
theorem two_inv {K : PySem.W.Frag} {ρ : List Addr} {H : Hp} {w z : PV} {vs : List V} (r : RVs K ρ H [w, z] vs) : ∃ v u, vs = [v, u] ∧ RV K ρ H w v ∧ RV K ρ H z u := by
  obtain ⟨v, t, rfl, q, r⟩ := r.inv
  obtain ⟨u, rfl, r'⟩ := one_inv r
  exact ⟨v, u, rfl, q, r'⟩
theorem rng1_inv {K : PySem.W.Frag} {ca : Nat → Addr} {XX : WX'} {ρ : List Addr} {H : Hp} {Kf : Src → Hh → List Addr → Hp → It → Prop} {ws : List PV} {h : Hh} (x : Wp K ca (SrcOk K ca) XX ρ H Kf (rng1S ws h)) : ∃ j, ws = [.int j] ∧ lim62 j = true ∧ Wp K ca (SrcOk K ca) XX ρ H Kf (.ok (.pur (rngP 0 j.toNat)) h) := by
  unfold rng1S at x
  split at x
  · rename_i j
    by_cases l : lim62 j = true
    · rw [if_pos l] at x; exact ⟨j, rfl, l, x⟩
    · rw [if_neg l] at x; exact x.elim
  · exact x.elim
theorem rng2_inv {K : PySem.W.Frag} {ca : Nat → Addr} {XX : WX'} {ρ : List Addr} {H : Hp} {Kf : Src → Hh → List Addr → Hp → It → Prop} {ws : List PV} {h : Hh} (x : Wp K ca (SrcOk K ca) XX ρ H Kf (rng2S ws h)) : ∃ i j, ws = [.int i, .int j] ∧ lim62 i = true ∧ lim62 j = true ∧ Wp K ca (SrcOk K ca) XX ρ H Kf (.ok (.pur (rngP i (j - i).toNat)) h) := by
  unfold rng2S at x
  split at x
  · rename_i i j
    by_cases l : lim62 i = true ∧ lim62 j = true
    · rw [if_pos l] at x; exact ⟨i, j, rfl, l.1, l.2, x⟩
    · rw [if_neg l] at x; exact x.elim
  · exact x.elim
theorem pi_iRng1 {fl : SL} (hg : Gl X "range") (hm : X.mg "range" = none) (hs : notStar e = true) (ha : PA X [e] (tDL X.K ca W fl)) : PI X tg (.Call (.Name "range" p) [e] [] pos) (tI X.K ca W (iEvL fl rng1S)) :=
  pi_of (pi_range1 hg hm ha (starEach_cons e [] hs)) fun σ H R ρ τ h R' T x => tDL.fst R' T x fun ws2 h2 ρ1 H1 vs e1 R1 T1 r1 x1 => by
    obtain ⟨j, rfl, l, x2⟩ := rng1_inv x1
    obtain ⟨v, rfl, q⟩ := one_inv r1
    rw [RV.int_] at q
    subst q
    exact ⟨j, rfl, (lim62_ok l).1, (lim62_ok l).2, x2 ρ1 H1 _ (Ext.refl _ _) R1 src_rng⟩
theorem pi_iRng2 {fl : SL} (hg : Gl X "range") (hm : X.mg "range" = none) (hs : notStar e = true) (hs2 : notStar e2 = true) (ha : PA X [e, e2] (tDL X.K ca W fl)) : PI X tg (.Call (.Name "range" p) [e, e2] [] pos) (tI X.K ca W (iEvL fl rng2S)) :=
  pi_of (pi_range2 hg hm ha (by rw [starEach_cons e _ hs, starEach_cons e2 _ hs2]; rfl) (starEach_cons e2 [] hs2)) fun σ H R ρ τ h R' T x => tDL.fst R' T x fun ws2 h2 ρ1 H1 vs e1 R1 T1 r1 x1 => by
    obtain ⟨i, j, rfl, l1, l2, x2⟩ := rng2_inv x1
    obtain ⟨v, u, rfl, q, q2⟩ := two_inv r1
    rw [RV.int_] at q q2
    subst q q2
    exact ⟨i, j, rfl, ⟨(lim62_ok l1).1, (lim62_ok l1).2, (lim62_ok l2).1, (lim62_ok l2).2⟩, x2 ρ1 H1 _ (Ext.refl _ _) R1 src_rng⟩
/-- reversed(list or tuple) -/
def revS (x : PV) (h : Hh) : Res Src := match x with
  | .tup xs => .ok (.pur xs.reverse) h
  | .obj o => match h.lst? o with
    | some xs => .ok (.rev o xs.length) h
    | none => .bad
  | _ => .bad
theorem pi_iRev (hg : Gl X "reversed") (hm : X.mg "reversed" = none) (hs : notStar e = true) (he : PE X e (tD X.K ca W f)) : PI X tg (.Call (.Name "reversed" p) [e] [] pos) (tI X.K ca W (iEv f revS)) :=
  pi_of (RT.pi_revA hg hm he (starEach_cons e [] hs)) fun σ H R ρ τ h R' T x => tD.fst R' T x fun w h1 ρ1 H1 v e1 R1 T1 r x1 => by
    cases w with
    | tup xs =>
      rw [RV.tup_] at r
      obtain ⟨a, vs, rfl, s, rv⟩ := r
      exact ⟨a, vs, rfl, .inr ⟨s.1, x1 ρ1 H1 _ (Ext.refl _ _) R1 (src_revT R1 s.1 rv)⟩⟩
    | obj o =>
      rw [RV.obj_] at r
      obtain ⟨a, ha, rfl⟩ := r
      have x1 : Wp X.K ca (SrcOk X.K ca) (XW X.K ca W σ) ρ1 H1 (fun _ _ _ H' J => R J H') (match h1.lst? o with
        | some xs => .ok (.rev o xs.length) h1
        | none => .bad) := x1
      cases q : h1.lst? o with
      | none => rw [q] at x1; exact x1.elim
      | some xs =>
        rw [q] at x1
        obtain ⟨vs, s, rv⟩ := lst_at R1 q ha
        exact ⟨a, vs, rfl, .inl ⟨s, x1 ρ1 H1 _ (Ext.refl _ _) R1 (by rw [← rv.length]; exact src_rev ha)⟩⟩
    | _ => exact x1.elim
/-- reversed(range(n)) -/
def rrgS (x : PV) (h : Hh) : Res Src := match x with
  | .int j => if lim62 j = true then .ok (.pur (rngP 0 j.toNat).reverse) h else .bad
  | _ => .bad
theorem pi_iRRg {p2 pos2 : Pos} (hg : Gl X "reversed") (hm : X.mg "reversed" = none) (hg2 : Gl X "range") (hm2 : X.mg "range" = none) (hs : notStar e = true) (he : PE X e (tD X.K ca W f)) :
    PI X tg (.Call (.Name "reversed" p) [.Call (.Name "range" p2) [e] [] pos2] [] pos) (tI X.K ca W (iEv f rrgS)) :=
  pi_of (pi_revR hg hm (prg_1 hg2 hm2 he (starEach_cons e [] hs)) (by rfl)) fun σ H R ρ τ h R' T x => tD.fst R' T x fun w h1 ρ1 H1 v e1 R1 T1 r x1 => by
    cases w with
    | int j =>
      rw [RV.int_] at r
      have x1 : Wp X.K ca (SrcOk X.K ca) (XW X.K ca W σ) ρ1 H1 (fun _ _ _ H' J => R J H') (if lim62 j = true then .ok (.pur (rngP 0 j.toNat).reverse) h1 else .bad) := x1
      by_cases l : lim62 j = true
      · rw [if_pos l] at x1
        have k := lim62_ok l
        have en : (j - 0).toNat = j.toNat := by rw [Int.sub_zero]
        exact ⟨j, r, by omega, by omega, k.1, k.2, by rw [en]; exact x1 ρ1 H1 _ (Ext.refl _ _) R1 src_revR⟩
      · rw [if_neg l] at x1; exact x1.elim
    | _ => exact x1.elim
/-- enumerate(list) -/
def enmS (ws : List PV) (h : Hh) : Res Src := match ws with
  | [.obj o] => match h.lst? o with
    | some _ => .ok (.enm o) h
    | none => .bad
  | _ => .bad
end
end DD
set_option Elab.async false
set_option linter.all false
set_option maxRecDepth 100000
set_option maxHeartbeats 4000000
/-! DO: enumerate of a tuple, zip of a tuple and a list. -/
namespace DD
open PySem PySem.Spec PyProof.Rows L2
variable [Ups]

theorem meets_enumerate_newT (l : Addr) (xs : Array Value) :
    Meets (Builtin.«enumerate.__new__» ⟨[.type "enumerate", .ref l], []⟩) (fun _ R s => s.heap.IsTuple l xs ∧
      R (.ok (.ret (.ref (s.heap.push { cls := .type "tuple_iterator", data := .fields #[.ref l, .int 0 0] }).objs.size)))
        { s with heap := (s.heap.push { cls := .type "tuple_iterator", data := .fields #[.ref l, .int 0 0] }).push { cls := .type "enumerate", data := .fields #[.none, .bool false, .ref s.heap.objs.size, rawInt 0, .none, .none] } }) :=
  .of_wp fun prog w A R s h => by
    obtain ⟨hp, g, d, tk, os⟩ := s; obtain ⟨hl1, h⟩ := h
    have hsub := sub_enumerate
    have hL1 : Heap.IsTuple (Shared.heap ⟨hp, g, d, tk, os⟩) l xs := hl1
    wp_walk
    refine wpAny_stack_any fun st => wpAny_pure ?_
    split
    · rename_i c _ _ _ _ _
      cases (c == Value.type "enumerate")
      · wp_walk using wpAny_pyIter_tuple hL1
        exact ⟨_, rfl, h⟩
      · wp_walk using wpAny_pyIter_tuple hL1
        exact ⟨_, rfl, h⟩
    · wp_walk using wpAny_pyIter_tuple hL1
      exact ⟨_, rfl, h⟩
section
variable {prog : Program} {w : World} {A : Around} {E : Value → Shared → Prop} {s : Shared}
theorem call_enumerate_tup {l : Addr} {items : Array Value} {Q : Value → Shared → Prop} (hL : s.heap.IsTuple l items)
    (h : ∀ h', IsEnum h' (s.heap.objs.size + 1) s.heap.objs.size 0 .none → h'.IsTupleIter s.heap.objs.size l 0 → h'.objs.size = s.heap.objs.size + 2 →
      (∀ b o, s.heap.get? b = some o → h'.get? b = some o) → Q (.ref (s.heap.objs.size + 1)) { s with heap := h' }) :
    wpAny (model prog w) A (call (.type "enumerate") [.ref l]) Q E s := by
  refine callType_new F.called_enumerate (by decide) (F.typeCall_enumerate_1 _) (F.newCall_enumerate_1 _) (fun obj => F.args_object_init_2 obj _) F.entry_enumerate_new
    (meets_enumerate_newT l items) ⟨hL, ?_⟩
  have hz : (s.heap.push { cls := .type "tuple_iterator", data := .fields #[.ref l, .int 0 0] }).objs.size = s.heap.objs.size + 1 := Heap.size_push ..
  show _ ∧ _
  rw [hz]
  have he : IsEnum ((s.heap.push { cls := .type "tuple_iterator", data := .fields #[.ref l, .int 0 0] }).push
      { cls := .type "enumerate", data := .fields #[.none, .bool false, .ref s.heap.objs.size, rawInt 0, .none, .none] }) (s.heap.objs.size + 1) s.heap.objs.size 0 .none := by
    have := Heap.get?_push_size (s.heap.push { cls := .type "tuple_iterator", data := .fields #[.ref l, .int 0 0] })
      (o := { cls := .type "enumerate", data := .fields #[.none, .bool false, .ref s.heap.objs.size, rawInt 0, .none, .none] }) rfl
    rw [hz] at this; exact this
  refine ⟨⟨_, he, rfl⟩, h _ he ⟨_, Heap.get?_push_of_some _ (Heap.get?_push_size _ rfl), rfl, rfl⟩ (by rw [Heap.size_push, hz]) fun b o x => Heap.get?_push_of_some _ (Heap.get?_push_of_some _ x)⟩
end
/-- the tuple at a, each item in a new pair -/
def IteT (K : PySem.W.Frag) (a : Addr) : It :=
  ⟨fun i H => ∃ (xs : List V) (x : V), SqT K H a xs ∧ xs[i]? = some x, fun i H v H' => ∃ T x, v = .ref T ∧ H T = none ∧ H' = upd H T (.tup [.int (i : Nat), x]) ∧ ∀ xs, SqT K H a xs → xs[i]? = some x, fun i H => ∃ xs : List V, SqT K H a xs ∧ xs.length = i⟩
theorem turn_enumT {P : Program} {w : World} {K : PySem.W.Frag} {elts : List Expr} {kk : Nat} {tpos : Pos} (a e it : Addr) :
    Turn P w K (.Tuple elts kk tpos) (IteT K a) [e, it] e (fun i h => (∃ old, IsEnum h e it ((i : Nat) : Int) old) ∧ h.IsTupleIter it a i ∧ e ≠ it ∧ e ≠ a ∧ a ≠ it) where
  mem := by simp
  obj := fun i h st b hb => by
    obtain ⟨⟨old, he⟩, ⟨o, ho, hc, hd⟩, _⟩ := st
    have e' : b = e ∨ b = it := by simpa using hb
    rcases e' with z | z
    · rw [z]; exact ⟨_, he, fun v q => nomatch q⟩
    · rw [z]; exact ⟨o, ho, fun v q => by rw [hd] at q; cases q⟩
  keep := fun i h h' st k => let ⟨⟨old, he⟩, hi, hne⟩ := st; ⟨⟨old, k e (by simp) _ he⟩, hi.at fun o q => k it (by simp) o q, hne⟩
  item := by
    intro X hP hw hK hc i pins s σ H E I hf st hg
    subst hP hw hK
    obtain ⟨⟨old, he⟩, hit, hne, hea, hai⟩ := st
    obtain ⟨xs, x, hq, hx⟩ := hg
    obtain ⟨its, rv, p, hz⟩ := I.tuple hq
    obtain ⟨u, hu, ru⟩ := rv.get hx
    have hel : e < s.heap.objs.size := Heap.lt_size he
    have hil : it < s.heap.objs.size := by obtain ⟨_, q, _⟩ := hit; exact Heap.lt_size q
    have hlt : i < its.toArray.size := by have := (List.getElem?_eq_some_iff.mp hu).1; simpa using this
    refine wpAny_pyNext_enum_itemC (Draws.tuple (A := X.A.in1) (I.ok.hd hc) it a hai its.toArray) he ⟨hit, p⟩ hlt hne (by simp [hne, hea]) fun u' h' tk hP ho hst hT hsz hk => ?_
    have eu : u' = u := by
      have : its.toArray[i]? = some u' := hP
      simp only [List.getElem?_toArray] at this
      rw [hu] at this; cases this; rfl
    subst eu
    refine ⟨_, rfl, wpAny_letOwnedTupleGo_enum (s := { s with heap := h', toks := tk + 1 }) ho fun h'' he' sb => ?_⟩
    have hT2 : h''.get? s.heap.objs.size = some { cls := .type "tuple", data := .seq #[.int i tk, u'] } := (sb.2 _ (Nat.ne_of_gt hel)).trans hT
    have new : ObjOk X.prog X.w (upd H s.heap.objs.size (.tup [.int (i : Nat), x])) h'' s.heap.objs.size (.tup [.int (i : Nat), x]) :=
      ⟨by show 2 ≤ sizeLine; decide, [.int i tk, u'], .cons ⟨_, rfl⟩ (.cons ru .nil), ⟨_, hT2, rfl, _, rfl⟩⟩
    have I1 : Inv X pins σ (upd H s.heap.objs.size (.tup [.int (i : Nat), x])) { s with heap := h'', toks := tk + 1 } :=
      I.turnedNew (ch := [e, it]) (fun b ob hb q => (sb.2 b (fun z => hb (by simp [z]))).trans (hk b ob (fun z => hb (by simp [z])) (fun z => hb (by simp [z])) q)) hf (Nat.le_refl _) new
    refine ⟨.ref s.heap.objs.size, _, I1, rfl, ⟨_, x, rfl, I.hok.fresh (Nat.le_refl _), rfl, fun ys hy => by rw [I.tuple_inj hy hq]; exact hx⟩, ⟨⟨u', ?_⟩, hst.1.at fun o q => (sb.2 it (Ne.symm hne)).trans q, hne, hea, hai⟩, fun b hb => ?_⟩
    · have e1 : ((i + 1 : Nat) : Int) = (i : Int) + 1 := by omega
      rw [e1]; exact he'
    · have hb' : b < s.heap.objs.size := by
        have e' : b = e ∨ b = it := by simpa using hb
        rcases e' with z | z
        · rw [z]; exact hel
        · rw [z]; exact hil
      rw [upd_ne (Nat.ne_of_lt hb')]
      exact (hf b hb).1
  done := by
    intro X hP hw hK hc i pins s σ H E I hf st hg
    subst hP hw hK
    obtain ⟨⟨old, he⟩, hit, hne, hea, hai⟩ := st
    obtain ⟨xs, hq, hx⟩ := hg
    obtain ⟨its, rv, p, hz⟩ := I.tuple hq
    obtain ⟨f0, f1, f2, f3, f4, f5⟩ := hf it (by simp)
    have hl := rv.length
    have ei : its.toArray.size = i := by simp; omega
    subst ei
    exact wpAny_pyNext_enum_endD (Draws.tuple (A := X.A.in1) (I.ok.hd hc) it a hai its.toArray) he ⟨hit, p⟩ fun h' eb => ⟨rfl, I.turned (t' := s.toks) (fun b o hb q => eb b o hb q) f0 f1 f3 f4 f5⟩
  self := fun A i s Q E st h => let ⟨⟨_, he⟩, _⟩ := st; wpAny_pyIter_enum he h
def iEnumA (K : PySem.W.Frag) (ta : TA) : TI := fun σ H R => ta σ H fun vs H1 => ∃ a xs, vs = [.ref a] ∧ ((SqL K H1 a xs ∧ R (Ite K a) H1) ∨ (SqT K H1 a xs ∧ R (IteT K a) H1))
theorem pi_enumA {X : Cx} {e : Expr} {ta : TA} {p pos tpos : Pos} {elts : List Expr} {kk : Nat} (hg : Gl X "enumerate") (hm : X.mg "enumerate" = none) (ha : PA X [e] ta) (hs : starEach [e] X.env = (false, eval e X.env) :: starEach [] X.env) :
    PI X (.Tuple elts kk tpos) (.Call (.Name "enumerate" p) [e] [] pos) (iEnumA X.K ta) := by
  refine ⟨fun pins s σ H R I h => ?_⟩
  refine Call_ (ld_blt I hg hm boot_enumerate (PyProof.Rows.callWith_type1 (thn (ha.run pos pins s σ H _ I h) fun us s1 ⟨vs, H1, I1, r1, q1⟩ => ?_) hs rfl))
  obtain ⟨a, xs, ex, q⟩ := q1
  subst ex
  cases r1 with
  | cons r rr =>
    cases rr
    cases r
    have fin : ∀ b ∈ [s1.heap.objs.size + 1, s1.heap.objs.size], FpOk X pins H1 b := fun b hb => by
      have e' : b = s1.heap.objs.size + 1 ∨ b = s1.heap.objs.size := by simpa using hb
      have hle : s1.heap.objs.size ≤ b := by
        rcases e' with z | z
        · rw [z]; exact Nat.le_add_right _ _
        · rw [z]; exact Nat.le_refl _
      exact I1.fpOk hle (I1.hok.fresh hle)
    rcases q with ⟨hq, q⟩ | ⟨hq, q⟩
    · obtain ⟨its, rv, p', hz⟩ := I1.list hq
      refine call_enumerate_list p'.isList fun h' he hit hsz hk => wpAny_pyIter_enum he ?_
      have I2 : Inv X pins σ H1 { s1 with heap := h' } := I1.kept (t' := s1.toks) hk
      exact ⟨s1.heap.objs.size + 1, [s1.heap.objs.size + 1, s1.heap.objs.size], _, _, H1, rfl, I2, turn_enum a (s1.heap.objs.size + 1) s1.heap.objs.size, ⟨⟨.none, he⟩, hit, Nat.succ_ne_self _⟩, fin, q⟩
    · obtain ⟨its, rv, p', hz⟩ := I1.tuple hq
      have la : a < s1.heap.objs.size := by obtain ⟨o, ho, _⟩ := id p'; exact Heap.lt_size ho
      refine call_enumerate_tup p' fun h' he hit hsz hk => wpAny_pyIter_enum he ?_
      have I2 : Inv X pins σ H1 { s1 with heap := h' } := I1.kept (t' := s1.toks) hk
      exact ⟨s1.heap.objs.size + 1, [s1.heap.objs.size + 1, s1.heap.objs.size], _, _, H1, rfl, I2, turn_enumT a (s1.heap.objs.size + 1) s1.heap.objs.size, ⟨⟨.none, he⟩, hit, Nat.succ_ne_self _, Nat.ne_of_gt (Nat.lt_succ_of_lt la), Nat.ne_of_lt la⟩, fin, q⟩
/-! ### zip of lists and tuples in any mix -/
def SqK (K : PySem.W.Frag) (t : Bool) (H : Hp) (a : Addr) (xs : List V) : Prop := match t with
  | true => SqT K H a xs
  | false => SqL K H a xs
def IterK (t : Bool) (h : Heap) (it a : Addr) (i : Nat) : Prop := match t with
  | true => h.IsTupleIter it a i
  | false => h.IsListIter it a i
def IsK (t : Bool) (h : Heap) (a : Addr) (its : Array Value) : Prop := match t with
  | true => h.IsTuple a its
  | false => h.IsList a its
theorem IterK.obj {t : Bool} {h : Heap} {it a : Addr} {i : Nat} (x : IterK t h it a i) : ∃ o, h.get? it = some o ∧ ∀ v, o.data ≠ .cell v := by
  cases t with
  | true => obtain ⟨o, e, _, d⟩ := x; exact ⟨o, e, fun v q => by rw [d] at q; cases q⟩
  | false => obtain ⟨o, e, _, d⟩ := x; exact ⟨o, e, fun v q => by rw [d] at q; cases q⟩
theorem IterK.at {t : Bool} {h h' : Heap} {it a : Addr} {i : Nat} (x : IterK t h it a i) (k : ∀ o, h.get? it = some o → h'.get? it = some o) : IterK t h' it a i := by
  cases t with
  | true => exact Heap.IsTupleIter.at x k
  | false => exact Heap.IsListIter.at x k
theorem drawsK {prog : Program} {w : World} {A : Around} (hh : A.handled = none) (t : Bool) (it a : Addr) (hne : a ≠ it) (items : Array Value) :
    Draws prog w A it [it, a] items.size (fun i v => items[i]? = some v) (fun i h => IterK t h it a i ∧ IsK t h a items) := by
  cases t with
  | true => exact Draws.tuple hh it a hne items
  | false => exact Draws.list hh it a hne items
theorem sqK_at {X : Cx} {pins : List (Addr × Obj)} {σ : L2.St} {H : Hp} {s : Shared} {t : Bool} {a : Addr} {xs : List V} (I : Inv X pins σ H s) (q : SqK X.K t H a xs) : ∃ its : List Value, Vals xs its ∧ IsK t s.heap a its.toArray ∧ a < s.heap.objs.size := by
  cases t with
  | true =>
    obtain ⟨its, rv, p, _⟩ := I.tuple q
    obtain ⟨o, ho, _⟩ := id p
    exact ⟨its, rv, p, Heap.lt_size ho⟩
  | false =>
    obtain ⟨its, rv, p, _⟩ := I.list q
    exact ⟨its, rv, p.isList, p.lt⟩
theorem sqK_inj {X : Cx} {pins : List (Addr × Obj)} {σ : L2.St} {H : Hp} {s : Shared} {t : Bool} {a : Addr} {xs ys : List V} (I : Inv X pins σ H s) (q : SqK X.K t H a xs) (q' : SqK X.K t H a ys) : xs = ys := by
  cases t with
  | true => exact I.tuple_inj q q'
  | false => exact I.list_inj q q'
def ItzK (K : PySem.W.Frag) (t u : Bool) (a b : Addr) : It :=
  ⟨fun i H => ∃ (xs ys : List V) (x y : V), SqK K t H a xs ∧ SqK K u H b ys ∧ xs[i]? = some x ∧ ys[i]? = some y,
    fun i H v H' => ∃ T x y, v = .ref T ∧ H T = none ∧ H' = upd H T (.tup [x, y]) ∧ (∀ xs, SqK K t H a xs → xs[i]? = some x) ∧ ∀ ys, SqK K u H b ys → ys[i]? = some y,
    fun i H => ∃ xs ys : List V, SqK K t H a xs ∧ SqK K u H b ys ∧ i ≤ xs.length ∧ i ≤ ys.length ∧ (i = xs.length ∨ i = ys.length)⟩
theorem sepK {z TI TO i1 i2 a b : Addr} (D : ZipApart z TI TO i1 i2 a b) : ZipSep2 z TI TO i1 i2 [i1, a] [i2, b] where
  TIz := D.TIz
  TOz := D.TOz
  TITO := D.TITO
  TIi1 := D.TIi1
  mem1 := by simp
  zf1 := by simp [D.i1z.symm, D.l1z.symm]
  Tf1 := by simp [D.TOi1, D.l1TO.symm]
  TIi2 := D.TIi2
  mem2 := by simp
  zf2 := by simp [D.i2z.symm, D.l2z.symm]
  Tf2 := by simp [D.TOi2, D.l2TO.symm]
  sep1_2 := by simp [D.i12, D.l2i1.symm]
  sep2_1 := by simp [D.i12.symm, D.l1i2.symm]
theorem turn_zipK {P : Program} {w : World} {K : PySem.W.Frag} {elts : List Expr} {kk : Nat} {tpos : Pos} {t u : Bool} {a b z TI TO i1 i2 : Addr} (D : ZipApart z TI TO i1 i2 a b) :
    Turn P w K (.Tuple elts kk tpos) (ItzK K t u a b) [z, TI, TO, i1, i2] z (fun i h => IsZip h z TI TO .none ∧ IsTupOf2 h TI (.ref i1) (.ref i2) ∧ (∃ x y, IsTupOf2 h TO x y) ∧ IterK t h i1 a i ∧ IterK u h i2 b i) where
  mem := by simp
  obj := fun i h st c hc => by
    obtain ⟨hz, hTI, ⟨x, y, hTO⟩, h1, h2⟩ := st
    obtain ⟨o1, e1, d1⟩ := h1.obj
    obtain ⟨o2, e2, d2⟩ := h2.obj
    have e' : c = z ∨ c = TI ∨ c = TO ∨ c = i1 ∨ c = i2 := by simpa using hc
    rcases e' with q | q | q | q | q
    · rw [q]; exact ⟨_, hz, fun v q => nomatch q⟩
    · rw [q]; exact ⟨_, hTI, fun v q => nomatch q⟩
    · rw [q]; exact ⟨_, hTO, fun v q => nomatch q⟩
    · rw [q]; exact ⟨o1, e1, d1⟩
    · rw [q]; exact ⟨o2, e2, d2⟩
  keep := fun i h h' st k => by
    obtain ⟨hz, hTI, ⟨x, y, hTO⟩, h1, h2⟩ := st
    exact ⟨k z (by simp) _ hz, k TI (by simp) _ hTI, ⟨x, y, k TO (by simp) _ hTO⟩, h1.at fun o q => k i1 (by simp) o q, h2.at fun o q => k i2 (by simp) o q⟩
  item := by
    intro X hP hw hK hc i pins s σ H E I hf st hg
    subst hP hw hK
    obtain ⟨hz, hTI, ⟨x0, y0, hTO⟩, h1, h2⟩ := st
    obtain ⟨xs, ys, x, y, hqx, hqy, hx, hy⟩ := hg
    obtain ⟨its, rv, p, _⟩ := sqK_at I hqx
    obtain ⟨its2, rv2, p2, _⟩ := sqK_at I hqy
    obtain ⟨v1, hu, ru⟩ := rv.get hx
    obtain ⟨v2, hu2, ru2⟩ := rv2.get hy
    have hzl : z < s.heap.objs.size := Heap.lt_size hz
    have l1 : i < its.toArray.size := by have := (List.getElem?_eq_some_iff.mp hu).1; simpa using this
    have l2 : i < its2.toArray.size := by have := (List.getElem?_eq_some_iff.mp hu2).1; simpa using this
    refine wpAny_pyNext_zipD2_item (sepK D) (drawsK (A := X.A.in1) (I.ok.hd hc) t i1 a D.l1i1 its.toArray) (drawsK (A := X.A.in1) (I.ok.hd hc) u i2 b D.l2i2 its2.toArray) hz hTI hTO ⟨h1, p⟩ ⟨h2, p2⟩ l1 l2 fun x1 x2 h' tk P1 P2 z' TO' h1' h2' hT hsz hk => ?_
    have eu : x1 = v1 := by
      have : its.toArray[i]? = some x1 := P1
      simp only [List.getElem?_toArray] at this
      rw [hu] at this; cases this; rfl
    have eu2 : x2 = v2 := by
      have : its2.toArray[i]? = some x2 := P2
      simp only [List.getElem?_toArray] at this
      rw [hu2] at this; cases this; rfl
    subst eu eu2
    refine ⟨_, rfl, wpAny_letOwnedTupleGo_zip (s := { s with heap := h', toks := tk }) z' fun h'' z'' sb => ?_⟩
    have hT2 : h''.get? s.heap.objs.size = some { cls := .type "tuple", data := .seq #[x1, x2] } := (sb.2 _ (Nat.ne_of_gt hzl)).trans hT
    have new : ObjOk X.prog X.w (upd H s.heap.objs.size (.tup [x, y])) h'' s.heap.objs.size (.tup [x, y]) :=
      ⟨by show 2 ≤ sizeLine; decide, [x1, x2], .cons ru (.cons ru2 .nil), ⟨_, hT2, rfl, _, rfl⟩⟩
    have I1 : Inv X pins σ (upd H s.heap.objs.size (.tup [x, y])) { s with heap := h'', toks := tk } :=
      I.turnedNew (t' := tk) (ch := [z, TI, TO, i1, i2]) (fun c o hb q => (sb.2 c (fun q' => hb (by simp [q']))).trans (hk c o (fun q' => hb (by simp [q'])) (fun q' => hb (by simp [q'])) (fun q' => hb (by simp [q'])) (fun q' => hb (by simp [q'])) q)) hf (Nat.le_refl _) new
    refine ⟨.ref s.heap.objs.size, _, I1, rfl, ⟨_, x, y, rfl, I.hok.fresh (Nat.le_refl _), rfl, fun l hl => by rw [sqK_inj I hl hqx]; exact hx, fun l hl => by rw [sqK_inj I hl hqy]; exact hy⟩, ⟨z'', ?_, ⟨x1, x2, ?_⟩, ?_, ?_⟩, fun c hcm => ?_⟩
    · exact (sb.2 _ D.TIz).trans (hk _ _ D.TIz D.TITO D.TIi1 D.TIi2 hTI)
    · exact (sb.2 _ D.TOz).trans TO'
    · exact h1'.1.at fun o q => (sb.2 _ D.i1z).trans q
    · exact h2'.1.at fun o q => (sb.2 _ D.i2z).trans q
    · have hlt : c < s.heap.objs.size := by
        have e' : c = z ∨ c = TI ∨ c = TO ∨ c = i1 ∨ c = i2 := by simpa using hcm
        rcases e' with q | q | q | q | q
        · rw [q]; exact hzl
        · rw [q]; exact Heap.lt_size hTI
        · rw [q]; exact Heap.lt_size hTO
        · rw [q]; obtain ⟨_, e1, _⟩ := h1.obj; exact Heap.lt_size e1
        · rw [q]; obtain ⟨_, e2, _⟩ := h2.obj; exact Heap.lt_size e2
      rw [upd_ne (Nat.ne_of_lt hlt)]
      exact (hf c hcm).1
  done := by
    intro X hP hw hK hc i pins s σ H E I hf st hg
    subst hP hw hK
    obtain ⟨hz, hTI, ⟨x0, y0, hTO⟩, h1, h2⟩ := st
    obtain ⟨xs, ys, hqx, hqy, le1, le2, hend⟩ := hg
    obtain ⟨its, rv, p, _⟩ := sqK_at I hqx
    obtain ⟨its2, rv2, p2, _⟩ := sqK_at I hqy
    have l1 := rv.length
    have l2 := rv2.length
    have z1 : its.toArray.size = xs.length := by simp; omega
    have z2 : its2.toArray.size = ys.length := by simp; omega
    exact wpAny_pyNext_zipD2_end (sepK D) (drawsK (A := X.A.in1) (I.ok.hd hc) t i1 a D.l1i1 its.toArray) (drawsK (A := X.A.in1) (I.ok.hd hc) u i2 b D.l2i2 its2.toArray) hz hTI hTO ⟨h1, p⟩ ⟨h2, p2⟩ (by omega) (by omega) (by omega) fun h' tk hk => ⟨rfl, I.turnedL (t' := tk) (ch := [z, TI, TO, i1, i2]) (fun c o hb q =>
      hk c o (fun q' => hb (by simp [q'])) (fun q' => hb (by simp [q'])) (fun q' => hb (by simp [q'])) (fun q' => hb (by simp [q'])) q) hf⟩
  self := fun A i s Q E st h => wpAny_pyIter_zip st.1 h
/-! the sources -/
section
variable {K : PySem.W.Frag} {ca : Nat → Addr} {ρ ρ0 : List Addr} {h : Hh} {H H0 : Hp}
theorem src_enmT {xs : List PV} {vs : List V} {a : Addr} (R0 : Rel K ca ρ0 h H0) (s : SqT K H0 a vs) (r : RVs K ρ0 H0 xs vs) : SrcOk K ca ρ0 H0 (.enmT xs) (IteT K a) :=
  ⟨fun i ρ h' H x e R z => by
    have z : (match xs[i]? with
      | some x => some (some (PV.tup [.int i, x]))
      | none => if xs.length = i then some none else none) = some (some x) := z
    have s' := SqT.ext0 R0 e.toExt0 s
    cases q : xs[i]? with
    | none =>
      rw [q] at z
      have z : (if xs.length = i then some none else none) = some (some x) := z
      by_cases l : xs.length = i
      · rw [if_pos l] at z; cases z
      · rw [if_neg l] at z; cases z
    | some y =>
      rw [q] at z; cases z
      obtain ⟨v, hv, rv⟩ := (RVs.ext R0 e _ _ r).get q
      exact ⟨⟨vs, v, s', hv⟩, fun v' H' ⟨T, x', e1, e2, e3, e4⟩ => by
        have := e4 vs s'
        rw [hv] at this; cases this
        exact pair_ok R e1 e2 e3 ((RV.int_ _ _).mpr rfl) rv⟩,
   fun i ρ h' H e R z => by
    have z : (match xs[i]? with
      | some x => some (some (PV.tup [.int i, x]))
      | none => if xs.length = i then some none else none) = some none := z
    cases q : xs[i]? with
    | some y => rw [q] at z; cases z
    | none =>
      rw [q] at z
      have z : (if xs.length = i then some none else none) = some (none : Option PV) := z
      by_cases l : xs.length = i
      · exact ⟨vs, SqT.ext0 R0 e.toExt0 s, by rw [← r.length]; exact l⟩
      · rw [if_neg l] at z; cases z⟩
def Side.isT : Side → Bool
  | .tup _ => true
  | .lst _ => false
def SideK (K : PySem.W.Frag) (ca : Nat → Addr) (ρ0 : List Addr) (H0 : Hp) (a : Addr) (s : Side) : Prop := ∀ ρ h H xs, Ext ρ0 H0 ρ H → Rel K ca ρ h H → s.all h = some xs → ∃ vs, RVs K ρ H xs vs ∧ SqK K s.isT H a vs
theorem zipM_step {s t : Side} {i : Nat} {o : Option PV} (e : Src.step i h (.zipM s t) = some o) : ∃ xs ys, s.all h = some xs ∧ t.all h = some ys ∧ ((∃ x y, xs[i]? = some x ∧ ys[i]? = some y ∧ o = some (.tup [x, y])) ∨ ((xs[i]? = none ∨ ys[i]? = none) ∧ i ≤ xs.length ∧ i ≤ ys.length ∧ o = none)) := by
  have e : (match s.all h, t.all h with
    | some xs, some ys => match xs[i]?, ys[i]? with
      | some x, some y => some (some (PV.tup [x, y]))
      | _, _ => if i ≤ xs.length ∧ i ≤ ys.length then some none else none
    | _, _ => none) = some o := e
  cases q1 : s.all h with
  | none => rw [q1] at e; cases e
  | some xs =>
    cases q2 : t.all h with
    | none => rw [q1, q2] at e; cases e
    | some ys =>
      rw [q1, q2] at e
      have e : (match xs[i]?, ys[i]? with
        | some x, some y => some (some (PV.tup [x, y]))
        | _, _ => if i ≤ xs.length ∧ i ≤ ys.length then some none else none) = some o := e
      refine ⟨xs, ys, rfl, rfl, ?_⟩
      have fin : ∀ {w : Prop}, w → (if i ≤ xs.length ∧ i ≤ ys.length then some (none : Option PV) else none) = some o → w ∧ i ≤ xs.length ∧ i ≤ ys.length ∧ o = none := fun hw k => by
        by_cases l : i ≤ xs.length ∧ i ≤ ys.length
        · rw [if_pos l] at k; exact ⟨hw, l.1, l.2, (Option.some.inj k).symm⟩
        · rw [if_neg l] at k; cases k
      cases q3 : xs[i]? with
      | none => rw [q3] at e; exact .inr (fin (.inl rfl) e)
      | some x =>
        cases q4 : ys[i]? with
        | none => rw [q3, q4] at e; exact .inr (fin (.inr rfl) e)
        | some y => rw [q3, q4] at e; exact .inl ⟨x, y, rfl, rfl, (Option.some.inj e).symm⟩
theorem src_zipK {s t : Side} {a b : Addr} (ha : SideK K ca ρ0 H0 a s) (hb : SideK K ca ρ0 H0 b t) : SrcOk K ca ρ0 H0 (.zipM s t) (ItzK K s.isT t.isT a b) :=
  ⟨fun i ρ h H x e R z => by
    obtain ⟨xs, ys, q1, q2, q⟩ := zipM_step z
    rcases q with ⟨x', y', k1, k2, k3⟩ | ⟨_, _, _, k⟩
    · cases k3
      obtain ⟨vs, r1, s1⟩ := ha ρ h H xs e R q1
      obtain ⟨us, r2, s2⟩ := hb ρ h H ys e R q2
      obtain ⟨v, hv, rv⟩ := r1.get k1
      obtain ⟨u, hu, ru⟩ := r2.get k2
      exact ⟨⟨vs, us, v, u, s1, s2, hv, hu⟩, fun v' H' ⟨T, x1, y1, e1, e2, e3, e4, e5⟩ => by
        have z1 := e4 vs s1
        have z2 := e5 us s2
        rw [hv] at z1; cases z1
        rw [hu] at z2; cases z2
        exact pair_ok R e1 e2 e3 rv ru⟩
    · exact (nomatch k),
   fun i ρ h H e R z => by
    obtain ⟨xs, ys, q1, q2, q⟩ := zipM_step z
    rcases q with ⟨x', y', k1, k2, k3⟩ | ⟨k, l1, l2, _⟩
    · cases k3
    · obtain ⟨vs, r1, s1⟩ := ha ρ h H xs e R q1
      obtain ⟨us, r2, s2⟩ := hb ρ h H ys e R q2
      rw [r1.length] at l1
      rw [r2.length] at l2
      refine ⟨vs, us, s1, s2, l1, l2, ?_⟩
      rcases k with k | k
      · exact .inl (Nat.le_antisymm l1 (r1.get_none k))
      · exact .inr (Nat.le_antisymm l2 (r2.get_none k))⟩
end
def iZipK (K : PySem.W.Frag) (ta : TA) : TI := fun σ H R => ta σ H fun vs H1 => ∃ (t u : Bool) (a b : Addr) (xs ys : List V), vs = [.ref a, .ref b] ∧ SqK K t H1 a xs ∧ SqK K u H1 b ys ∧ R (ItzK K t u a b) H1
def objK (t : Bool) (a : Addr) : Obj := match t with
  | true => { cls := .type "tuple_iterator", data := .fields #[.ref a, .int 0 0] }
  | false => { cls := .type "list_iterator", data := .fields #[.ref a, .int 0 0] }
theorem beginsK (t : Bool) (a : Addr) (its : Array Value) : Begins (.ref a) (objK t a) (fun h => IsK t h a its) := by
  cases t with
  | true => exact begins_tuple a its
  | false => exact begins_list a its
theorem iterK_of {t : Bool} {h : Heap} {it a : Addr} (e : h.get? it = some (objK t a)) : IterK t h it a 0 := by
  cases t with
  | true => exact ⟨_, e, rfl, rfl⟩
  | false => exact ⟨_, e, rfl, rfl⟩
theorem pi_zipK {X : Cx} {e e2 : Expr} {ta : TA} {p pos tpos : Pos} {elts : List Expr} {kk : Nat} (hg : Gl X "zip") (hm : X.mg "zip" = none) (ha : PA X [e, e2] ta)
    (hs : starEach [e, e2] X.env = (false, eval e X.env) :: starEach [e2] X.env) (hpl : (backTo pos (starEach [e2] X.env)).any (·.1) = false) :
    PI X (.Tuple elts kk tpos) (.Call (.Name "zip" p) [e, e2] [] pos) (iZipK X.K ta) := by
  refine ⟨fun pins s σ H R I h => ?_⟩
  refine Call_ (ld_blt I hg hm PyProof.Rows.boot_zip (PyProof.Rows.callWith_type1 (thn (ha.run pos pins s σ H _ I h) fun us s1 ⟨vs, H1, I1, r1, q1⟩ => ?_) hs hpl))
  obtain ⟨t, u, a, b, xs, ys, ex, hqx, hqy, q⟩ := q1
  subst ex
  cases r1 with
  | cons r rr =>
    cases rr with
    | cons r' rr =>
      cases rr
      cases r
      cases r'
      have fresh5 : ∀ c, c ∈ [s1.heap.objs.size + 4, s1.heap.objs.size + 2, s1.heap.objs.size + 3, s1.heap.objs.size, s1.heap.objs.size + 1] → FpOk X pins H1 c := fun c hcm => by
        have e' : c = s1.heap.objs.size + 4 ∨ c = s1.heap.objs.size + 2 ∨ c = s1.heap.objs.size + 3 ∨ c = s1.heap.objs.size ∨ c = s1.heap.objs.size + 1 := by simpa using hcm
        have hle : s1.heap.objs.size ≤ c := by
          rcases e' with z | z | z | z | z
          · rw [z]; exact Nat.le_add_right _ _
          · rw [z]; exact Nat.le_add_right _ _
          · rw [z]; exact Nat.le_add_right _ _
          · rw [z]; exact Nat.le_refl _
          · rw [z]; exact Nat.le_add_right _ _
        exact I1.fpOk hle (I1.hok.fresh hle)
      obtain ⟨its, rv, p1, la⟩ := sqK_at I1 hqx
      obtain ⟨its2, rv2, p2, lb⟩ := sqK_at I1 hqy
      refine zip_begins2 (beginsK t a its.toArray) (beginsK u b its2.toArray) p1 p2 fun h' hz hTI hTO h1 h2 hsz hk => wpAny_pyIter_zip hz ?_
      have I2 : Inv X pins σ H1 { s1 with heap := h' } := I1.kept (t' := s1.toks) hk
      exact ⟨s1.heap.objs.size + 4, [s1.heap.objs.size + 4, s1.heap.objs.size + 2, s1.heap.objs.size + 3, s1.heap.objs.size, s1.heap.objs.size + 1], _, _, H1, rfl, I2, turn_zipK (PySem.W.ktu_apart s1.heap.objs.size a b la lb), ⟨hz, hTI, ⟨_, _, hTO⟩, iterK_of h1, iterK_of h2⟩, fresh5, q⟩
/-! the rules -/
def sideS (x : PV) (h : Hh) : Option Side := match x with
  | .tup xs => some (.tup xs)
  | .obj o => match h.lst? o with
    | some _ => some (.lst o)
    | none => none
  | _ => none
def zipS (ws : List PV) (h : Hh) : Res Src := match ws with
  | [x, y] => match sideS x h, sideS y h with
    | some s, some t => .ok (.zipM s t) h
    | _, _ => .bad
  | _ => .bad
def enmAS (ws : List PV) (h : Hh) : Res Src := match ws with
  | [.obj o] => match h.lst? o with
    | some _ => .ok (.enm o) h
    | none => .bad
  | [.tup xs] => .ok (.enmT xs) h
  | _ => .bad
section
variable {X : Cx} {ca : Nat → Addr} {W : WX} {pos p : Pos} {e e2 : Expr} {fl : SL} {elts : List Expr} {kk : Nat} {tpos : Pos}
theorem side_at {K : PySem.W.Frag} {ρ : List Addr} {h : Hh} {H : Hp} {x : PV} {v : V} {s : Side} (R : Rel K ca ρ h H) (r : RV K ρ H x v) (e : sideS x h = some s) : ∃ a xs, v = .ref a ∧ SqK K s.isT H a xs ∧ SideK K ca ρ H a s := by
  cases x with
  | tup xs =>
    cases e
    rw [RV.tup_] at r
    obtain ⟨a, vs, rfl, s, rv⟩ := r
    exact ⟨a, vs, rfl, s.1, fun ρ' h' H' ys e' R' z => by cases z; exact ⟨vs, RVs.ext R e' _ _ rv, SqT.ext0 R e'.toExt0 s.1⟩⟩
  | obj o =>
    rw [RV.obj_] at r
    obtain ⟨a, ha, rfl⟩ := r
    have e : (match h.lst? o with
      | some _ => some (Side.lst o)
      | none => none) = some s := e
    cases q : h.lst? o with
    | none => rw [q] at e; cases e
    | some xs =>
      rw [q] at e
      cases e
      obtain ⟨vs, sq, rv⟩ := lst_at R q ha
      exact ⟨a, vs, rfl, sq, fun ρ' h' H' ys e' R' z => by obtain ⟨vs, s, r⟩ := lst_at R' z (e'.at_ ha); exact ⟨vs, r, s⟩⟩
  | _ => cases e
theorem pi_iZip (hg : Gl X "zip") (hm : X.mg "zip" = none) (hs : notStar e = true) (hs2 : notStar e2 = true) (ha : PA X [e, e2] (tDL X.K ca W fl)) : PI X (.Tuple elts kk tpos) (.Call (.Name "zip" p) [e, e2] [] pos) (tI X.K ca W (iEvL fl zipS)) :=
  pi_of (pi_zipK hg hm ha (starEach_cons e [e2] hs) (starEach_all [e2] (by simp [hs2]) pos)) fun σ H R ρ τ h R' T x => tDL.fst R' T x fun ws2 h2 ρ1 H1 vs e1 R1 T1 r1 x1 => by
    unfold zipS at x1
    split at x1
    · rename_i x y
      obtain ⟨v, u, rfl, q1, q2⟩ := two_inv r1
      split at x1
      · rename_i s t z1 z2
        obtain ⟨a, xs, rfl, k1, k2⟩ := side_at R1 q1 z1
        obtain ⟨b, ys, rfl, l1, l2⟩ := side_at R1 q2 z2
        exact ⟨s.isT, t.isT, a, b, xs, ys, rfl, k1, l1, x1 ρ1 H1 _ (Ext.refl _ _) R1 (src_zipK k2 l2)⟩
      · exact x1.elim
    · exact x1.elim
theorem pi_iEnm (hg : Gl X "enumerate") (hm : X.mg "enumerate" = none) (hs : notStar e = true) (ha : PA X [e] (tDL X.K ca W fl)) : PI X (.Tuple elts kk tpos) (.Call (.Name "enumerate" p) [e] [] pos) (tI X.K ca W (iEvL fl enmAS)) :=
  pi_of (pi_enumA hg hm ha (starEach_cons e [] hs)) fun σ H R ρ τ h R' T x => tDL.fst R' T x fun ws2 h2 ρ1 H1 vs e1 R1 T1 r1 x1 => by
    unfold enmAS at x1
    split at x1
    · rename_i o
      obtain ⟨v, rfl, q1⟩ := one_inv r1
      rw [RV.obj_] at q1
      obtain ⟨a, ha, rfl⟩ := q1
      split at x1
      · rename_i xs z
        obtain ⟨vs, sq, rv⟩ := lst_at R1 z ha
        exact ⟨a, vs, rfl, .inl ⟨sq, x1 ρ1 H1 _ (Ext.refl _ _) R1 (src_enm ha)⟩⟩
      · exact x1.elim
    · rename_i xs
      obtain ⟨v, rfl, q1⟩ := one_inv r1
      rw [RV.tup_] at q1
      obtain ⟨a, vs, rfl, s, rv⟩ := q1
      exact ⟨a, vs, rfl, .inr ⟨s.1, x1 ρ1 H1 _ (Ext.refl _ _) R1 (src_enmT R1 s.1 rv)⟩⟩
    · exact x1.elim
end
end DD
set_option Elab.async false
set_option linter.all false
set_option maxRecDepth 100000
set_option maxHeartbeats 4000000
/-! DP: comprehensions; dicts walked. -/
namespace DD
open PySem PySem.Spec PyProof.Rows L2
variable [Ups]

/-- no exception may leave a comprehension's block -/
def Res.nox {α : Type} : Res α → Res α
  | .exc _ _ _ => .bad
  | r => r
theorem Wp.nox {α β : Type} {K : PySem.W.Frag} {ca : Nat → Addr} {RA : List Addr → Hp → α → β → Prop} {XX XX' : WX'} {ρ : List Addr} {H : Hp} {Kf : α → Hh → List Addr → Hp → β → Prop} {r : Res α} (x : Wp K ca RA XX ρ H Kf r.nox) : Wp K ca RA XX' ρ H Kf r := by
  cases r with
  | ok a h => exact x
  | exc c fs h => exact x.elim
  | bad => exact x.elim
def lcGo (s : Src) (τ : Env') (p : Pat) (tt : ST) (te : SE) (d : Nat) : Nat → Nat → Hh → Res PV
  | 0, _, _ => .bad
  | n + 1, i, h => match s.step i h with
    | none => .bad
    | some none => .ok (.obj d) h
    | some (some x) => match patS p x τ with
      | none => .bad
      | some τ2 => (tt τ2 h).nox.bind fun b h => if b = true then (te τ2 h).nox.bind fun y h => match h.get d with
          | some (.lst acc) => if acc.length < lim then lcGo s τ p tt te d n (i + 1) (h.put d (.lst (acc ++ [y]))) else .bad
          | _ => .bad
        else lcGo s τ p tt te d n (i + 1) h
def dcGo (s : Src) (τ : Env') (p : Pat) (tt : ST) (tk te : SE) (d : Nat) : Nat → Nat → Hh → Res PV
  | 0, _, _ => .bad
  | n + 1, i, h => match s.step i h with
    | none => .bad
    | some none => .ok (.obj d) h
    | some (some x) => match patS p x τ with
      | none => .bad
      | some τ2 => (tt τ2 h).nox.bind fun b h => if b = true then (tk τ2 h).nox.bind fun k h => (te τ2 h).nox.bind fun y h => match h.get d, keyP k with
          | some (.dct kvs), some k => if kvs.length < lim then dcGo s τ p tt tk te d n (i + 1) (h.put d (.dct (putP kvs k y))) else .bad
          | _, _ => .bad
        else dcGo s τ p tt tk te d n (i + 1) h
def eLc (n : Nat) (f : SI) (own : List Nat) (p : Pat) (tt : ST) (te : SE) : SE := fun τ h => (f τ h).bind fun s h => lcGo s (wipeP τ own) p tt te h.n n 0 (h.push (.lst []))
def eDc (n : Nat) (f : SI) (own : List Nat) (p : Pat) (tt : ST) (tk te : SE) : SE := fun τ h => (f τ h).bind fun s h => dcGo s (wipeP τ own) p tt tk te h.n n 0 (h.push (.dct []))
theorem wipe_wipe {σ : L2.St} {vs : List Nat} : L2.wipe (L2.wipe σ vs) vs = L2.wipe σ vs := List.ext_getElem? fun j => by
  rw [wipe_get (σ := L2.wipe σ vs), wipe_length]
  by_cases q : j ∈ vs ∧ j < σ.length
  · rw [if_pos q, wipe_get, if_pos q]
  · rw [if_neg q]
abbrev W0 : WX := fun _ _ _ _ => False
section
variable {K : PySem.W.Frag} {ca : Nat → Addr} {XX : WX'} {σ : L2.St} {τ : Env'} {s : Src} {J : It} {p : Pat} {tt : ST} {te tk : SE} {own : List Nat} {ρ1 : List Addr} {h1 : Hh} {H1 : Hp} {Q : VK}
theorem stepW {ρ : List Addr} {H : Hp} {h : Hh} {o : Option (Option PV)} {k : PV → Res PV} {st : Res PV} (x : WpQ K ca XX ρ H Q (match o with
    | none => .bad
    | some none => st
    | some (some x) => k x)) : (o = some none ∧ WpQ K ca XX ρ H Q st) ∨ ∃ w, o = some (some w) ∧ WpQ K ca XX ρ H Q (k w) := by
  cases o with
  | none => exact x.elim
  | some o =>
    cases o with
    | none => exact .inl ⟨rfl, x⟩
    | some w => exact .inr ⟨w, rfl, x⟩
theorem patW {ρ : List Addr} {H : Hp} {o : Option Env'} {k : Env' → Res PV} (x : WpQ K ca XX ρ H Q (match o with
    | none => .bad
    | some τ => k τ)) : ∃ τ2, o = some τ2 ∧ WpQ K ca XX ρ H Q (k τ2) := by
  cases o with
  | none => exact x.elim
  | some τ => exact ⟨τ, rfl, x⟩
theorem lc_go (hp : ∀ i ∈ p.slots, i ∈ own) (k : SrcOk K ca ρ1 H1 s J) (n : Nat) (R : Rel K ca ρ1 h1 H1) (T : EnvR K ρ1 H1 τ σ) (x : WpQ K ca XX ρ1 H1 Q (lcGo s (wipeP τ own) p tt te h1.n n 0 (h1.push (.lst [])))) (D : Addr) (hD : H1 D = none) :
    ∃ Wn : Nat → Nat → Hp → Prop, (∃ m, Wn 0 m (upd H1 D (.lst []))) ∧ ∀ i m H, Wn i m H →
  (J.stop i H ∧ Q (.ref D) H) ∨ (J.go i H ∧ ∃ Nx : Hp → Prop, (∀ H', Nx H' → ∃ m', m' < m ∧ Wn (i + 1) m' H') ∧ ∀ x H', J.yld i H x H' → tP K p x (L2.wipe σ own) H' fun σ2 H2 => L2.wipe σ2 own = L2.wipe σ own ∧ tDT K ca W0 tt σ2 H2 fun b H3 =>
    if b = true then tD K ca W0 te σ2 H3 fun y H4 => ∃ acc, H4 D = some (.lst acc) ∧ acc.length < sizeLine ∧ Nx (upd H4 D (.lst (acc ++ [y]))) else Nx H3) := by
  have E0 : Ext ρ1 H1 (ρ1 ++ [D]) (upd H1 D (.lst [])) := Ext.new hD
  have R0 : Rel K ca (ρ1 ++ [D]) (h1.push (.lst [])) (upd H1 D (.lst [])) := R.new hD ⟨[], rfl, .nil⟩
  have aD : (ρ1 ++ [D])[h1.n]? = some D := R.atNew
  have T0 := EnvR.wipe (EnvR.ext R E0 T) own
  refine ⟨fun i m H => ∃ ρ h, Ext ρ1 H1 ρ H ∧ Rel K ca ρ h H ∧ ρ[h1.n]? = some D ∧ EnvR K ρ H (wipeP τ own) (L2.wipe σ own) ∧ WpQ K ca XX ρ H Q (lcGo s (wipeP τ own) p tt te h1.n m i h), ⟨n, _, _, E0, R0, aD, T0, Wp.ext E0 x⟩, ?_⟩
  rintro i m H ⟨ρ, h, E, R, aD, T, x⟩
  cases m with
  | zero => exact x.elim
  | succ m =>
    rcases stepW (h := h) x with ⟨z, x⟩ | ⟨w, z, x⟩
    · exact .inl ⟨k.stop i ρ h H E R z, Wp.val R x ((RV.obj_ _ _).mpr ⟨D, aD, rfl⟩)⟩
    · obtain ⟨g1, g2⟩ := k.go i ρ h H w E R z
      obtain ⟨τ2, zp, x⟩ := patW x
      refine .inr ⟨g1, fun H => ∃ ρ h, Ext ρ1 H1 ρ H ∧ Rel K ca ρ h H ∧ ρ[h1.n]? = some D ∧ EnvR K ρ H (wipeP τ own) (L2.wipe σ own) ∧ WpQ K ca XX ρ H Q (lcGo s (wipeP τ own) p tt te h1.n m (i + 1) h), fun H' q => ⟨m, Nat.lt_succ_self _, q⟩, fun v H' y => ?_⟩
      obtain ⟨E2, R2, r2⟩ := g2 v H' y
      refine pat_sound p w v _ τ2 _ r2 (EnvR.ext R E2 T) zp fun σ2 T2 f2 => ⟨?_, ρ, τ2, h, R2, T2, ?_⟩
      · rw [f2 own hp, wipe_wipe]
      · have x := Wp.ext E2 x
        refine Wp.nox ((x.bind (RA := fun _ _ (a b : Bool) => b = a)).imp fun b h3 ρ3 H3 b' e3 R3 rb x3 => ?_)
        subst rb
        cases b' with
        | false => exact ⟨ρ3, h3, E.trans (E2.trans e3), R3, e3.at_ (E2.at_ aD), EnvR.ext R2 e3 (EnvR.ext R E2 T), x3⟩
        | true =>
          refine ⟨ρ3, τ2, h3, R3, EnvR.ext R2 e3 T2, Wp.nox ((x3.bind (RA := RV K)).imp fun y h4 ρ4 H4 yv e4 R4 ry x4 => ?_)⟩
          have x4 : WpQ K ca XX ρ4 H4 Q (match h4.get h1.n with
            | some (.lst acc) => if acc.length < lim then lcGo s (wipeP τ own) p tt te h1.n m (i + 1) (h4.put h1.n (.lst (acc ++ [y]))) else .bad
            | _ => .bad) := x4
          split at x4
          · rename_i acc q
            obtain ⟨x5, x4⟩ := WpQ.iff x4
            obtain ⟨a', u, k1, k2, vs, rfl, rv⟩ := R4.obj q
            have aD4 := e4.at_ (e3.at_ (E2.at_ aD))
            rw [aD4] at k1; cases k1
            have Ew : Ext ρ4 H4 ρ4 (upd H4 D (.lst (vs ++ [yv]))) := Ext.write aD4 ⟨_, k2⟩ (by rw [k2]; trivial)
            have EE := (E2.trans e3).trans e4
            exact ⟨vs, k2, by rw [← rv.length]; exact lt_lim x5, ρ4, _, (E.trans EE).trans Ew, R4.write (o := .lst (acc ++ [y])) aD4 ⟨_, rfl, rv.app (.cons ry .nil)⟩, aD4, EnvR.ext R4 Ew (EnvR.ext R3 e4 (EnvR.ext R2 e3 (EnvR.ext R E2 T))), Wp.ext Ew x4⟩
          · exact x4.elim
theorem dc_go (hp : ∀ i ∈ p.slots, i ∈ own) (k : SrcOk K ca ρ1 H1 s J) (n : Nat) (R : Rel K ca ρ1 h1 H1) (T : EnvR K ρ1 H1 τ σ) (x : WpQ K ca XX ρ1 H1 Q (dcGo s (wipeP τ own) p tt tk te h1.n n 0 (h1.push (.dct [])))) (D : Addr) (hD : H1 D = none) :
    ∃ Wn : Nat → Nat → Hp → Prop, (∃ m, Wn 0 m (upd H1 D (.dK []))) ∧ ∀ i m H, Wn i m H →
  (J.stop i H ∧ Q (.ref D) H) ∨ (J.go i H ∧ ∃ Nx : Hp → Prop, (∀ H', Nx H' → ∃ m', m' < m ∧ Wn (i + 1) m' H') ∧ ∀ x H', J.yld i H x H' → tP K p x (L2.wipe σ own) H' fun σ2 H2 => L2.wipe σ2 own = L2.wipe σ own ∧ tDT K ca W0 tt σ2 H2 fun b H3 =>
    if b = true then tD K ca W0 tk σ2 H3 fun y H4 => tD K ca W0 te σ2 H4 fun z H5 => ∃ kvs k, y = kV k ∧ H5 D = some (.dK kvs) ∧ kvs.length < sizeLine ∧ Nx (upd H5 D (.dK (putK kvs k z))) else Nx H3) := by
  have E0 : Ext ρ1 H1 (ρ1 ++ [D]) (upd H1 D (.dK [])) := Ext.new hD
  have R0 : Rel K ca (ρ1 ++ [D]) (h1.push (.dct [])) (upd H1 D (.dK [])) := R.new hD ⟨[], rfl, rfl⟩
  have aD : (ρ1 ++ [D])[h1.n]? = some D := R.atNew
  have T0 := EnvR.wipe (EnvR.ext R E0 T) own
  refine ⟨fun i m H => ∃ ρ h, Ext ρ1 H1 ρ H ∧ Rel K ca ρ h H ∧ ρ[h1.n]? = some D ∧ EnvR K ρ H (wipeP τ own) (L2.wipe σ own) ∧ WpQ K ca XX ρ H Q (dcGo s (wipeP τ own) p tt tk te h1.n m i h), ⟨n, _, _, E0, R0, aD, T0, Wp.ext E0 x⟩, ?_⟩
  rintro i m H ⟨ρ, h, E, R, aD, T, x⟩
  cases m with
  | zero => exact x.elim
  | succ m =>
    rcases stepW (h := h) x with ⟨z, x⟩ | ⟨w, z, x⟩
    · exact .inl ⟨k.stop i ρ h H E R z, Wp.val R x ((RV.obj_ _ _).mpr ⟨D, aD, rfl⟩)⟩
    · obtain ⟨g1, g2⟩ := k.go i ρ h H w E R z
      obtain ⟨τ2, zp, x⟩ := patW x
      refine .inr ⟨g1, fun H => ∃ ρ h, Ext ρ1 H1 ρ H ∧ Rel K ca ρ h H ∧ ρ[h1.n]? = some D ∧ EnvR K ρ H (wipeP τ own) (L2.wipe σ own) ∧ WpQ K ca XX ρ H Q (dcGo s (wipeP τ own) p tt tk te h1.n m (i + 1) h), fun H' q => ⟨m, Nat.lt_succ_self _, q⟩, fun v H' y => ?_⟩
      obtain ⟨E2, R2, r2⟩ := g2 v H' y
      refine pat_sound p w v _ τ2 _ r2 (EnvR.ext R E2 T) zp fun σ2 T2 f2 => ⟨?_, ρ, τ2, h, R2, T2, ?_⟩
      · rw [f2 own hp, wipe_wipe]
      · have x := Wp.ext E2 x
        refine Wp.nox ((x.bind (RA := fun _ _ (a b : Bool) => b = a)).imp fun b h3 ρ3 H3 b' e3 R3 rb x3 => ?_)
        subst rb
        cases b' with
        | false => exact ⟨ρ3, h3, E.trans (E2.trans e3), R3, e3.at_ (E2.at_ aD), EnvR.ext R2 e3 (EnvR.ext R E2 T), x3⟩
        | true =>
          refine ⟨ρ3, τ2, h3, R3, EnvR.ext R2 e3 T2, Wp.nox ((x3.bind (RA := RV K)).imp fun kw h4 ρ4 H4 kv e4 R4 rk x4 => ⟨ρ4, τ2, h4, R4, EnvR.ext R3 e4 (EnvR.ext R2 e3 T2), Wp.nox ((x4.bind (RA := RV K)).imp fun y h5 ρ5 H5 yv e5 R5 ry x5 => ?_)⟩)⟩
          have x5 : WpQ K ca XX ρ5 H5 Q (match h5.get h1.n, keyP kw with
            | some (.dct kvs), some k => if kvs.length < lim then dcGo s (wipeP τ own) p tt tk te h1.n m (i + 1) (h5.put h1.n (.dct (putP kvs k y))) else .bad
            | _, _ => .bad) := x5
          split at x5
          · rename_i kvs kk q qk
            obtain ⟨l5, x5⟩ := WpQ.iff x5
            obtain ⟨a', u, k1, k2, vs, rfl, rv⟩ := R5.obj q
            have aD5 := e5.at_ (e4.at_ (e3.at_ (E2.at_ aD)))
            rw [aD5] at k1; cases k1
            have ek := keyP_ok rk qk
            have Ew : Ext ρ5 H5 ρ5 (upd H5 D (.dK (putK vs kk yv))) := Ext.write aD5 ⟨_, k2⟩ (by rw [k2]; trivial)
            have EE := ((E2.trans e3).trans e4).trans e5
            exact ⟨vs, kk, ek, k2, by rw [← rv.length]; exact lt_lim l5, ρ5, _, (E.trans EE).trans Ew, R5.write (o := .dct (putP kvs kk y)) aD5 ⟨_, rfl, rv.put kk ry⟩, aD5, EnvR.ext R5 Ew (EnvR.ext R4 e5 (EnvR.ext R3 e4 (EnvR.ext R2 e3 (EnvR.ext R E2 T)))), Wp.ext Ew x5⟩
          · exact x5.elim
end
section
variable {X : Cx} {ca : Nat → Addr} {W : WX} {f : SI} {p : Pat} {tt : ST} {te tk : SE} {elt kx vx tg iter : Expr} {ifs : List Expr} {scope : Scope} {own : List (Str × Nat)} {pos : Pos}
theorem tI.fst {α β : Type} {RB : List Addr → Hp → α → β → Prop} {K : PySem.W.Frag} {σ : L2.St} {ρ : List Addr} {τ : Env'} {h : Hh} {H : Hp} {k : Src → Hh → Res α} {Kf : α → Hh → List Addr → Hp → β → Prop} (R : Rel K ca ρ h H) (T : EnvR K ρ H τ σ) (x : Wp K ca RB (XW K ca W σ) ρ H Kf ((f τ h).bind k)) {P : It → Hp → Prop}
    (g : ∀ w h1 ρ1 H1 v, Ext ρ H ρ1 H1 → Rel K ca ρ1 h1 H1 → EnvR K ρ1 H1 τ σ → SrcOk K ca ρ1 H1 w v → Wp K ca RB (XW K ca W σ) ρ1 H1 Kf (k w h1) → P v H1) : tI K ca W f σ H P :=
  ⟨ρ, τ, h, R, T, (x.bind (RA := SrcOk K ca)).imp fun w h1 ρ1 H1 v e R1 r x1 => g w h1 ρ1 H1 v e R1 (EnvR.ext R e T) r x1⟩
theorem pe_eLc (n : Nat) (hc : X.calm = true) (hN : X.N.Nodup) (hi : PI X tg iter (tI X.K ca W f)) (ok : BlkOk X.N X.env.scope scope own) (hp : ∀ i ∈ p.slots, i ∈ own.map (·.2))
    (hg : ∀ (s : Shared) (H : Hp) (C : Addr) (cl : List (Str × Addr)) (fp : List Addr), PG (X.blk s H scope (compEnvC scope cl C X.env) fp) tg (tP X.K p)) (ht : ∀ (s : Shared) (H : Hp) (C : Addr) (cl : List (Str × Addr)) (fp : List Addr), PTs (X.blk s H scope (compEnvC scope cl C X.env) fp) ifs (tDT X.K ca W0 tt))
    (he : ∀ (s : Shared) (H : Hp) (C : Addr) (cl : List (Str × Addr)) (fp : List Addr), PE (X.blk s H scope (compEnvC scope cl C X.env) fp) elt (tD X.K ca W0 te)) (hs : ∀ x, foldedSetIterable iter X.env x = pure x) :
    PE X (.ListComp elt [⟨tg, iter, ifs, 0⟩] scope pos) (tD X.K ca W (eLc n f (own.map (·.2)) p tt te)) :=
  pe_of (pe_lc hc hN hi ok hg ht he hs) fun σ H Q ρ τ h R T x => tI.fst R T x fun s h1 ρ1 H1 J e1 R1 T1 k x1 D hD => lc_go hp k n R1 T1 x1 D hD
theorem ps_eLc {i : Nat} {y : Str} {py spos : Pos} (n : Nat) (hc : X.calm = true) (hN : X.N.Nodup) (hy : X.N[i]? = some y) (hyl : X.env.scope.names.lookup y = some .local)
    (hsw : swapsWith (.ListComp elt [⟨tg, iter, ifs, 0⟩] scope pos) (some (.Name y py)) spos.line X.env = pure true) (hi : PI X tg iter (tI X.K ca W f)) (ok : BlkOk X.N X.env.scope scope own) (hp : ∀ i ∈ p.slots, i ∈ own.map (·.2))
    (hg : ∀ (s : Shared) (H : Hp) (C : Addr) (cl : List (Str × Addr)) (fp : List Addr), PG (X.blk s H scope (compEnvC scope cl C X.env) fp) tg (tP X.K p)) (ht : ∀ (s : Shared) (H : Hp) (C : Addr) (cl : List (Str × Addr)) (fp : List Addr), PTs (X.blk s H scope (compEnvC scope cl C X.env) fp) ifs (tDT X.K ca W0 tt))
    (he : ∀ (s : Shared) (H : Hp) (C : Addr) (cl : List (Str × Addr)) (fp : List Addr), PE (X.blk s H scope (compEnvC scope cl C X.env) fp) elt (tD X.K ca W0 te)) (hs : ∀ x, foldedSetIterable iter X.env x = pure x) :
    PS X (.Assign [.Name y py] (.ListComp elt [⟨tg, iter, ifs, 0⟩] scope pos) spos) (tS X.K ca W (sAsg' (eLc n f (own.map (·.2)) p tt te) (gN i))) :=
  ps_of (ps_setLc hc hN hy hyl hsw hi ok hg ht he hs) fun D σ H ρ τ h R T x => by
    have x : WpS X.K ca W ρ H D ((eLc n f (own.map (·.2)) p tt te τ h).st τ fun w h => (gN i w τ h).only) := x
    show tLc (tI X.K ca W f) (tP X.K p) (tDT X.K ca W0 tt) (tD X.K ca W0 te) (own.map (·.2)) σ H fun y H1 => gName i y σ H1 D.nx
    have y : WpQ X.K ca (XW X.K ca W σ) ρ H (fun y H1 => gName i y σ H1 D.nx) (eLc n f (own.map (·.2)) p tt te τ h) :=
      (Wp.st (RA := RV X.K) T R x).imp fun w h1 ρ1 H1 v e R1 r x1 => x1 ρ1 H1 _ (Ext.refl _ _) R1 ((EnvR.ext R e T).set r i)
    exact tI.fst R T y fun s h1 ρ1 H1 J e1 R1 T1 k x1 D hD => lc_go hp k n R1 T1 x1 D hD
theorem pe_eDc (n : Nat) (hc : X.calm = true) (hN : X.N.Nodup) (hi : PI X tg iter (tI X.K ca W f)) (ok : BlkOk X.N X.env.scope scope own) (hp : ∀ i ∈ p.slots, i ∈ own.map (·.2))
    (hg : ∀ (s : Shared) (H : Hp) (C : Addr) (cl : List (Str × Addr)) (fp : List Addr), PG (X.blk s H scope (compEnvC scope cl C X.env) fp) tg (tP X.K p)) (ht : ∀ (s : Shared) (H : Hp) (C : Addr) (cl : List (Str × Addr)) (fp : List Addr), PTs (X.blk s H scope (compEnvC scope cl C X.env) fp) ifs (tDT X.K ca W0 tt))
    (hk : ∀ (s : Shared) (H : Hp) (C : Addr) (cl : List (Str × Addr)) (fp : List Addr), PE (X.blk s H scope (compEnvC scope cl C X.env) fp) kx (tD X.K ca W0 tk))
    (he : ∀ (s : Shared) (H : Hp) (C : Addr) (cl : List (Str × Addr)) (fp : List Addr), PE (X.blk s H scope (compEnvC scope cl C X.env) fp) vx (tD X.K ca W0 te)) (hs : ∀ x, foldedSetIterable iter X.env x = pure x) :
    PE X (.DictComp kx vx [⟨tg, iter, ifs, 0⟩] scope pos) (tD X.K ca W (eDc n f (own.map (·.2)) p tt tk te)) :=
  pe_of (pe_dc hc hN hi ok hg ht hk he hs) fun σ H Q ρ τ h R T x => tI.fst R T x fun s h1 ρ1 H1 J e1 R1 T1 k x1 D hD => dc_go hp k n R1 T1 x1 D hD
end
end DD
set_option Elab.async false
set_option linter.all false
set_option maxRecDepth 100000
set_option maxHeartbeats 4000000
/-! DQ: dicts walked, locked while they are. -/
namespace DD
open PySem PySem.Spec PyProof.Rows L2
variable [Ups]

abbrev NoFrz (X : Cx) (d : Addr) : Prop := ∀ o' u', X.H_0 d ≠ some (.frz o' u')
def UN {α : Type} (X : Cx) (P : α → Hp → Prop) : α → Hp → Prop := fun a H' => P a H' ∨ ∃ d od u, H' d = some (.frz od u) ∧ NoFrz X d ∧ P a (upd H' d u)
abbrev unlD (X : Cx) (D : Ends) : Ends := ⟨UN X D.nx, UN X D.rt, UN X D.bk, UN X D.ct⟩
section
variable {X : Cx}
theorem ps_unl {st : Stmt} {t : TS} (h : PS X st t) : PS X st (fun D σ H => t (unlD X D) σ H) := by
  refine ⟨fun pins s σ H D I hw => thn (h.run pins s σ H _ I hw) fun f s1 q => ?_⟩
  cases f with
  | next =>
    obtain ⟨σ', H', I2, q⟩ := q
    rcases q with q | ⟨d, od, u, e, n, q⟩
    · exact ⟨σ', H', I2, q⟩
    · exact ⟨σ', _, I2.unlock e n, q⟩
  | brk =>
    obtain ⟨σ', H', I2, q⟩ := q
    rcases q with q | ⟨d, od, u, e, n, q⟩
    · exact ⟨σ', H', I2, q⟩
    · exact ⟨σ', _, I2.unlock e n, q⟩
  | cont =>
    obtain ⟨σ', H', I2, q⟩ := q
    rcases q with q | ⟨d, od, u, e, n, q⟩
    · exact ⟨σ', H', I2, q⟩
    · exact ⟨σ', _, I2.unlock e n, q⟩
  | ret v =>
    obtain ⟨x, σ', H', I2, r, q⟩ := q
    rcases q with q | ⟨d, od, u, e, n, q⟩
    · exact ⟨x, σ', H', I2, r, q⟩
    · exact ⟨x, σ', _, I2.unlock e n, r, q⟩
theorem pe_unl {e : Expr} {t : TE} (h : PE X e t) : PE X e (fun σ H Q => t σ H (UN X Q)) := by
  refine ⟨fun pins s σ H Q I hw => thn (h.run pins s σ H _ I hw) fun v s1 ⟨x, H1, I2, r, q⟩ => ?_⟩
  rcases q with q | ⟨d, od, u, e, n, q⟩
  · exact ⟨x, H1, I2, r, q⟩
  · exact ⟨x, _, I2.unlock e n, r, q⟩
end
def Hh.unl (h : Hh) (i : Nat) : Hh := match h.get i with
  | some (.frz o) => h.put i o
  | _ => h
def RS.unl (i : Nat) : RS → RS
  | .nx τ h => .nx τ (h.unl i)
  | .rt w h => .rt w (h.unl i)
  | .bk τ h => .bk τ (h.unl i)
  | .ct τ h => .ct τ (h.unl i)
  | r => r
def Res.unl {α : Type} (i : Nat) : Res α → Res α
  | .ok a h => .ok a (h.unl i)
  | r => r
section
variable {X : Cx} {K : PySem.W.Frag} {ca : Nat → Addr} {W : WX} {ρ ρ' : List Addr} {h : Hh} {H H' : Hp} {D : Ends} {τ : Env'} {σ : L2.St}
theorem EnvR.ext0 (R : Rel K ca ρ h H) (E : Ext0 ρ H ρ' H') (r : EnvR K ρ H τ σ) : EnvR K ρ' H' τ σ :=
  ⟨r.1, fun i w e => by
    obtain ⟨v, e1, q⟩ := r.2 i w e
    exact ⟨v, e1, RV.ext0 R E w v q⟩⟩
/-- what stands behind the unlocking -/
theorem unl_at {i : Nat} {d : Addr} {o : Obj} {u : HO} (hi : ρ[i]? = some d) (hd : H d = some u) (m : Mut (some u)) (E : Ext ρ (upd H d (.frz o u)) ρ' H') (R : Rel K ca ρ' h H') :
    H' d = some (.frz o u) ∧ Ext ρ H ρ' (upd H' d u) ∧ Rel K ca ρ' (h.unl i) (upd H' d u) ∧ Ext0 ρ' H' ρ' (upd H' d u) := by
  have e1 : H' d = some (.frz o u) := E.frz d o u upd_same
  have hi' := E.at_ hi
  obtain ⟨ob, u', g1, g2, g3⟩ := R.at_ i d hi'
  rw [e1] at g2; cases g2
  cases ob with
  | frz w =>
    obtain ⟨ob', v, q1, q2, q3⟩ := g3
    cases q1
    have : h.unl i = h.put i w := by unfold Hh.unl; rw [g1]
    rw [this]
    exact ⟨e1, Ext.unlock m hd hi q2.kind.1 E, R.write hi' q2, Ext0.write hi' ⟨_, e1⟩ q2.kind.1⟩
  | lst _ => obtain ⟨_, q, _⟩ := g3; cases q
  | dct _ => obtain ⟨_, q, _⟩ := g3; cases q
  | ins _ _ => obtain ⟨_, _, q, _⟩ := g3; cases q
theorem WpS.unl {i : Nat} {d : Addr} {o : Obj} {u : HO} {r : RS} (hi : ρ[i]? = some d) (hd : H d = some u) (m : Mut (some u)) (nf : NoFrz X d) (x : WpS K ca W ρ H D (r.unl i)) : WpS K ca W ρ (upd H d (.frz o u)) (unlD X D) r := by
  cases r with
  | nx τ h =>
    intro ρ' H' σ' E R T
    obtain ⟨e1, e2, e3, e4⟩ := unl_at hi hd m E R
    exact .inr ⟨d, o, u, e1, nf, x ρ' _ σ' e2 e3 (EnvR.ext0 R e4 T)⟩
  | bk τ h =>
    intro ρ' H' σ' E R T
    obtain ⟨e1, e2, e3, e4⟩ := unl_at hi hd m E R
    exact .inr ⟨d, o, u, e1, nf, x ρ' _ σ' e2 e3 (EnvR.ext0 R e4 T)⟩
  | ct τ h =>
    intro ρ' H' σ' E R T
    obtain ⟨e1, e2, e3, e4⟩ := unl_at hi hd m E R
    exact .inr ⟨d, o, u, e1, nf, x ρ' _ σ' e2 e3 (EnvR.ext0 R e4 T)⟩
  | rt w h =>
    intro ρ' H' v E R q
    obtain ⟨e1, e2, e3, e4⟩ := unl_at hi hd m E R
    exact .inr ⟨d, o, u, e1, nf, x ρ' _ v e2 e3 (RV.ext0 R e4 w v q)⟩
  | exc c fs τ h => exact fun ρ' H' σ' E R T => x ρ' H' σ' ((Ext.write hi ⟨_, hd⟩ (by rw [hd]; exact m)).trans E) R T
  | bad => exact x.elim
theorem WpS.un {r : RS} (x : WpS K ca W ρ H D r) : WpS K ca W ρ H (unlD X D) r :=
  x.imp (fun _ _ _ _ _ _ _ _ _ q => .inl q) (fun _ _ q => .inl q) (fun _ _ q => .inl q) fun _ _ _ _ _ _ _ _ _ q => .inl q
theorem Wp.unl {XX : WX'} {Q : VK} {i : Nat} {d : Addr} {o : Obj} {u : HO} {r : Res PV} (hi : ρ[i]? = some d) (hd : H d = some u) (m : Mut (some u)) (nf : NoFrz X d) (x : WpQ K ca XX ρ H Q (r.unl i)) : WpQ K ca XX ρ (upd H d (.frz o u)) (UN X Q) r := by
  cases r with
  | ok w h =>
    intro ρ' H' v E R q
    obtain ⟨e1, e2, e3, e4⟩ := unl_at hi hd m E R
    exact .inr ⟨d, o, u, e1, nf, x ρ' _ v e2 e3 (RV.ext0 R e4 w v q)⟩
  | exc c fs h => exact fun ρ' H' E R => x ρ' H' ((Ext.write hi ⟨_, hd⟩ (by rw [hd]; exact m)).trans E) R
  | bad => exact x.elim
theorem Wp.un {XX : WX'} {Q : VK} {r : Res PV} (x : WpQ K ca XX ρ H Q r) : WpQ K ca XX ρ H (UN X Q) r := Wp.imp x fun _ _ _ _ _ _ _ _ q => .inl q
end
/-! ### the views -/
/-- keys, values, items -/
inductive Vw where
  | keys | vals | items
def Vw.it : Vw → Addr → Obj → List (Key × V) → It
  | .keys => Itk
  | .vals => Itd
  | .items => Iti
def Vw.ps : Vw → List (Key × PV) → List PV
  | .keys, kvs => kvs.map fun kv => kP kv.1
  | .vals, kvs => kvs.map (·.2)
  | .items, kvs => kvs.map fun kv => .tup [kP kv.1, kv.2]
theorem kP_ok {K : PySem.W.Frag} {ρ : List Addr} {H : Hp} (k : Key) : RV K ρ H (kP k) (kV k) := by
  cases k with
  | inl i => exact (RV.int_ _ _).mpr rfl
  | inr x => exact (RV.str_ _ _).mpr rfl
theorem RFs.get {κ : Type} {K : PySem.W.Frag} {ρ : List Addr} {H : Hp} : ∀ {ws : List (κ × PV)} {vs : List (κ × V)} {i : Nat} {k : κ} {w : PV}, RFs K ρ H ws vs → ws[i]? = some (k, w) → ∃ v, vs[i]? = some (k, v) ∧ RV K ρ H w v
  | [], _, _, _, _, _, e => by simp at e
  | (j, x) :: xs, vs, 0, k, w, ⟨v, t, e1, q, r⟩, e => by
    subst e1
    simp at e
    obtain ⟨rfl, rfl⟩ := e
    exact ⟨v, rfl, q⟩
  | (j, x) :: xs, vs, i + 1, k, w, ⟨v, t, e1, q, r⟩, e => by
    subst e1
    have := RFs.get (i := i) r (by simpa using e)
    simpa using this
theorem src_vw {K : PySem.W.Frag} {ca : Nat → Addr} {ρ0 : List Addr} {h : Hh} {H0 : Hp} (vw : Vw) {kvs : List (Key × PV)} {vs : List (Key × V)} {d : Addr} {o : Obj} (R0 : Rel K ca ρ0 h H0) (hd : H0 d = some (.frz o (.dK vs))) (r : RFs K ρ0 H0 kvs vs) : SrcOk K ca ρ0 H0 (.pur (vw.ps kvs)) (vw.it d o vs) := by
  have len : (vw.ps kvs).length = vs.length := by rw [← r.length]; cases vw <;> simp [Vw.ps]
  refine src_pur (fun i ρ h' H x e R z => ?_) fun i ρ h' H e R l => ?_
  · have hd' := e.frz d o _ hd
    have li : i < vs.length := by rw [← len]; exact (List.getElem?_eq_some_iff.mp z).1
    have g : ∃ k w, kvs[i]? = some (k, w) := ⟨(kvs[i]'(by rw [r.length]; exact li)).1, (kvs[i]'(by rw [r.length]; exact li)).2, by simp [show i < kvs.length by rw [r.length]; exact li]⟩
    obtain ⟨k, w, ek⟩ := g
    obtain ⟨v, ev, rv⟩ := (RFs.ext R0 e _ _ r).get ek
    cases vw with
    | keys =>
      have ex : x = kP k := by
        have z : (kvs.map fun kv => kP kv.1)[i]? = some x := z
        rw [List.getElem?_map, ek] at z; cases z; rfl
      subst ex
      exact ⟨⟨hd', li⟩, fun v' H' ⟨e1, k', v1, e2, e3⟩ => by
        rw [ev] at e2; cases e2
        exact same_ok R e1 (by rw [e3]; exact kP_ok k)⟩
    | vals =>
      have ex : x = w := by
        have z : (kvs.map (·.2))[i]? = some x := z
        rw [List.getElem?_map, ek] at z; cases z; rfl
      subst ex
      exact ⟨⟨hd', li⟩, fun v' H' ⟨e1, k', e2⟩ => by
        rw [ev] at e2; cases e2
        exact same_ok R e1 rv⟩
    | items =>
      have ex : x = .tup [kP k, w] := by
        have z : (kvs.map fun kv => PV.tup [kP kv.1, kv.2])[i]? = some x := z
        rw [List.getElem?_map, ek] at z; cases z; rfl
      subst ex
      exact ⟨⟨hd', li⟩, fun v' H' ⟨T, k', v1, e1, e2, e3, e4⟩ => by
        rw [ev] at e1; cases e1
        exact pair_ok R e2 e3 e4 (kP_ok k) rv⟩
  · have hd' := e.frz d o _ hd
    rw [len] at l
    cases vw with
    | keys => exact ⟨hd', l⟩
    | vals => exact ⟨hd', l⟩
    | items => exact ⟨hd', l⟩
/-- a dict (locked already, or locked now), by a view -/
def iVw (X : Cx) (vw : Vw) (td : TE) : TI := fun σ H R => td σ H fun x H1 => (∃ d o kvs, x = .ref d ∧ H1 d = some (.frz o (.dK kvs)) ∧ R (vw.it d o kvs) H1) ∨ ∃ d kvs, x = .ref d ∧ H1 d = some (.dK kvs) ∧ ∀ o, NoFrz X d → R (vw.it d o kvs) (upd H1 d (.frz o (.dK kvs)))
/-- .. in both cases it is locked -/
theorem vw_lock {X : Cx} {vw : Vw} {pins : List (Addr × Obj)} {σ : L2.St} {x : V} {H1 : Hp} {s1 : Shared} {R : It → Hp → Prop} (I1 : Inv X pins σ H1 s1)
    (q : (∃ d o kvs, x = .ref d ∧ H1 d = some (.frz o (.dK kvs)) ∧ R (vw.it d o kvs) H1) ∨ ∃ d kvs, x = .ref d ∧ H1 d = some (.dK kvs) ∧ ∀ o, NoFrz X d → R (vw.it d o kvs) (upd H1 d (.frz o (.dK kvs)))) :
    ∃ d o kvs H2, x = .ref d ∧ Inv X pins σ H2 s1 ∧ H2 d = some (.frz o (.dK kvs)) ∧ R (vw.it d o kvs) H2 := by
  rcases q with ⟨d, o, kvs, e, hd, q⟩ | ⟨d, kvs, e, hd, q⟩
  · exact ⟨d, o, kvs, H1, e, I1, hd, q⟩
  · obtain ⟨od, I2⟩ := I1.lock hd trivial
    exact ⟨d, od, kvs, _, e, I2, upd_same, q od (I1.nofrz hd trivial)⟩
section
variable {X : Cx} {tg e : Expr} {td : TE} {apos cpos : Pos}
theorem pi_vals (he : PE X e td) (hbase : attributeBase e "values" X.env (eval e X.env) = eval e X.env) (hline : (apos.endLine == cpos.line) = true) : PI X tg (.Call (.Attribute e "values" apos) [] [] cpos) (iVw X .vals td) := by
  refine ⟨fun pins s σ H R I h => ?_⟩
  refine wpAny_Call_method (T := "dict") (id := "dict.values") hbase rfl hline F.plainAttrs_dict F.slot_dict_values F.type_dict_values (thn (he.run pins s σ H _ I h) fun u s1 ⟨x, H0, I0, rx, q0⟩ => ?_)
  obtain ⟨d, o, kvs, H1, ex, I1, hd, q⟩ := vw_lock I0 q0
  subst ex
  obtain rfl : u = Value.ref d := rx
  obtain ⟨hs, hgd, hx, es, ep, vs, hdt, hsz, kv, hm⟩ := I1.frzK hd
  have hl : kvs.length = vs.length := Paired.length kv
  refine ⟨hm.dictOf.typeIs, hm.dictOf.mapOf.noDict, ?_⟩
  have I2 : Inv X pins σ H1 { s1 with heap := s1.heap.push { cls := .type "dict_values", data := .fields #[.ref d] } } := I1.kept (t' := s1.toks) fun b ob q => Heap.get?_push_of_some _ q
  have fin : wpAny (model X.prog X.w) X.A (pyIter (.ref s1.heap.objs.size)) (PIE X pins σ tg R) X.xe { s1 with heap := s1.heap.push { cls := .type "dict_values", data := .fields #[.ref d] } } := by
    refine wpAny_pyIter_values (d := d) (knd := mixKind X.prog X.w) ⟨_, Heap.get?_push_size _ rfl, rfl, rfl⟩ (hm.push _) (pi_one (tk := s1.toks) I2 _ (turn_vals _ hdt) ⟨_, Heap.get?_push_size _ rfl, rfl, ?_⟩ q)
    rw [hl] <;> rfl
  show wpAny _ _ (callWith cpos (.builtin "dict.values") [.ref d] [] []) _ X.xe s1
  exact method_meetsIn F.slot_dict_values F.entry_dict_values rfl (PySem.evalArgs_none ⟨rfl, hm.dictOf.typeIs, F.args_dict_values_1 _, _, meets_dict_values (mixKind X.prog X.w) d hs, ⟨vs, hm.dictOf⟩, fin⟩)
theorem pi_itms {elts : List Expr} {kk : Nat} {tpos : Pos} (he : PE X e td) (hbase : attributeBase e "items" X.env (eval e X.env) = eval e X.env) (hline : (apos.endLine == cpos.line) = true) :
    PI X (.Tuple elts kk tpos) (.Call (.Attribute e "items" apos) [] [] cpos) (iVw X .items td) := by
  refine ⟨fun pins s σ H R I h => ?_⟩
  refine wpAny_Call_method (T := "dict") (id := "dict.items") hbase rfl hline F.plainAttrs_dict F.slot_dict_items F.type_dict_items (thn (he.run pins s σ H _ I h) fun u s1 ⟨x, H0, I0, rx, q0⟩ => ?_)
  obtain ⟨d, o, kvs, H1, ex, I1, hd, q⟩ := vw_lock I0 q0
  subst ex
  obtain rfl : u = Value.ref d := rx
  obtain ⟨hs, hgd, hx, es, ep, vs, hdt, hsz, kv, hm⟩ := I1.frzK hd
  have hl : kvs.length = vs.length := Paired.length kv
  refine ⟨hm.dictOf.typeIs, hm.dictOf.mapOf.noDict, ?_⟩
  have I2 : Inv X pins σ H1 { s1 with heap := s1.heap.push { cls := .type "dict_items", data := .fields #[.ref d] } } := I1.kept (t' := s1.toks) fun b ob q => Heap.get?_push_of_some _ q
  have fin : wpAny (model X.prog X.w) X.A (pyIter (.ref s1.heap.objs.size)) (PIE X pins σ (.Tuple elts kk tpos) R) X.xe { s1 with heap := s1.heap.push { cls := .type "dict_items", data := .fields #[.ref d] } } := by
    refine wpAny_pyIter_items (d := d) (knd := mixKind X.prog X.w) ⟨_, Heap.get?_push_size _ rfl, rfl, rfl⟩ (hm.push _) (pi_one (tk := s1.toks) I2 _ (turn_items _ hdt) ⟨.none, .none, ?_⟩ q)
    rw [hl]
    exact Heap.get?_push_size _ rfl
  show wpAny _ _ (callWith cpos (.builtin "dict.items") [.ref d] [] []) _ X.xe s1
  exact method_meetsIn F.slot_dict_items F.entry_dict_items rfl (PySem.evalArgs_none ⟨rfl, hm.dictOf.typeIs, F.args_dict_items_1 _, _, meets_dict_items (mixKind X.prog X.w) d hs, ⟨vs, hm.dictOf⟩, fin⟩)
/-- a list, a tuple, a text, a dict -/
def iAnyU (X : Cx) (te : TE) : TI := fun σ H R => te σ H fun v H1 => ((∃ a, v = .ref a ∧ (∃ xs, SqL X.K H1 a xs) ∧ R (Itl X.K a) H1) ∨ (∃ a, v = .ref a ∧ (∃ xs, SqT X.K H1 a xs) ∧ R (Itt X.K a) H1) ∨ ∃ x, v = .str x ∧ R (Its x) H1) ∨
  ((∃ d o kvs, v = .ref d ∧ H1 d = some (.frz o (.dK kvs)) ∧ R (Vw.keys.it d o kvs) H1) ∨ ∃ d kvs, v = .ref d ∧ H1 d = some (.dK kvs) ∧ ∀ o, NoFrz X d → R (Vw.keys.it d o kvs) (upd H1 d (.frz o (.dK kvs))))
theorem pi_anyU {l : Expr} {tl : TE} (hl : PE X l tl) : PI X tg l (iAnyU X tl) := by
  refine ⟨fun pins s σ H R I h => ?_⟩
  refine thn (hl.run pins s σ H _ I h) fun v s1 ⟨x, H1, I1, r1, q1⟩ => ?_
  rcases q1 with (⟨a, e, ⟨xs, hq⟩, q⟩ | ⟨a, e, ⟨xs, hq⟩, q⟩ | ⟨z, e, q⟩) | q0
  · subst e
    cases r1
    obtain ⟨its, rv, p, hz⟩ := I1.list hq
    exact wpAny_pyIter_list p.isList (pi_one (tk := s1.toks) I1 _ (turn_list a _) ⟨_, Heap.get?_push_size _ rfl, rfl, rfl⟩ q)
  · subst e
    cases r1
    obtain ⟨its, rv, p, hz⟩ := I1.tuple hq
    exact wpAny_pyIter_tuple (show s1.heap.IsTuple a its.toArray from p) (pi_one (tk := s1.toks) I1 _ (turn_tuple a _) ⟨_, Heap.get?_push_size _ rfl, rfl, rfl⟩ q)
  · subst e
    obtain ⟨t, rfl⟩ := r1
    cases ha : z.cps.all (· < 128)
    · exact wpAny_pyIter_wide ha (pi_one (tk := s1.toks) I1 _ (turn_str _ z t "str_iterator" (.inr rfl)) ⟨_, Heap.get?_push_size _ rfl, rfl, rfl⟩ q)
    · exact wpAny_pyIter_ascii ha (pi_one (tk := s1.toks) I1 _ (turn_str _ z t "str_ascii_iterator" (.inl rfl)) ⟨_, Heap.get?_push_size _ rfl, rfl, rfl⟩ q)
  · obtain ⟨d, o, kvs, H2, ex, I2, hd, q⟩ := vw_lock I1 q0
    subst ex
    obtain rfl : v = Value.ref d := r1
    obtain ⟨hs, hgd, hx, es, ep, vs, hdt, hsz, kv, hm⟩ := I2.frzK hd
    refine iter_keys hs hgd hx hdt (pi_one (tk := s1.toks) I2 _ (turn_keys _ hdt) ⟨_, Heap.get?_push_size _ rfl, rfl, ?_⟩ q)
    rw [hsz] <;> rfl
end
end DD
set_option Elab.async false
set_option linter.all false
set_option maxRecDepth 100000
set_option maxHeartbeats 4000000
/-! DR: for and comprehensions over any value, over views. -/
namespace DD
open PySem PySem.Spec PyProof.Rows L2
variable [Ups]

inductive LK where
  | no (s : Src) | lk (i : Nat) (kvs : List (Key × PV))
def lkS (any : Bool) (vw : Vw) (x : PV) (h : Hh) : Option LK := match x with
  | .obj o => match h.get o with
    | some (.dct kvs) => some (.lk o kvs)
    | some (.frz (.dct kvs)) => some (.no (.pur (vw.ps kvs)))
    | some (.lst _) => if any = true then some (.no (.lst o)) else none
    | some (.frz (.lst _)) => if any = true then some (.no (.lst o)) else none
    | _ => none
  | .tup xs => if any = true then some (.no (.pur xs)) else none
  | .str z => if any = true then some (.no (.pur (strP z))) else none
  | _ => none
def PlainIt (K : PySem.W.Frag) (any : Bool) (vw : Vw) (v : V) (H : Hp) (J : It) : Prop :=
  (any = true ∧ ((∃ a, v = .ref a ∧ (∃ xs, SqL K H a xs) ∧ J = Itl K a) ∨ (∃ a, v = .ref a ∧ (∃ xs, SqT K H a xs) ∧ J = Itt K a) ∨ ∃ x, v = .str x ∧ J = Its x)) ∨ ∃ d o kvs, v = .ref d ∧ H d = some (.frz o (.dK kvs)) ∧ J = vw.it d o kvs
section
variable {K : PySem.W.Frag} {ca : Nat → Addr} {ρ : List Addr} {h : Hh} {H : Hp} {any : Bool} {vw : Vw}
theorem lk_no {x : PV} {v : V} {s : Src} (R : Rel K ca ρ h H) (r : RV K ρ H x v) (e : lkS any vw x h = some (.no s)) : ∃ J, PlainIt K any vw v H J ∧ SrcOk K ca ρ H s J := by
  cases x with
  | tup xs =>
    have e : (if any = true then some (LK.no (.pur xs)) else none) = some (.no s) := e
    by_cases q : any = true
    · rw [if_pos q] at e; cases e
      rw [RV.tup_] at r
      obtain ⟨a, vs, rfl, sq, rv⟩ := r
      exact ⟨_, .inl ⟨q, .inr (.inl ⟨a, rfl, ⟨vs, sq.1⟩, rfl⟩)⟩, src_tup R sq.1 rv⟩
    · rw [if_neg q] at e; cases e
  | str z =>
    have e : (if any = true then some (LK.no (.pur (strP z))) else none) = some (.no s) := e
    by_cases q : any = true
    · rw [if_pos q] at e; cases e
      rw [RV.str_] at r
      exact ⟨_, .inl ⟨q, .inr (.inr ⟨z, r, rfl⟩)⟩, src_str⟩
    · rw [if_neg q] at e; cases e
  | obj o =>
    rw [RV.obj_] at r
    obtain ⟨a, ha, rfl⟩ := r
    have e : (match h.get o with
      | some (.dct kvs) => some (LK.lk o kvs)
      | some (.frz (.dct kvs)) => some (.no (.pur (vw.ps kvs)))
      | some (.lst _) => if any = true then some (.no (.lst o)) else none
      | some (.frz (.lst _)) => if any = true then some (.no (.lst o)) else none
      | _ => none) = some (.no s) := e
    have lst : ∀ xs, h.lst? o = some xs → (if any = true then some (LK.no (.lst o)) else none) = some (.no s) → ∃ J, PlainIt K any vw (.ref a) H J ∧ SrcOk K ca ρ H s J := fun xs z e => by
      by_cases q : any = true
      · rw [if_pos q] at e; cases e
        obtain ⟨vs, sq, _⟩ := lst_at R z ha
        exact ⟨_, .inl ⟨q, .inl ⟨a, rfl, ⟨vs, sq⟩, rfl⟩⟩, src_lst ha⟩
      · rw [if_neg q] at e; cases e
    split at e
    · cases e
    · rename_i kvs q
      cases e
      obtain ⟨a', u, k1, k2, r⟩ := R.obj q
      rw [ha] at k1; cases k1
      obtain ⟨ob, v, rfl, ⟨vs, rfl, rf⟩, _⟩ := r
      exact ⟨_, .inr ⟨a, ob, vs, rfl, k2, rfl⟩, src_vw vw R k2 rf⟩
    · rename_i xs q
      exact lst xs (by unfold Hh.lst?; rw [q]) e
    · rename_i xs q
      exact lst xs (by unfold Hh.lst?; rw [q]) e
    · cases e
  | _ => cases e
theorem lk_lk {x : PV} {v : V} {i : Nat} {kvs : List (Key × PV)} (R : Rel K ca ρ h H) (r : RV K ρ H x v) (e : lkS any vw x h = some (.lk i kvs)) : ∃ d vs, v = .ref d ∧ ρ[i]? = some d ∧ H d = some (.dK vs) ∧ RFs K ρ H kvs vs := by
  cases x with
  | tup xs =>
    have e : (if any = true then some (LK.no (.pur xs)) else none) = some (.lk i kvs) := e
    split at e <;> cases e
  | str z =>
    have e : (if any = true then some (LK.no (.pur (strP z))) else none) = some (.lk i kvs) := e
    split at e <;> cases e
  | obj o =>
    rw [RV.obj_] at r
    obtain ⟨a, ha, rfl⟩ := r
    have e : (match h.get o with
      | some (.dct kvs) => some (LK.lk o kvs)
      | some (.frz (.dct kvs)) => some (.no (.pur (vw.ps kvs)))
      | some (.lst _) => if any = true then some (.no (.lst o)) else none
      | some (.frz (.lst _)) => if any = true then some (.no (.lst o)) else none
      | _ => none) = some (.lk i kvs) := e
    split at e
    · rename_i kvs' q
      cases e
      obtain ⟨a', u, k1, k2, r⟩ := R.obj q
      rw [ha] at k1; cases k1
      obtain ⟨vs, rfl, rf⟩ := r
      exact ⟨a, vs, rfl, ha, k2, rf⟩
    · cases e
    · split at e <;> cases e
    · split at e <;> cases e
    · cases e
  | _ => cases e
/-- what stands while it is locked -/
theorem lk_rel {i : Nat} {kvs : List (Key × PV)} {d : Addr} {vs : List (Key × V)} (R : Rel K ca ρ h H) (hi : ρ[i]? = some d) (hd : H d = some (.dK vs)) (r : RFs K ρ H kvs vs) (o : Obj) :
    Ext ρ H ρ (upd H d (.frz o (.dK vs))) ∧ Rel K ca ρ (h.put i (.frz (.dct kvs))) (upd H d (.frz o (.dK vs))) ∧ SrcOk K ca ρ (upd H d (.frz o (.dK vs))) (.pur (vw.ps kvs)) (vw.it d o vs) := by
  have E : Ext ρ H ρ (upd H d (.frz o (.dK vs))) := Ext.write hi ⟨_, hd⟩ (by rw [hd]; trivial)
  have R' : Rel K ca ρ (h.put i (.frz (.dct kvs))) (upd H d (.frz o (.dK vs))) := R.write hi ⟨o, _, rfl, ⟨vs, rfl, r⟩, trivial⟩
  exact ⟨E, R', src_vw vw R' upd_same (RFs.ext R E _ _ r)⟩
end
/-! ### for -/
def sForA (n : Nat) (any : Bool) (vw : Vw) (f : SE) (p : Pat) (b : SS) : SS := fun τ h => (f τ h).st τ fun x h1 => match lkS any vw x h1 with
  | none => .bad
  | some (.no s) => sForGo s p b n 0 τ h1
  | some (.lk i kvs) => (sForGo (.pur (vw.ps kvs)) p b n 0 τ (h1.put i (.frz (.dct kvs)))).unl i
def eLcA (n : Nat) (any : Bool) (vw : Vw) (f : SE) (own : List Nat) (p : Pat) (tt : ST) (te : SE) : SE := fun τ h => (f τ h).bind fun x h1 => match lkS any vw x h1 with
  | none => .bad
  | some (.no s) => lcGo s (wipeP τ own) p tt te h1.n n 0 (h1.push (.lst []))
  | some (.lk i kvs) => (lcGo (.pur (vw.ps kvs)) (wipeP τ own) p tt te h1.n n 0 ((h1.put i (.frz (.dct kvs))).push (.lst []))).unl i
def eDcA (n : Nat) (any : Bool) (vw : Vw) (f : SE) (own : List Nat) (p : Pat) (tt : ST) (tk te : SE) : SE := fun τ h => (f τ h).bind fun x h1 => match lkS any vw x h1 with
  | none => .bad
  | some (.no s) => dcGo s (wipeP τ own) p tt tk te h1.n n 0 (h1.push (.dct []))
  | some (.lk i kvs) => (dcGo (.pur (vw.ps kvs)) (wipeP τ own) p tt tk te h1.n n 0 ((h1.put i (.frz (.dct kvs))).push (.dct []))).unl i
/-- the three rules of walking, as one -/
def iWk (X : Cx) (any : Bool) (vw : Vw) (td : TE) : TI := fun σ H R => td σ H fun v H1 => (∃ J, PlainIt X.K any vw v H1 J ∧ R J H1) ∨ ∃ d kvs, v = .ref d ∧ H1 d = some (.dK kvs) ∧ ∀ o, NoFrz X d → R (vw.it d o kvs) (upd H1 d (.frz o (.dK kvs)))
section
variable {X : Cx} {tg e : Expr} {td : TE} {apos cpos : Pos}
theorem pi_wkAny {ca : Nat → Addr} {W : WX} {f : SE} (he : PE X e (tD X.K ca W f)) : PI X tg e (iWk X true .keys (tD X.K ca W f)) := ⟨fun pins s σ H R I h => (pi_anyU he).run pins s σ H R I (by
  obtain ⟨ρ, τ, h', R', T, x⟩ := h
  refine ⟨ρ, τ, h', R', T, Wp.imp x fun w h1 ρ1 H1 v _ _ _ q => ?_⟩
  rcases q with ⟨J, q, r⟩ | ⟨d, kvs, q⟩
  · rcases q with ⟨_, ⟨a, e1, e2, rfl⟩ | ⟨a, e1, e2, rfl⟩ | ⟨z, e1, rfl⟩⟩ | ⟨d, o, kvs, e1, e2, rfl⟩
    · exact .inl (.inl ⟨a, e1, e2, r⟩)
    · exact .inl (.inr (.inl ⟨a, e1, e2, r⟩))
    · exact .inl (.inr (.inr ⟨z, e1, r⟩))
    · exact .inr (.inl ⟨d, o, kvs, e1, e2, r⟩)
  · exact .inr (.inr ⟨d, kvs, q⟩))⟩
theorem wk_vw {ca : Nat → Addr} {W : WX} {f : SE} {vw : Vw} {σ : L2.St} {H : Hp} {R : It → Hp → Prop} (h : iWk X false vw (tD X.K ca W f) σ H R) : iVw X vw (tD X.K ca W f) σ H R := by
  obtain ⟨ρ, τ, h', R', T, x⟩ := h
  refine ⟨ρ, τ, h', R', T, Wp.imp x fun w h1 ρ1 H1 v _ _ _ q => ?_⟩
  rcases q with ⟨J, q, r⟩ | ⟨d, kvs, q⟩
  · rcases q with ⟨z, _⟩ | ⟨d, o, kvs, e1, e2, rfl⟩
    · cases z
    · exact .inl ⟨d, o, kvs, e1, e2, r⟩
  · exact .inr ⟨d, kvs, q⟩
theorem pi_wkVals {ca : Nat → Addr} {W : WX} {f : SE} (he : PE X e (tD X.K ca W f)) (hbase : attributeBase e "values" X.env (eval e X.env) = eval e X.env) (hline : (apos.endLine == cpos.line) = true) : PI X tg (.Call (.Attribute e "values" apos) [] [] cpos) (iWk X false .vals (tD X.K ca W f)) :=
  ⟨fun pins s σ H R I h => (pi_vals he hbase hline).run pins s σ H R I (wk_vw h)⟩
theorem pi_wkItms {ca : Nat → Addr} {W : WX} {f : SE} {elts : List Expr} {kk : Nat} {tpos : Pos} (he : PE X e (tD X.K ca W f)) (hbase : attributeBase e "items" X.env (eval e X.env) = eval e X.env) (hline : (apos.endLine == cpos.line) = true) : PI X (.Tuple elts kk tpos) (.Call (.Attribute e "items" apos) [] [] cpos) (iWk X false .items (tD X.K ca W f)) :=
  ⟨fun pins s σ H R I h => (pi_itms he hbase hline).run pins s σ H R I (wk_vw h)⟩
end
section
variable {X : Cx} {ca : Nat → Addr} {W : WX} {pos : Pos} {ss : List Stmt} {tg iter elt kx vx : Expr} {p : Pat} {b : SS} {f : SE} {any : Bool} {vw : Vw} {tt : ST} {te tk : SE} {ifs : List Expr} {scope : Scope} {own : List (Str × Nat)}
theorem ps_sForA (n : Nat) (hp : PassesOwn (model X.prog X.w) X.A X.env X.xe) (hc : X.calm = true) (hi : PI X tg iter (iWk X any vw (tD X.K ca W f))) (hg : PG X tg (tP X.K p)) (hb : PSs X ss (tS X.K ca W b)) (hs : ∀ x, foldedSetIterable iter X.env x = pure x) :
    PS X (.For tg iter ss [] pos) (tS X.K ca W (sForA n any vw f p b)) :=
  ps_of (ps_unl (ps_for hp hc hi hg hb hs)) fun D σ H ρ τ h R T x => tD.st R T x fun w h1 ρ1 H1 v e1 R1 T1 r x1 => by
    have x1 : WpS X.K ca W ρ1 H1 D (match lkS any vw w h1 with
      | none => .bad
      | some (.no s) => sForGo s p b n 0 τ h1
      | some (.lk i kvs) => (sForGo (.pur (vw.ps kvs)) p b n 0 τ (h1.put i (.frz (.dct kvs)))).unl i) := x1
    cases z : lkS any vw w h1 with
    | none => rw [z] at x1; exact x1.elim
    | some l =>
      rw [z] at x1
      cases l with
      | no s =>
        obtain ⟨J, g1, g2⟩ := lk_no R1 r z
        exact .inl ⟨J, g1, for_go g2 n 0 R1 T1 (WpS.un x1)⟩
      | lk i kvs =>
        obtain ⟨d, vs, rfl, hi, hd, rf⟩ := lk_lk R1 r z
        refine .inr ⟨d, vs, rfl, hd, fun o nf => ?_⟩
        obtain ⟨E2, R2, k⟩ := lk_rel (vw := vw) R1 hi hd rf o
        exact for_go k n 0 R2 (EnvR.ext R1 E2 T1) (WpS.unl hi hd trivial nf x1)
theorem lcA_of {σ : L2.St} {H : Hp} {Q : VK} {ρ : List Addr} {τ : Env'} {h : Hh} (n : Nat) (hp : ∀ i ∈ p.slots, i ∈ own.map (·.2)) (R : Rel X.K ca ρ h H) (T : EnvR X.K ρ H τ σ) (x : WpQ X.K ca (XW X.K ca W σ) ρ H Q (eLcA n any vw f (own.map (·.2)) p tt te τ h)) :
    tLc (iWk X any vw (tD X.K ca W f)) (tP X.K p) (tDT X.K ca W0 tt) (tD X.K ca W0 te) (own.map (·.2)) σ H (UN X Q) :=
  tD.fst R T x fun w h1 ρ1 H1 v e1 R1 T1 r x1 => by
    have x1 : WpQ X.K ca (XW X.K ca W σ) ρ1 H1 Q (match lkS any vw w h1 with
      | none => .bad
      | some (.no s) => lcGo s (wipeP τ (own.map (·.2))) p tt te h1.n n 0 (h1.push (.lst []))
      | some (.lk i kvs) => (lcGo (.pur (vw.ps kvs)) (wipeP τ (own.map (·.2))) p tt te h1.n n 0 ((h1.put i (.frz (.dct kvs))).push (.lst []))).unl i) := x1
    cases z : lkS any vw w h1 with
    | none => rw [z] at x1; exact x1.elim
    | some l =>
      rw [z] at x1
      cases l with
      | no s =>
        obtain ⟨J, g1, g2⟩ := lk_no R1 r z
        exact .inl ⟨J, g1, fun D hD => lc_go hp g2 n R1 T1 (Wp.un x1) D hD⟩
      | lk i kvs =>
        obtain ⟨d, vs, rfl, hi, hd, rf⟩ := lk_lk R1 r z
        refine .inr ⟨d, vs, rfl, hd, fun o nf D hD => ?_⟩
        obtain ⟨E2, R2, k⟩ := lk_rel (vw := vw) R1 hi hd rf o
        exact lc_go hp k n R2 (EnvR.ext R1 E2 T1) (Wp.unl hi hd trivial nf x1) D hD
theorem pe_eLcA (n : Nat) (hc : X.calm = true) (hN : X.N.Nodup) (hi : PI X tg iter (iWk X any vw (tD X.K ca W f))) (ok : BlkOk X.N X.env.scope scope own) (hp : ∀ i ∈ p.slots, i ∈ own.map (·.2))
    (hg : ∀ (s : Shared) (H : Hp) (C : Addr) (cl : List (Str × Addr)) (fp : List Addr), PG (X.blk s H scope (compEnvC scope cl C X.env) fp) tg (tP X.K p)) (ht : ∀ (s : Shared) (H : Hp) (C : Addr) (cl : List (Str × Addr)) (fp : List Addr), PTs (X.blk s H scope (compEnvC scope cl C X.env) fp) ifs (tDT X.K ca W0 tt))
    (he : ∀ (s : Shared) (H : Hp) (C : Addr) (cl : List (Str × Addr)) (fp : List Addr), PE (X.blk s H scope (compEnvC scope cl C X.env) fp) elt (tD X.K ca W0 te)) (hs : ∀ x, foldedSetIterable iter X.env x = pure x) :
    PE X (.ListComp elt [⟨tg, iter, ifs, 0⟩] scope pos) (tD X.K ca W (eLcA n any vw f (own.map (·.2)) p tt te)) :=
  pe_of (pe_unl (pe_lc hc hN hi ok hg ht he hs)) fun σ H Q ρ τ h R T x => lcA_of n hp R T x
theorem ps_eLcA {i : Nat} {y : Str} {py spos : Pos} (n : Nat) (hc : X.calm = true) (hN : X.N.Nodup) (hy : X.N[i]? = some y) (hyl : X.env.scope.names.lookup y = some .local)
    (hsw : swapsWith (.ListComp elt [⟨tg, iter, ifs, 0⟩] scope pos) (some (.Name y py)) spos.line X.env = pure true) (hi : PI X tg iter (iWk X any vw (tD X.K ca W f))) (ok : BlkOk X.N X.env.scope scope own) (hp : ∀ i ∈ p.slots, i ∈ own.map (·.2))
    (hg : ∀ (s : Shared) (H : Hp) (C : Addr) (cl : List (Str × Addr)) (fp : List Addr), PG (X.blk s H scope (compEnvC scope cl C X.env) fp) tg (tP X.K p)) (ht : ∀ (s : Shared) (H : Hp) (C : Addr) (cl : List (Str × Addr)) (fp : List Addr), PTs (X.blk s H scope (compEnvC scope cl C X.env) fp) ifs (tDT X.K ca W0 tt))
    (he : ∀ (s : Shared) (H : Hp) (C : Addr) (cl : List (Str × Addr)) (fp : List Addr), PE (X.blk s H scope (compEnvC scope cl C X.env) fp) elt (tD X.K ca W0 te)) (hs : ∀ x, foldedSetIterable iter X.env x = pure x) :
    PS X (.Assign [.Name y py] (.ListComp elt [⟨tg, iter, ifs, 0⟩] scope pos) spos) (tS X.K ca W (sAsg' (eLcA n any vw f (own.map (·.2)) p tt te) (gN i))) :=
  ps_of (ps_unl (ps_setLc hc hN hy hyl hsw hi ok hg ht he hs)) fun D σ H ρ τ h R T x => by
    have x : WpS X.K ca W ρ H D ((eLcA n any vw f (own.map (·.2)) p tt te τ h).st τ fun w h => (gN i w τ h).only) := x
    have y : WpQ X.K ca (XW X.K ca W σ) ρ H (fun y H1 => gName i y σ H1 D.nx) (eLcA n any vw f (own.map (·.2)) p tt te τ h) :=
      (Wp.st (RA := RV X.K) T R x).imp fun w h1 ρ1 H1 v e R1 r x1 => x1 ρ1 H1 _ (Ext.refl _ _) R1 ((EnvR.ext R e T).set r i)
    exact lcA_of n hp R T y
theorem pe_eDcA (n : Nat) (hc : X.calm = true) (hN : X.N.Nodup) (hi : PI X tg iter (iWk X any vw (tD X.K ca W f))) (ok : BlkOk X.N X.env.scope scope own) (hp : ∀ i ∈ p.slots, i ∈ own.map (·.2))
    (hg : ∀ (s : Shared) (H : Hp) (C : Addr) (cl : List (Str × Addr)) (fp : List Addr), PG (X.blk s H scope (compEnvC scope cl C X.env) fp) tg (tP X.K p)) (ht : ∀ (s : Shared) (H : Hp) (C : Addr) (cl : List (Str × Addr)) (fp : List Addr), PTs (X.blk s H scope (compEnvC scope cl C X.env) fp) ifs (tDT X.K ca W0 tt))
    (hk : ∀ (s : Shared) (H : Hp) (C : Addr) (cl : List (Str × Addr)) (fp : List Addr), PE (X.blk s H scope (compEnvC scope cl C X.env) fp) kx (tD X.K ca W0 tk))
    (he : ∀ (s : Shared) (H : Hp) (C : Addr) (cl : List (Str × Addr)) (fp : List Addr), PE (X.blk s H scope (compEnvC scope cl C X.env) fp) vx (tD X.K ca W0 te)) (hs : ∀ x, foldedSetIterable iter X.env x = pure x) :
    PE X (.DictComp kx vx [⟨tg, iter, ifs, 0⟩] scope pos) (tD X.K ca W (eDcA n any vw f (own.map (·.2)) p tt tk te)) :=
  pe_of (pe_unl (pe_dc hc hN hi ok hg ht hk he hs)) fun σ H Q ρ τ h R T x => tD.fst R T x fun w h1 ρ1 H1 v e1 R1 T1 r x1 => by
    have x1 : WpQ X.K ca (XW X.K ca W σ) ρ1 H1 Q (match lkS any vw w h1 with
      | none => .bad
      | some (.no s) => dcGo s (wipeP τ (own.map (·.2))) p tt tk te h1.n n 0 (h1.push (.dct []))
      | some (.lk i kvs) => (dcGo (.pur (vw.ps kvs)) (wipeP τ (own.map (·.2))) p tt tk te h1.n n 0 ((h1.put i (.frz (.dct kvs))).push (.dct []))).unl i) := x1
    cases z : lkS any vw w h1 with
    | none => rw [z] at x1; exact x1.elim
    | some l =>
      rw [z] at x1
      cases l with
      | no s =>
        obtain ⟨J, g1, g2⟩ := lk_no R1 r z
        exact .inl ⟨J, g1, fun D hD => dc_go hp g2 n R1 T1 (Wp.un x1) D hD⟩
      | lk i kvs =>
        obtain ⟨d, vs, rfl, hi, hd, rf⟩ := lk_lk R1 r z
        refine .inr ⟨d, vs, rfl, hd, fun o nf D hD => ?_⟩
        obtain ⟨E2, R2, k⟩ := lk_rel (vw := vw) R1 hi hd rf o
        exact dc_go hp k n R2 (EnvR.ext R1 E2 T1) (Wp.unl hi hd trivial nf x1) D hD
end
end DD
set_option Elab.async false
set_option linter.all false
set_option maxRecDepth 100000
set_option maxHeartbeats 4000000
/-! DX: exceptions of one's own, their __init__ by super().__init__("..") and fields. -/
namespace DD
open PySem PySem.Spec PyProof.Rows L2
variable [Ups]

/-- the rows behind the super() row: self.f = f, one field after the other -/
inductive FldSts : List Stmt → List Str → Prop
  | nil : FldSts [] []
  | cons {f : Str} {p1 p2 p3 p4 : Pos} {ss : List Stmt} {fs : List Str} (r : FldSts ss fs) : FldSts (.Assign [.Attribute (.Name "self" p1) f p2] (.Name f p3) p4 :: ss) (f :: fs)
/-- storing a field of an exception of the class at C -/
structure StoC (K : PySem.W.Frag) (C : Addr) : Prop where
  sa : PySem.W.findIn K (.ref C) "__setattr__" = some (some (.builtin "object.__setattr__"))
  new : ∀ {prog : Program} {w : World} {A : Around} {R : Result → Shared → Prop} {hp : Heap} {g : Array GenState} {d : Drawn} {t : Nat} {os : OsState} {name : Str} {tk : Tok} {v : Value} {x : Addr} {fv : Array Value},
    K.In hp → hp.get? x = some { cls := .ref C, data := .fields fv } → PySem.W.findIn K (.ref C) name = some none →
    (∀ h' tk' dx, (∀ b o, b ≠ x → hp.get? b = some o → h'.get? b = some o) → hp.objs.size ≤ dx → dx ≠ x → h'.get? x = some { cls := .ref C, dict := some dx, data := .fields fv } →
      h'.Ns1 dx (fun y => if y = name then some v else none) → R (.ok (.ret .none)) ⟨h', g, d, tk', os⟩) →
    codeAny (model prog w) A (.call (.builtin "object.__setattr__") ⟨[.ref x, .str name tk, v], []⟩) R ⟨hp, g, d, t, os⟩
  old : ∀ {prog : Program} {w : World} {A : Around} {R : Result → Shared → Prop} {hp : Heap} {g : Array GenState} {d : Drawn} {t : Nat} {os : OsState} {name : Str} {tk : Tok} {v : Value} {x dx : Addr} {fv : Array Value} {m0 : Str → Option Value} {nl : List Str},
    K.In hp → hp.get? x = some { cls := .ref C, dict := some dx, data := .fields fv } → hp.Ns1 dx m0 → Within m0 nl → nl.length ≤ 1000 → PySem.W.findIn K (.ref C) name = some none →
    (∀ h' tk', (∀ b o, b ≠ dx → hp.get? b = some o → h'.get? b = some o) → h'.Ns1 dx (fun y => if y = name then some v else m0 y) → R (.ok (.ret .none)) ⟨h', g, d, tk', os⟩) →
    codeAny (model prog w) A (.call (.builtin "object.__setattr__") ⟨[.ref x, .str name tk, v], []⟩) R ⟨hp, g, d, t, os⟩
/-- facts of a class over a built-in exception B, two levels or more; its __init__'s fields -/
structure SupC (P : Program) (K : PySem.W.Frag) (C : Addr) (fs : List Str) : Prop where
  st : StoC K C
  kC : PySem.W.keepIn K (.ref C) = true
  exC : PySem.W.subIn K (.ref C) (.type "BaseException") = some true
  tyC : PySem.W.typeIn K (.ref C) = some (.type "type")
  base : ∃ (B newId initId : String) (bmB : List Value), ExcBaseFacts B newId initId bmB ∧ PySem.W.KxsFacts B initId ∧ PySem.W.excInitIn K C bmB newId = true ∧
    PySem.W.ks_superIn K C C "__init__" = some (some (.builtin initId)) ∧ PySem.W.subIn K (.ref C) (.type B) = some true
  fn : ∃ (fI cc cda : Addr) (name qual : Str) (params : Arguments) (sc : Scope) (dV kV doc pm ct oc : Value) (an od : Option Addr) (osl : Array (Option Value)) (ar : Arg) (text : Str) (j : Nat) (p0 p1 p2 p3 p4 p5 : Pos) (ss : List Stmt) (ccl cl : Value) (cdd cld : Option Addr) (ccs csl : Array (Option Value)) (vs : Array Value) (file : Str) (tf : Tok),
    PySem.W.findIn K (.ref C) "__init__" = some (some (.ref fI)) ∧ PySem.W.typeIn K (.ref fI) = some (.type "function") ∧
    K.lookup fI = some ⟨oc, od, .func (PySem.W.ksFn name qual params (.Expr (.Call (.Attribute (.Call (.Name "super" p0) [] [] p1) "__init__" p2) [.Constant (.str text) j p3] [] p4) p5 :: ss) sc dV kV doc pm an (.ref cda) ct cc), osl⟩ ∧
    PySem.W.codeIn K (.ref cda) qual = true ∧ FldSts ss fs ∧ (params.posonlyargs ++ params.args).head? = some ar ∧ ar.arg = "self" ∧
    (∀ (s : Shared) (self : Value) (us : List Value), us.length = fs.length → BindsTo s (PySem.W.ksFn name qual params (.Expr (.Call (.Attribute (.Call (.Name "super" p0) [] [] p1) "__init__" p2) [.Constant (.str text) j p3] [] p4) p5 :: ss) sc dV kV doc pm an (.ref cda) ct cc) ⟨self :: us, []⟩ ((("self" : Str) :: fs).zip (self :: us))) ∧
    K.lookup cda = some ⟨ccl, cdd, .fields vs, ccs⟩ ∧ vs[2]? = some (.str file tf) ∧ ((P.main.file : Str) == file) = true ∧ K.lookup cc = some ⟨cl, cld, .cell (some (.ref C)), csl⟩ ∧
    (p2.endLine == p4.line) = true ∧ sc.kind = .function ∧ sc.isCoroutine = false ∧ sc.isGenerator = false ∧ (∀ x ∈ sc.names, x.2 ≠ .cell) ∧ sc.names.lookup ("super" : Str) = some .globalImplicit ∧ sc.names.lookup ("__class__" : Str) = some .free ∧
    (∀ f ∈ ("self" : Str) :: fs, sc.names.lookup f = some .local)
  mro : PySem.W.mroIn K C (.ref C) = some true
  gsup : PySem.W.nsIn K mainGlobals "super" = some none
  third : PySem.W.nsIn K PySem.cStatics "thirdparty.any" = some none
  top : (P.main.scope.names.lookup ("super" : Str)).isSome = false
  fld : ∀ f ∈ fs, PySem.W.findIn K (.ref C) f = some none
  nd : (("self" : Str) :: fs).Nodup
  few : fs.length ≤ 9
  ndbg : ∀ f ∈ ("self" : Str) :: fs, (f == ("__debug__" : Str)) = false
theorem nodup_atG {α : Type} : ∀ {l : List α}, l.Nodup → ∀ {i j : Nat} {a : α}, l[i]? = some a → l[j]? = some a → i = j
  | [], _, i, j, a, hi, _ => by simp at hi
  | x :: l, nd, i, j, a, hi, hj => by
    rw [List.nodup_cons] at nd
    cases i with
    | zero =>
      cases j with
      | zero => rfl
      | succ j =>
        simp at hi hj
        subst hi
        exact absurd (List.mem_of_getElem? hj) nd.1
    | succ i =>
      cases j with
      | zero =>
        simp at hi hj
        subst hj
        exact absurd (List.mem_of_getElem? hi) nd.1
      | succ j => exact congrArg Nat.succ (nodup_atG (i := i) (j := j) nd.2 (by simpa using hi) (by simpa using hj))
theorem look_rev {α : Type} (fs : List Str) (us : List α) (nd : fs.Nodup) (i : Nat) (f : Str) (u : α) (hf : fs[i]? = some f) (hu : us[i]? = some u) : (fs.zip us).reverse.lookup f = some u := by
  have key : ∀ (l : List (Str × α)), (∀ p ∈ l, p.1 = f → p.2 = u) → (f, u) ∈ l → l.lookup f = some u := by
    intro l
    induction l with
    | nil => intro _ h; cases h
    | cons p l ih =>
      intro nd h
      obtain ⟨g, v⟩ := p
      by_cases e : f = g
      · have := nd (g, v) (by simp) e.symm
        subst e
        have this : v = u := this
        subst this
        simp [List.lookup]
      · have ne : (f == g) = false := by simpa using e
        rw [List.lookup, ne]
        refine ih (fun p hp => nd p (by simp [hp])) ?_
        rcases List.mem_cons.mp h with h2 | h2
        · exact absurd (congrArg Prod.fst h2) e
        · exact h2
  refine key _ (fun p hp e => ?_) ?_
  · rw [List.mem_reverse] at hp
    obtain ⟨k, hk⟩ := List.getElem?_of_mem hp
    rw [List.getElem?_zip_eq_some] at hk
    obtain ⟨k1, k2⟩ := hk
    have : k = i := nodup_atG nd (by rw [e] at k1; exact k1) hf
    rw [this, hu] at k2
    exact (Option.some.inj k2).symm
  · rw [List.mem_reverse]
    have : (fs.zip us)[i]? = some (f, u) := by
      rw [List.getElem?_zip_eq_some]
      exact ⟨hf, hu⟩
    exact List.mem_of_getElem? this
theorem sup_eq {o : Expr} {m : Str} {apos pos : Pos} {env : Env} {es : List Expr} (hs : es.all notStar = true) (hn : es.length < 30) (hl : (apos.endLine == pos.line) = true) :
    eval (.Call (.Attribute o m apos) es [] pos) env = (do
      let ov ← attributeBase o m env (eval o env)
      standAt apos.atName
      let (f, first) ← holding [ov] (getMethod ov m (plainOf o env))
      callWith pos f first (backTo pos (starEach es env)) []) := by
  show (do
    let ov ← attributeBase o m env (eval o env)
    standAt apos.atName
    methodCall o m apos pos env ov (es.length + 0) (backTo pos (starEach es env)) []) = _
  have e : ∀ ov, methodCall o m apos pos env ov (es.length + 0) (backTo pos (starEach es env)) [] = (do
      let (f, first) ← holding [ov] (getMethod ov m (plainOf o env))
      callWith pos f first (backTo pos (starEach es env)) []) := fun ov => mcall_line (by
    unfold methodCallForm
    rw [form_all es pos hs]
    show (true && true && decide (es.length + 0 + 0 < 30)) = true
    rw [decide_eq_true (show es.length + 0 + 0 < 30 from hn)]
    rfl) hl
  simp only [e]
section
variable {P : Program} {w : World} {K : PySem.W.Frag} {C e L : Addr} {h0 : Heap} {m : Str → Option Value}
/-- the exception at e while its fields are stored: what it holds by now -/
def FldAt (L : Addr) (C e : Addr) (mA : Str → Option Value) (n : Nat) (h : Heap) : Prop :=
  (n = 0 ∧ (∃ t1 : Addr, h.get? e = some (PySem.W.excObj C t1 none .none)) ∧ mA = fun _ => none) ∨
  ∃ (t1 dx : Addr) (nl : List Str), h.get? e = some (PySem.W.excObj C t1 (some dx) .none) ∧ h.Ns1 dx mA ∧ L < dx ∧ dx ≠ e ∧ Within mA nl ∧ nl.length ≤ n
theorem flds_run {ss : List Stmt} {fs : List Str} (F : FldSts ss fs) {body : List Stmt} {env : Env} {A : Around} {E : Value → Shared → Prop} (KX : K.In h0) (S : StoC K C)
    (hk : env.scope.kind = .function) (hl : ∀ f ∈ ("self" : Str) :: fs, env.kindOf f = some .local) (hL : env.locals = L) (hm : m "self" = some (.ref e)) (hdb : ∀ f ∈ ("self" : Str) :: fs, (f == ("__debug__" : Str)) = false)
    (he : h0.objs.size ≤ e) (hLe : L ≠ e) (hf : ∀ f ∈ fs, PySem.W.findIn K (.ref C) f = some none) : ∀ (us : List Value) (mA : Str → Option Value) (n : Nat) (s : Shared) (Q : Flow → Shared → Prop), us.length = fs.length → n + fs.length ≤ 900 →
      (∀ (i : Nat) f u, fs[i]? = some f → us[i]? = some u → m f = some u) → s.heap.Ns L m → (∀ b o, h0.get? b = some o → s.heap.get? b = some o) → h0.objs.size ≤ L → FldAt L C e mA n s.heap →
      (∀ s', (∀ b o, h0.get? b = some o → s'.heap.get? b = some o) → s'.gens = s.gens → s'.os = s.os → FldAt L C e (fun y => ((fs.zip us).reverse.lookup y).or (mA y)) (n + fs.length) s'.heap → Q .next s') →
      PySem.wpAt (model P w) A (.func body env) (execs ss env) Q E s := by
  induction F with
  | nil =>
    intro us mA n s Q hu hn hv hns hkp hab hat hq
    cases us with
    | cons _ _ => cases hu
    | nil =>
      refine PySem.wpAt_of_wpAny (wpAny_execs_nil (hq s hkp rfl rfl ?_))
      simpa using hat
  | @cons f p1 p2 p3 p4 ss fs r ih =>
    intro us mA n s Q hu hn hv hns hkp hab hat hq
    cases us with
    | nil => cases hu
    | cons u us =>
      have hu' : us.length = fs.length := by simpa using hu
      have hn' : n + fs.length + 1 ≤ 900 := by simpa [Nat.add_assoc] using hn
      have mf : m f = some u := hv 0 f u rfl rfl
      refine PySem.ks_wpAt_execs_cons (PySem.wpAt_of_wpAny (plainObj_wpAny_Assign_Attribute (wpAny_Name (wpAny_loadName_local hk (hl f (by simp)) (by rw [hL]; exact hns) mf ?_) (hdb f (by simp)))))
      refine wpAny_Name (wpAny_loadName_local hk (hl "self" (by simp)) (by rw [hL]; exact hns) hm ?_) (hdb "self" (by simp))
      have next : ∀ (s' : Shared) (mB : Str → Option Value), s'.heap.Ns L m → (∀ b o, h0.get? b = some o → s'.heap.get? b = some o) → s'.gens = s.gens → s'.os = s.os → mB = (fun y => if y = f then some u else mA y) → FldAt L C e mB (n + 1) s'.heap →
          PySem.wpAt (model P w) A (.func body env) (execs ss env) Q E s' := by
        intro s' mB a1 a2 a3 a4 eB a5
        refine ih (fun g hg => hl g (by simp at hg ⊢; rcases hg with hg | hg <;> simp [hg])) (fun g hg => hdb g (by simp at hg ⊢; rcases hg with hg | hg <;> simp [hg])) (fun g hg => hf g (by simp [hg])) us mB (n + 1) s' Q hu' (by omega) (fun i g x h1 h2 => hv (i + 1) g x (by simpa using h1) (by simpa using h2)) a1 a2 hab a5 fun s2 b1 b2 b3 b4 => hq s2 b1 (b2.trans a3) (b3.trans a4) ?_
        have e1 : (fun y => (((f :: fs).zip (u :: us)).reverse.lookup y).or (mA y)) = fun y => ((fs.zip us).reverse.lookup y).or (mB y) := by
          funext y
          rw [eB]
          show ((((f, u) :: fs.zip us).reverse).lookup y).or (mA y) = _
          rw [List.reverse_cons, List.lookup_append]
          by_cases q : y = f
          · subst q
            simp [List.lookup]
          · have : (y == f) = false := by simpa using q
            simp [List.lookup, this, q]
        rw [e1]
        have : n + (f :: fs).length = n + 1 + fs.length := by simp; omega
        rw [this]; exact b4
      obtain ⟨hp, g, d, t, os⟩ := s
      have XK : K.In hp := fun b o q => hkp b o (KX b o q)
      rcases hat with ⟨n0, ⟨t1, ho⟩, eA⟩ | ⟨t1, dx, nl, ho, hn1, hd1, hd2, hw, hz⟩
      · refine PySem.W.set_plain XK (ox := PySem.W.excObj C t1 none .none) (od := none) ⟨ho, rfl, rfl, trivial⟩ S.sa ?_
        refine S.new XK ho (hf f (by simp)) fun h' tk' dx k dn dne hx hn2 => ?_
        refine next _ (fun y => if y = f then some u else none) ?_ (fun b o q => k b o (Nat.ne_of_lt (Nat.lt_of_lt_of_le (Heap.lt_size q) he)) (hkp b o q)) rfl rfl (by rw [eA]) ?_
        · obtain ⟨oL, es, ep, q1, q2⟩ := hns
          exact ⟨oL, es, ep, k _ _ hLe q1, q2⟩
        · refine .inr ⟨t1, dx, [f], hx, hn2, ?_, dne, fun y hy => ?_, by simp⟩
          · obtain ⟨oL, es, ep, q1, q2⟩ := hns
            exact Nat.lt_of_lt_of_le (Heap.lt_size q1) dn
          · by_cases q : y = f
            · simp [q]
            · simp [q] at hy
      · obtain ⟨oD, _, _, hoD, _, _⟩ := hn1.count hw
        refine PySem.W.set_plain XK (ox := PySem.W.excObj C t1 (some dx) .none) (od := some oD) ⟨ho, rfl, rfl, hoD⟩ S.sa ?_
        refine S.old XK ho hn1 hw (by omega) (hf f (by simp)) fun h' tk' k hn2 => ?_
        have hdL : L ≠ dx := Nat.ne_of_lt hd1
        refine next _ (fun y => if y = f then some u else mA y) ?_ (fun b o q => k b o (Nat.ne_of_lt (Nat.lt_trans (Nat.lt_of_lt_of_le (Heap.lt_size q) hab) hd1)) (hkp b o q)) rfl rfl rfl ?_
        · obtain ⟨oL, es, ep, q1, q2⟩ := hns
          exact ⟨oL, es, ep, k _ _ hdL q1, q2⟩
        · refine .inr ⟨t1, dx, f :: nl, k _ _ (Ne.symm hd2) ho, hn2, hd1, hd2, Within.cons f u hw, by simp; omega⟩
/-- such an __init__ called upon a new exception -/
theorem init_run {fs : List Str} (S : SupC P K C fs) (KX : K.In h0) {A : Around} {R : Result → Shared → Prop} {hh : Heap} {g : Array GenState} {d : Drawn} {t : Nat} {os : OsState} {t0 : Addr} {us : List Value} {mg mb : Str → Option Value} (hu : us.length = fs.length) (hroom : A.depth < recursionLimit)
    (kp : ∀ b o, h0.get? b = some o → hh.get? b = some o) (hsz : h0.objs.size ≤ hh.objs.size) (he : h0.objs.size ≤ e) (ho : hh.get? e = some (PySem.W.excObj C t0 none .none)) (lim : hh.NoLimit) (hg : h0.Ns mainGlobals mg) (hb : h0.Ns builtinsNs mb) (hbb : mb "super" = bootBuiltins "super")
    (hq : ∀ s' L, (∀ b o, h0.get? b = some o → s'.heap.get? b = some o) → h0.objs.size ≤ L → s'.gens = g → s'.os = os → FldAt L C e (fun y => (fs.zip us).reverse.lookup y) fs.length s'.heap → R (.ok (.ret .none)) s') :
    ∃ fI : Addr, PySem.W.findIn K (.ref C) "__init__" = some (some (.ref fI)) ∧ PySem.W.typeIn K (.ref fI) = some (.type "function") ∧ codeAny (model P w) A (.call (.ref fI) ⟨.ref e :: us, []⟩) R ⟨hh, g, d, t, os⟩ := by
  obtain ⟨fI, cc, cda, name, qual, params, sc, dV, kV, doc, pm, ct, oc, an, od, osl, ar, text, j, p0, p1, p2, p3, p4, p5, ss, ccl, cl, cdd, cld, ccs, csl, vs, file, tf, f1, f2, f3, f4, f5, f6, f7, f8, f9, f10, f11, f12, k0, k1, k2, k3, k4, k5, k6, k7⟩ := S.fn
  refine ⟨fI, f1, f2, ?_⟩
  have XK : K.In hh := fun b o q => kp b o (KX b o q)
  have hlt : e < hh.objs.size := Heap.lt_size ho
  refine PySem.ks_codeAny_call_defAt hroom (XK _ _ f3) rfl lim (PySem.W.codeRec_of XK f4) rfl (f8 _ (.ref e) us hu) k4 (fun x hx => ?_) (fun h₁ hns hk₁ => ?_) k2 k3 k1
  · obtain ⟨a, b⟩ := x
    exact k7 a (List.of_mem_zip hx).1
  have F : Fr h0 hh.objs.size h₁ (fun x => ((("self" : Str) :: fs).zip (Value.ref e :: us)).reverse.lookup x) := ⟨hns, fun b o q => hk₁ b o (kp b o q), hsz⟩
  have N : News h0 hh.objs.size h₁ [(e, PySem.W.excObj C t0 none .none)] := fun p hp => by
    rw [List.mem_singleton] at hp
    subst hp
    refine ⟨hk₁ _ _ ho, Nat.ne_of_lt hlt, ?_⟩
    cases z : h0.get? e with
    | none => rfl
    | some o => exact absurd (Heap.lt_size z) (Nat.not_lt.mpr he)
  have hself : ((("self" : Str) :: fs).zip (Value.ref e :: us)).reverse.lookup ("self" : Str) = some (Value.ref e) := look_rev _ _ S.nd 0 _ _ rfl rfl
  refine PySem.ks_wpAt_execs_cons (PySem.ks_wpAt_Expr_any (PySem.ks_wpAt_MethodCall ?_ (sup_eq rfl (by show 1 < 30; decide) k0)) (by unfold interactive; rw [show (callEnv _ _ _).scope.kind = sc.kind from rfl, k1]; rfl))
  obtain ⟨B, newId, initId, bmB, b1, b2, b3, b4, b5⟩ := S.base
  have X1 : K.In h₁ := fun b o q => F.keep b o (KX b o q)
  have gN : mg "super" = none := PySem.W.mg_none_of KX hg S.gsup
  obtain ⟨oD, cd, hD1, hD2, hcl⟩ : ∃ oD cd, h₁.get? C = some oD ∧ oD.data = .cls cd ∧ PySem.W.clsIn K C = some cd := by
    have hm := S.mro
    unfold PySem.W.mroIn at hm
    cases z : PySem.W.clsIn K C with
    | none => rw [z] at hm; cases hm
    | some cd =>
      unfold PySem.W.clsIn at z
      split at z
      · rename_i c d cd' sl q
        cases z
        exact ⟨_, _, X1 _ _ q, rfl, rfl⟩
      · cases z
  refine PySem.ks_wpAt_super_base (env := PySem.W.ksEnv qual sc hh.objs.size fI (.ref cda) cc) k5 k6 (by decide) rfl (X1 _ _ f3) rfl f6 rfl (X1 _ _ f9) rfl f10 f11 S.top ?_
  refine PySem.W.ks_loadName_global k1 k5 (PySem.Calls.loadGlobal_builtin (env := PySem.W.ksEnv qual sc hh.objs.size fI (.ref cda) cc) (hg.keeps F.keep) gN (hb.keeps F.keep) (hbb.trans (by decide +kernel : bootBuiltins "super" = some (.type "super"))) ⟨rfl, ?_⟩)
  refine wpAny_loadName_free k1 k6 rfl ⟨_, X1 _ _ f12, rfl⟩ ?_
  refine wpAny_loadName_local k1 (by rw [f7]; exact k7 "self" (by simp)) F.ns (by rw [f7]; exact hself) ?_
  refine PySem.ks_wpAny_isType_cls hD1 hD2 ⟨rfl, ?_⟩
  refine PySem.ks_wpAny_call_super hD1 hD2 (hk₁ _ _ ho) rfl (fun c z => by cases z) (PySem.W.looks_mroIn X1 S.mro) fun h₂ e2 kp2 => ?_
  obtain ⟨F2, N2, l2⟩ := PySem.W.ks_newsPush (s := ⟨h₁, g, d, t, os⟩) F N rfl e2 kp2
  have I2 : PySem.W.InstAt h₂ e (PySem.W.excObj C t0 none .none) C none := ⟨(N2 (e, PySem.W.excObj C t0 none .none) (List.mem_cons_of_mem _ (List.mem_singleton.mpr rfl))).1, rfl, rfl, trivial⟩
  refine PySem.W.kxs_method b2 F2 KX N2 List.mem_cons_self I2 S.third b4 b5 (by decide) fun q h₃ F3 N3 l3 => ?_
  refine PySem.W.kxs_callWith1 (i := initId) (x := e) N3 List.mem_cons_self ?_
  show wpAny _ _ (spliced ((false, eval (.Constant (.str text) j p3) (PySem.W.ksEnv qual sc hh.objs.size fI (.ref cda) cc)) :: backTo p4 (starEach [] (PySem.W.ksEnv qual sc hh.objs.size fI (.ref cda) cc)))) _ _ _
  refine PySem.Calls.spliced_cons (wpAny_Constant_str (k := j) (pos := p3) ?_)
  refine PySem.Calls.spliced_nil ⟨PySem.W.kxs_at N3 List.mem_cons_self, ?_⟩
  have hqe : q ≠ e := fun z => by
    have := l3 (e, PySem.W.excObj C t0 none .none) (List.mem_cons_of_mem _ (List.mem_singleton.mpr rfl))
    rw [z] at this
    exact Nat.lt_irrefl _ this
  have hse : h₁.objs.size ≠ e := fun z => by
    have := l2 (e, PySem.W.excObj C t0 none .none) (List.mem_singleton.mpr rfl)
    have this : e < h₁.objs.size := this
    rw [z] at this
    exact Nat.lt_irrefl _ this
  refine PySem.W.kxs_call (t := t0) (dv := none) (c2 := .none) F3 KX N3 b1 b3 List.mem_cons_self (.tail hqe (.tail hse (.head fun p hp => by cases hp))) (by show 1 ≤ sizeLine; rw [sizeLine_eq]; omega) fun t1 h₄ F4 N4 l4 => ?_
  refine flds_run (L := hh.objs.size) (env := PySem.W.ksEnv qual sc hh.objs.size fI (.ref cda) cc) f5 KX S.st k1 (fun f hf => k7 f hf) rfl hself S.ndbg he (Ne.symm (Nat.ne_of_lt hlt)) S.fld us (fun _ => none) 0 _ _ hu (by have := S.few; omega) (fun i f u h1 h2 => look_rev _ _ S.nd (i + 1) f u (by simpa using h1) (by simpa using h2)) F4.ns F4.keep F4.above
    (.inl ⟨rfl, ⟨t1, (N4 (e, PySem.W.excObj C t1 none .none) (by simp)).1⟩, rfl⟩) fun s' q1 q2 q3 q4 => ?_
  refine hq s' hh.objs.size q1 hsz q2 q3 ?_
  simpa using q4
end
theorem rev_look {α : Type} (fs : List Str) (us : List α) (nd : fs.Nodup) (y : Str) : (fs.zip us).reverse.lookup y = (fs.zip us).lookup y := by
  have key : ∀ (fs : List Str) (us : List α), fs.Nodup → (fs.zip us).reverse.lookup y = (fs.zip us).lookup y := by
    intro fs
    induction fs with
    | nil => intro us _; rfl
    | cons f fs ih =>
      intro us nd
      cases us with
      | nil => rfl
      | cons u us =>
        rw [List.nodup_cons] at nd
        show ((f, u) :: fs.zip us).reverse.lookup y = ((f, u) :: fs.zip us).lookup y
        rw [List.reverse_cons, List.lookup_append, ih us nd.2]
        by_cases q : y = f
        · subst q
          have : (fs.zip us).lookup y = none := by
            rw [List.lookup_eq_none_iff]
            intro p hp
            obtain ⟨a, b⟩ := p
            have z : y ≠ a := fun z => by
              subst z
              exact nd.1 (List.of_mem_zip hp).1
            simpa using z
          rw [this]
          simp [List.lookup]
        · have q' : (y == f) = false := by simpa using q
          simp [List.lookup, q']
  exact key fs us nd
theorem relO_zip : ∀ (fs : List Str) {vs : List V} {us : List Value}, Vals vs us → ∀ y, RelO ((fs.zip vs).lookup y) ((fs.zip us).lookup y)
  | [], _, _, _, y => trivial
  | f :: fs, _, _, .nil, y => trivial
  | f :: fs, _, _, .cons r rs, y => by
    show RelO (((f, _) :: fs.zip _).lookup y) (((f, _) :: fs.zip _).lookup y)
    rw [List.lookup_cons, List.lookup_cons]
    cases y == f with
    | true => exact r
    | false => exact relO_zip fs rs y
/-- X(e, ..), X such a class -/
theorem pmk_sup {X : Cx} {C : Addr} {fs : List Str} {x : Str} {e : Expr} {es : List Expr} {ta : TA} {p pos : Pos} (S : SupC X.prog X.K C fs) (h0 : fs ≠ []) (hr : Room 1 X.A) (hg : Gl X x) (hm : X.mg x = some (.ref C)) (ha : PA X (e :: es) ta)
    (hdb : (x == ("__debug__" : Str)) = false) (he : starEach (e :: es) X.env = (false, eval e X.env) :: starEach es X.env) (hpl : (backTo pos (starEach es X.env)).any (·.1) = false) :
    PMk X (.Call (.Name x p) (e :: es) [] pos) (fun σ H Q => ta σ H fun vs H1 => vs.length = fs.length ∧ ∀ d, H1 d = none → Q (.ref C) (some d) (upd H1 d (.xd (fs.zip vs)))) := by
  intro pins s σ H Q I h
  refine wpAny_Call_Name_kw (ld_glob I hg hm ?_ hdb)
  refine PySem.W.callWith_K (h₀ := X.base) I.ok.mod.kin S.kC (thn (ha.run pos pins s σ H _ I h) fun us s1 ⟨vs, H1, I1, r1, hz, hz2⟩ => ⟨I1.kIn, ?_⟩) he hpl
  show wpAny _ _ (call (.ref C) us) _ _ _
  obtain ⟨hp, g, dr, tk, os⟩ := s1
  obtain ⟨B, newId, initId, bmB, b1, b2, b3, b4, b5⟩ := S.base
  obtain ⟨nm, N, qn, bs, bm, hdct, sn, sub, ab, col, dd, k0, k1, k2, k3, k5, hC, hT⟩ := PySem.W.excInit_of I1.kIn b3
  obtain ⟨mb, hmb, hbb⟩ := I.ok.mod.blt
  have hul : us.length = fs.length := by rw [← Paired.length r1]; exact hz
  have hus : us.length ≤ sizeLine := by rw [hul, sizeLine_eq]; have := S.few; omega
  have kk : ∀ b o, hp.get? b = some o → ((hp.push (PySem.W.kdv_tup us)).push (PySem.HandSPX.excO C hp.objs.size)).get? b = some o := fun b o e => Heap.get?_push_of_some _ (Heap.get?_push_of_some _ e)
  have hget : ((hp.push (PySem.W.kdv_tup us)).push (PySem.HandSPX.excO C hp.objs.size)).get? (hp.objs.size + 1) = some (PySem.W.excObj C hp.objs.size none .none) := by
    show _ = some (PySem.HandSPX.excO C hp.objs.size)
    heap_get
  have lim0 : hp.NoLimit := I1.ok.mod.nolimit.keeps I1.bk
  have lim1 : ((hp.push (PySem.W.kdv_tup us)).push (PySem.HandSPX.excO C hp.objs.size)).NoLimit := lim0.keeps kk
  have hsz2 : ((hp.push (PySem.W.kdv_tup us)).push (PySem.HandSPX.excO C hp.objs.size)).objs.size = hp.objs.size + 2 := by
    first | rfl | simp [Heap.push]
  have hqq : ∀ s' L, (∀ b o, hp.get? b = some o → s'.heap.get? b = some o) → hp.objs.size ≤ L → s'.gens = g → s'.os = os → FldAt L C (hp.objs.size + 1) (fun y => (fs.zip us).reverse.lookup y) fs.length s'.heap → PySem.W.InitBack (hp.objs.size + 1) (fun r s' => match r with
      | .ok (.ret u) => MkP X pins σ Q u s'
      | .ok _ => False
      | .error e => X.xe e s') (.ok (.ret .none)) s' := by
    intro s' L q1 qL q2 q3 q4
    refine ⟨rfl, ?_⟩
    show MkP X pins σ Q (.ref (hp.objs.size + 1)) s'
    rcases q4 with ⟨n0, _, _⟩ | ⟨t1, dx, nl, o1, o2, o3, o4, _, _⟩
    · exact absurd (List.length_eq_zero_iff.mp n0) h0
    · have hd1 : hp.objs.size ≤ dx := Nat.le_trans qL (Nat.le_of_lt o3)
      have nd : H1 dx = none := I1.hok.fresh hd1
      have ne1 : H1 (hp.objs.size + 1) = none := I1.hok.fresh (Nat.le_succ hp.objs.size)
      obtain ⟨G, g1', g2'⟩ := restrict s'.heap fun b => decide (b ≠ hp.objs.size + 1)
      have gk : ∀ b, b ≠ hp.objs.size + 1 → G.get? b = s'.heap.get? b := fun b hb => g1' b (decide_eq_true hb)
      have ge : G.get? (hp.objs.size + 1) = none := g2' _ (by simp)
      have kG : ∀ b o, hp.get? b = some o → G.get? b = some o := fun b o q => by
        rw [gk b (Nat.ne_of_lt (Nat.lt_succ_of_lt (Heap.lt_size q)))]
        exact q1 b o q
      have nsG : G.Ns1 dx (fun y => (fs.zip us).reverse.lookup y) := by
        have e : (fun y => ((fs.zip us).reverse.lookup y)) = fun y => ((fs.zip us).reverse.lookup y) := rfl
        exact o2.at fun o q => (gk dx o4).trans q
      have ok : ObjOk X.prog X.w (upd H1 dx (.xd (fs.zip vs))) G dx (.xd (fs.zip vs)) := ⟨_, nsG, fun y => by
        rw [rev_look fs us (List.nodup_cons.mp S.nd).2 y]
        exact relO_zip fs r1 y⟩
      have J := I1.laid (t' := tk) (a := dx) (o := .xd (fs.zip vs)) (h' := G) kG hd1 ok
      refine ⟨hp.objs.size + 1, _, _, ⟨G, g, dr, tk, os⟩, upd H1 dx (.xd (fs.zip vs)), .ref C, some dx, rfl, J, fun b o q => ?_, ge, o1, ⟨rfl, rfl⟩, rfl, rfl, ?_, q3, ?_, raises_own S.exC S.tyC, hz2 dx nd⟩
      · by_cases hb : b = hp.objs.size + 1
        · rw [hb, ge] at q; cases q
        · exact (gk b hb).symm.trans q
      · rw [upd_ne (Ne.symm o4)]; exact ne1
      · rw [q2]; exact I1.bare
  obtain ⟨fI, i1, i2, run⟩ := init_run (e := hp.objs.size + 1) S I1.kIn (A := X.A.under (.builtin "type.__call__" ⟨.ref C :: us, []⟩)) (hh := (hp.push (PySem.W.kdv_tup us)).push (PySem.HandSPX.excO C hp.objs.size)) (g := g) (d := dr) (t := tk) (os := os)
    (t0 := hp.objs.size) (us := us) (mg := X.mg) (mb := mb) (R := PySem.W.InitBack (hp.objs.size + 1) fun r s' => match r with
      | .ok (.ret u) => MkP X pins σ Q u s'
      | .ok _ => False
      | .error e => X.xe e s') hul (hr.make C us []).depth kk (by rw [hsz2]; exact Nat.le_add_right _ _) (Nat.le_succ hp.objs.size) hget lim1 (I1.ok.mod.glob.keeps I1.bk) (hmb.keeps I1.bk) (hbb "super" (by decide)) hqq
  exact wpAny_call (PySem.HandSPX.call_own b1 hT hC (PySem.W.looks_findIn I1.kIn i1) (fun self => PySem.W.bind_fn I1.kIn self i2) hus (codeAny_mono run fun r s' hr' => hr'))
end DD
set_option Elab.async false
set_option linter.all false
set_option maxRecDepth 100000
set_option maxHeartbeats 4000000
/-! DY: what raises. -/
namespace DD
open PySem PySem.Spec PyProof.Rows L2
variable [Ups]

def excF (cc : Nat) (nm : List Str) (fl : SL) : SR := fun τ h => (fl τ h).bind fun ws h => if ws.length ≤ lim ∧ (nm.length = ws.length ∨ nm = []) then .ok (cc, nm.zip ws) h else .bad
theorem pmk_imp {X : Cx} {e : Expr} {t t' : L2.St → Hp → XK → Prop} (p : PMk X e t) (i : ∀ σ H Q, t' σ H Q → t σ H Q) : PMk X e t' := fun pins s σ H Q I h => p pins s σ H Q I (i σ H Q h)
/-- an exception's class -/
inductive ExcOf (P : Program) (K : PySem.W.Frag) (C : Addr) : List Str → Prop
  | sup {nm : List Str} (h0 : nm ≠ []) (S : SupC P K C nm) : ExcOf P K C nm
  | own {B newId initId : String} {bmB : List Value} (F : ExcBaseFacts B newId initId bmB) (q : PySem.W.excIn K C bmB newId = true) (kC : PySem.W.keepIn K (.ref C) = true) (exC : PySem.W.subIn K (.ref C) (.type "BaseException") = some true) (tyC : PySem.W.typeIn K (.ref C) = some (.type "type")) : ExcOf P K C []
theorem exc_mk {Y : Cx} {W : WX} {ca : Nat → Addr} {x : Str} {cc : Nat} {nm : List Str} (E : ExcOf Y.prog Y.K (ca cc) nm) (hm : Y.mg x = some (.ref (ca cc))) (hr : Room 1 Y.A) (hg : Gl Y x) (hdb : (x == ("__debug__" : Str)) = false) {es : List Expr} {fl : SL} {p pos : Pos} (hne : es ≠ []) (A : Args Y ca W es fl) :
    PMk Y (.Call (.Name x p) es [] pos) (tR Y.K ca W (excF cc nm fl)) := by
  cases es with
  | nil => exact absurd rfl hne
  | cons e es =>
    have hs := A.star
    rw [List.all_cons, Bool.and_eq_true] at hs
    have he := starEach_cons (env := Y.env) e es hs.1
    have hpl := starEach_all (env := Y.env) es hs.2 pos
    cases E with
    | sup h0 S =>
      refine pmk_imp (pmk_sup S h0 hr hg hm A.pa hdb he hpl) fun σ H Q ⟨ρ, τ, h, R, T, x⟩ => ?_
      refine tDL.fst R T x fun ws h1 ρ1 H1 vs e1 R1 T1 r x1 => ?_
      have x1 : Wp Y.K ca (fun _ _ (a b : Nat × List (Str × PV)) => b = a) (XW Y.K ca W σ) ρ1 H1 (fun p _ ρ' H' _ => ∀ d, ExD Y.K ρ' H' p.2 d → Q (.ref (ca p.1)) d H') (if ws.length ≤ lim ∧ (nm.length = ws.length ∨ nm = []) then .ok (cc, nm.zip ws) h1 else .bad) := x1
      split at x1
      · rename_i c
        have hl : nm.length = ws.length := by
          rcases c.2 with z | z
          · exact z
          · exact absurd z h0
        refine ⟨by rw [← r.length]; exact hl.symm, fun d nd => ?_⟩
        have x1 := x1 ρ1 (upd H1 d (.xd (nm.zip vs))) (cc, nm.zip ws) (Ext.fresh nd) (R1.fresh nd) rfl (some d)
        refine x1 (.inr ⟨d, nm.zip vs, rfl, upd_same, ?_⟩)
        have r' := RVs.ext R1 (Ext.fresh (u := .xd (nm.zip vs)) nd) ws vs r
        clear x1 x c hl r T1 R1 e1
        have key : ∀ (nm : List Str) (ws : List PV) (vs : List V), RVs Y.K ρ1 (upd H1 d (.xd (nm.zip vs))) ws vs → True := fun _ _ _ _ => trivial
        generalize upd H1 d (.xd (nm.zip vs)) = H2 at r'
        have go : ∀ (nm : List Str) (ws : List PV) (vs : List V), RVs Y.K ρ1 H2 ws vs → RFs Y.K ρ1 H2 (nm.zip ws) (nm.zip vs) := by
          intro nm
          induction nm with
          | nil => intro ws vs _; exact rfl
          | cons n nm ih =>
            intro ws vs q
            cases ws with
            | nil => rw [q.inv0]; exact rfl
            | cons w ws =>
              obtain ⟨v, t, rfl, a, b⟩ := q.inv
              exact ⟨v, _, rfl, a, ih ws t b⟩
        exact go nm ws vs r'
      · exact x1.elim
    | own F q kC exC tyC =>
      refine pmk_imp (pmk_ownA F q hm kC (raises_own exC tyC) hg A.pa hdb he hpl) fun σ H Q ⟨ρ, τ, h, R, T, x⟩ => ?_
      refine tDL.fst R T x fun ws h1 ρ1 H1 vs e1 R1 T1 r x1 => ?_
      have x1 : Wp Y.K ca (fun _ _ (a b : Nat × List (Str × PV)) => b = a) (XW Y.K ca W σ) ρ1 H1 (fun p _ ρ' H' _ => ∀ d, ExD Y.K ρ' H' p.2 d → Q (.ref (ca p.1)) d H') (if ws.length ≤ lim ∧ (([] : List Str).length = ws.length ∨ ([] : List Str) = []) then .ok (cc, ([] : List Str).zip ws) h1 else .bad) := x1
      split at x1
      · rename_i c
        refine ⟨by rw [← r.length]; exact lim_ok c.1, ?_⟩
        exact x1 ρ1 H1 (cc, []) (Ext.refl _ _) R1 rfl none (.inl ⟨rfl, rfl⟩)
      · exact x1.elim
end DD
set_option Elab.async false
set_option linter.all false
set_option maxRecDepth 100000
set_option maxHeartbeats 4000000
/-! DZ: try with several clauses, each with a name or without. -/
namespace DD
open PySem PySem.Spec PyProof.Rows L2
variable [Ups]

/-- a clause: its class, the slot of its name, what its suite comes to -/
structure Clz where
  c : Value
  i : Option Nat
  ts : Addr → Value → Option Addr → TS
def goneD (i : Nat) (D : Ends) : Ends := { nx := fun σ H => D.nx (σ.set i none) H, rt := D.rt, bk := fun σ H => D.bk (σ.set i none) H, ct := fun σ H => D.ct (σ.set i none) H }
def Clz.go (k : Clz) (a : Addr) (cls : Value) (d : Option Addr) (D : Ends) (σ : L2.St) (H : Hp) : Prop := match k.i with
  | none => k.ts a cls d D σ H
  | some i => k.ts a cls d (goneD i D) (σ.set i (some (.ref a))) H
/-- what the clauses ask of an exception that comes out of the body -/
def wCl (K : PySem.W.Frag) (n : Nat) (Wo : WX) (D : Ends) : List Clz → WX
  | [] => Wo
  | k :: r => fun cls d σ H => ∃ b, PySem.W.exmOne K cls k.c = some b ∧ (b = true → ∀ a, H a = none → σ.length = n → k.go a cls d D σ H) ∧ (b = false → wCl K n Wo D r cls d σ H)
inductive ClOk (X : Cx) : List ExceptHandler → List Clz → Prop
  | nil : ClOk X [] []
  | cons {x : Str} {k : Clz} {nm : Option Str} {b₀ : Stmt} {suite : List Stmt} {np pos' : Pos} {hds : List ExceptHandler} {l : List Clz} (hc : Names X x k.c)
      (hn : (nm = none ∧ k.i = none) ∨ ∃ n i, nm = some n ∧ k.i = some i ∧ X.N[i]? = some n ∧ X.env.kindOf n = some .local)
      (hsu : ∀ (a : Addr) (oe : Obj) (cls : Value) (d : Option Addr) (pn : List (Addr × Obj)), Zc cls d oe → (∃ vs, oe.data = .fields vs) → PSs (X.suite a ((a, oe) :: pn)) (b₀ :: suite) (k.ts a cls d)) (r : ClOk X hds l) :
      ClOk X (.ExceptHandler (some (.Name x np)) nm (b₀ :: suite) pos' :: hds) (k :: l)
section
variable {X : Cx} {body : List Stmt} {h₀ : ExceptHandler} {hds : List ExceptHandler} {l : List Clz} {pos : Pos} {tb : WX → TS} {Wo : WX}
theorem cl_go {pins : List (Addr × Obj)} {D : Ends} {a : Addr} {B : Heap} {sI s' : Shared} {σ' : L2.St} {H' : Hp} {cls : Value} {d : Option Addr} (tk : Takes X Wo) (hN : X.N.Nodup) (hs : X.stack = X.env :: X.outer) (hf : X.env.frame = some X.env.locals) (ok : X.Ok)
    (J : Inv X pins σ' H' sI) (nb : ∀ b o, sI.heap.get? b = some o → b ∉ frs X.stack → B.get? b = some o) (na : H' a = none) (os : s'.os = sI.os) (ag : AllBare s'.gens)
    (nL : a ≠ X.env.locals) (nF : a ∉ X.fs) : ∀ {hds : List ExceptHandler} {l : List Clz}, ClOk X hds l → ∀ (h3 : Heap), HandSPX.FlyingZ B (X.env :: X.outer) a (Zc cls d) h3 → sI.heap.UpToSlots h3 → wCl X.K X.N.length Wo D l cls d σ' H' →
        wpAny (model X.prog X.w) X.A (handleBy (.ref a) X.env hds) (SP X pins D) X.xe { s' with heap := h3 } := by
  intro hds l hk
  induction hk with
  | nil =>
    intro h3 fl3 up3 w
    refine wpAny_handleBy_nil ?_
    obtain ⟨k1, k2, k3, oe, vs, T, oT, ts', he, hz, hd, h1, hr⟩ := id fl3
    unfold PySem.passOn
    refine wpAny_bind (wpAny_field he hd h1 ?_)
    rw [if_neg (show ¬ ((Value.ref T == Value.none) = true) from by simp)]
    have fin : wpAny (model X.prog X.w) X.A (setFlight (.ref a) X.env.frame) (fun _ s4 => wpAny (model X.prog X.w) X.A (throw (.ref a) : Sem Flow) (SP X pins D) X.xe s4) X.xe { s' with heap := h3 } := by
      rw [hf]
      exact HandSPX.setFlight_upZ fl3 fun h4 hh4 up4 => wpAny_throw (tk _ _ ⟨a, B, sI, pins, σ', H', cls, d, rfl, J, nb, up3.trans up4, .inr (.inr (by rw [hs]; exact hh4)), na, os, ag, w⟩)
    first
      | exact wpAny_bind (wpAny_pure (wpAny_bind fin))
      | exact wpAny_bind fin
  | @cons x k nm b₀ suite np pos' hds2 l2 hc hn hsu r ih =>
    intro h3 fl3 up3 w
    obtain ⟨b, hb1, hyes, hno⟩ := w
    obtain ⟨oe3, vs3, he3, hz3, hd3⟩ := fl3.there
    have J3 : Inv X pins σ' H' { s' with heap := h3 } := J.landed nb fl3.1 up3 os ag
    have S3 := J3.suite he3 hd3 na nL nF
    refine wpAny_handleBy_cons (codeAny_handlers_test ?_) (by intro q; cases q)
    have LT : PySem.W.Looks (model X.prog X.w) h3 (typeOf (.ref a)) cls := fun A Q E s k q => wpAny_typeOf_ref (k _ _ he3) (by rw [hz3.1]; exact q)
    have LM := PySem.W.exm_one (M := model X.prog X.w) (J3.kIn) LT hb1
    have test : ∀ {Q : Value → Shared → Prop} {E : Value → Shared → Prop}, Q k.c { s' with heap := h3 } → wpAny (model X.prog X.w) (X.A.mark (some (.ref a))) (eval (.Name x np) X.env) Q E { s' with heap := h3 } := fun {Q E} q => by
      obtain ⟨hg, hdbg, hm | ⟨hm, hv, hnn⟩⟩ := hc
      · exact ld_glob (X := X.suite a ((a, oe3) :: (X.pn ++ pins))) S3 hg hm q hdbg
      · exact ld_blt (X := X.suite a ((a, oe3) :: (X.pn ++ pins))) S3 hg hm hv q hnn hdbg
    refine test (LM.here ?_)
    cases b with
    | false => exact ih h3 fl3 up3 (hno rfl)
    | true =>
      have go := hyes rfl a na J.len
      rcases hn with ⟨rfl, ei⟩ | ⟨n, i, rfl, ei, hi, hln⟩
      · unfold Clz.go at go
        rw [ei] at go
        refine codeAny_handlers_suite (HandSPX.lands_againZ fl3 fun h4 fl4 up4 => ?_)
        have J4 : Inv X pins σ' H' { s' with heap := h4 } := J.landed nb fl4.1 (up3.trans up4) os ag
        obtain ⟨oe4, vs4, he4, hz4, hd4⟩ := fl4.there
        refine wpAny_mono ((hsu a oe4 cls d (X.pn ++ pins) hz4 ⟨_, hd4⟩).run [] _ _ H' _ (J4.suite he4 hd4 na nL nF) go) (fun f s6 hsp => ?_) (fun _ _ z => False.elim z)
        cases f with
        | next => obtain ⟨σ6, H6, S6, q6⟩ := hsp; exact ⟨_, _, S6.unsuite ok, q6⟩
        | brk => obtain ⟨σ6, H6, S6, q6⟩ := hsp; exact ⟨_, _, S6.unsuite ok, q6⟩
        | cont => obtain ⟨σ6, H6, S6, q6⟩ := hsp; exact ⟨_, _, S6.unsuite ok, q6⟩
        | ret u => obtain ⟨v6, σ6, H6, S6, r6, q6⟩ := hsp; exact ⟨_, _, _, S6.unsuite ok, r6, q6⟩
      · unfold Clz.go at go
        rw [ei] at go
        refine codeAny_handlers_suite_as (HandSPX.lands_againZ fl3 fun h4 fl4 up4 => ?_)
        have J4 : Inv X pins σ' H' { s' with heap := h4 } := J.landed nb fl4.1 (up3.trans up4) os ag
        obtain ⟨oe4, vs4, he4, hz4, hd4⟩ := fl4.there
        refine store_ok (X := X.suite a ((a, oe4) :: (X.pn ++ pins))) (v := .ref a) (J4.suite he4 hd4 na nL nF) hN hi (.inl hln) rfl (fun s5 S5 => ?_) (.inr hln)
        refine wpAny_mono ((hsu a oe4 cls d (X.pn ++ pins) hz4 ⟨_, hd4⟩).run [] s5 _ H' _ S5 go) (fun f s6 hsp => ?_) (fun _ _ z => False.elim z)
        cases f with
        | next => obtain ⟨σ6, H6, S6, q6⟩ := hsp; exact gone_ok (S6.unsuite ok) hN hi hln fun s7 J7 => ⟨_, _, J7, q6⟩
        | brk => obtain ⟨σ6, H6, S6, q6⟩ := hsp; exact gone_ok (S6.unsuite ok) hN hi hln fun s7 J7 => ⟨_, _, J7, q6⟩
        | cont => obtain ⟨σ6, H6, S6, q6⟩ := hsp; exact gone_ok (S6.unsuite ok) hN hi hln fun s7 J7 => ⟨_, _, J7, q6⟩
        | ret u => obtain ⟨v6, σ6, H6, S6, r6, q6⟩ := hsp; exact gone_ok (S6.unsuite ok) hN hi hln fun s7 J7 => ⟨_, _, _, J7, r6, q6⟩
theorem ps_tries (hN : X.N.Nodup) (hs : X.stack = X.env :: X.outer) (hf : X.env.frame = some X.env.locals) (tk : Takes X Wo)
    (hb : ∀ (W : WX) (pn : List (Addr × Obj)) (xe : Value → Shared → Prop), Takes (X.tr pn xe) W → PassesOwn (model X.prog X.w) X.A X.env xe → PSs (X.tr pn xe) body (tb W))
    (hh : ClOk X (h₀ :: hds) l) : PS X (.Try body (h₀ :: hds) [] [] pos) (fun D σ H => tb (wCl X.K X.N.length Wo D l) D σ H) := by
  refine ⟨fun pins s σ H D I h => ?_⟩
  have ok := I.ok
  have hfr : X.A.frames = some (X.env :: X.outer) := by rw [ok.frames, hs]
  refine wpAny_Try_except (wpAny_mono ((hb (wCl X.K X.N.length Wo D l) (X.pn ++ pins) (fun e s₁ => wpAny (model X.prog X.w) X.A (noteFrame e X.env) (fun _ s₂ => wpAny (model X.prog X.w) X.A (setFlight e none) (fun _ s₃ =>
    wpAny (model X.prog X.w) X.A (handleBy e X.env (h₀ :: hds)) (SP X pins D) X.xe s₃) X.xe s₂) X.xe s₁) (fun u s' xx => ?_) PassesOwn.looking).run [] s σ H D (I.toTry _) h) (fun f s1 hsp => ?_) (fun e s1 he => he))
  · obtain ⟨a, B, sI, pins', σ', H', cls, d, rfl, J', nb, up, sky, na, os, ag, w⟩ := xx
    have J : Inv X pins σ' H' sI := J'.ofTry ok
    have sky' : Sky B (X.env :: X.outer) a (Zc cls d) X.env.locals s'.heap := by rw [← hs]; exact sky
    show wpAny (model X.prog X.w) X.A (noteFrame (.ref a) X.env) _ _ _
    refine Sky.land Zc.steady hfr hf sky' fun h3 fl3 up3 => ?_
    obtain ⟨oe3, vs3, he3, hz3, hd3⟩ := fl3.there
    have nfr : a ∉ frs (X.env :: X.outer) := fun hm => by
      obtain ⟨_, o', e', hnf⟩ := fl3.2.2.1.mem hm
      rw [he3] at e'; cases e'
      exact hnf _ hd3
    have nL : a ≠ X.env.locals := fun z => nfr (List.mem_filterMap.mpr ⟨X.env, List.mem_cons_self, by rw [hf, z]⟩)
    have nF : a ∉ X.fs := fun hm => by
      obtain ⟨e, he, q⟩ := List.mem_filterMap.mp hm
      exact nfr (List.mem_filterMap.mpr ⟨e, List.mem_cons_of_mem _ he, q⟩)
    exact cl_go tk hN hs hf ok J nb na os ag nL nF hh h3 fl3 (up.trans up3) w
  · cases f with
    | next => obtain ⟨σ', H', J', q⟩ := hsp; exact wpAny_execs_nil ⟨σ', H', J'.ofTry ok, q⟩
    | brk => obtain ⟨σ', H', J', q⟩ := hsp; exact ⟨σ', H', J'.ofTry ok, q⟩
    | cont => obtain ⟨σ', H', J', q⟩ := hsp; exact ⟨σ', H', J'.ofTry ok, q⟩
    | ret u => obtain ⟨v, σ', H', J', r, q⟩ := hsp; exact ⟨v, σ', H', J'.ofTry ok, r, q⟩
end
/-! ### suites that hand something back, or store it: a text, a field of the exception -/
inductive SX where
  | str (x : Str) | fld (f : Str)
  deriving DecidableEq
inductive SU where
  | ret (x : SX) | set (j : Nat) (x : SX)
  deriving DecidableEq
structure Hn where
  cc : Nat
  i : Option Nat
  su : SU
  deriving DecidableEq
/-- what a global name is -/
inductive Gn where
  | no | blt | fn (id n : Nat) | mk (cc id n : Nat) | con (w : PV) | exc (cc : Nat) (nm : List Str)
  | told (n : Nat) (hs : List Hn)
  | tab (kvs : List (Str × PV))
def SX.val (fs : List (Str × PV)) : SX → Option PV
  | .str x => some (.str x)
  | .fld f => fs.lookup f
def wipeO (i : Option Nat) (τ : Env') : Env' := match i with
  | none => τ
  | some i => τ.set i none
def SU.run (fs : List (Str × PV)) (i : Option Nat) (τ : Env') (h : Hh) : SU → RS
  | .ret x => match x.val fs with
    | some w => .rt w h
    | none => .bad
  | .set j x => match x.val fs with
    | some w => .nx (wipeO i (τ.set j (some w))) h
    | none => .bad
def SU.flat : SU → Bool
  | .ret (.str _) => true
  | .set _ (.str _) => true
  | _ => false
def hnGo (ex : Nat → Nat → Option Bool) : List Hn → Nat → List (Str × PV) → Env' → Hh → RS
  | [], c, fs, τ, h => .exc c fs τ h
  | k :: r, c, fs, τ, h => match ex c k.cc with
    | some true => if k.su.flat = true ∨ (c = k.cc ∧ k.i.isSome = true) then k.su.run fs k.i τ h else .bad
    | some false => hnGo ex r c fs τ h
    | none => .bad
def sTry (ex : Nat → Nat → Option Bool) (l : List Hn) (b : SS) : SS := fun τ h => match b τ h with
  | .exc c fs τ h => hnGo ex l c fs τ h
  | r => r
def tSX (ca : Nat → Addr) (cc : Nat) (i : Option Nat) (a : Addr) (cls : Value) (d : Option Addr) (x : SX) (σ : L2.St) (H : Hp) (Q : V → Hp → Prop) : Prop := match x with
  | .str x => Q (.str x) H
  | .fld f => ∃ i', i = some i' ∧ σ[i']? = some (some (.ref a)) ∧ cls = .ref (ca cc) ∧ ∃ (dd : Addr) (fs : List (Str × V)) (v : V), d = some dd ∧ H dd = some (.xd fs) ∧ fs.lookup f = some v ∧ Q v H
def tSU (ca : Nat → Addr) (cc : Nat) (i : Option Nat) (su : SU) (a : Addr) (cls : Value) (d : Option Addr) : TS := fun D σ H => match su with
  | .ret x => tSX ca cc i a cls d x σ H D.rt
  | .set j x => tSX ca cc i a cls d x σ H fun v H => D.nx (σ.set j (some v)) H
/-! reading them -/
def slotG (x : Str) : Nat → List Str → Option Nat
  | _, [] => none
  | i, y :: ys => if y = x then some i else slotG x (i + 1) ys
def slotOf (N : List Str) (x : Str) : Option Nat := slotG x 0 N
theorem slotG_ok {x : Str} : ∀ {N : List Str} {k i : Nat}, slotG x k N = some i → ∃ j, i = k + j ∧ N[j]? = some x
  | [], _, _, h => by cases h
  | y :: ys, k, i, h => by
    unfold slotG at h
    by_cases e : y = x
    · rw [if_pos e] at h; cases h
      exact ⟨0, rfl, by rw [e]; rfl⟩
    · rw [if_neg e] at h
      obtain ⟨j, e1, e2⟩ := slotG_ok h
      exact ⟨j + 1, by omega, by simpa using e2⟩
theorem slotOf_ok {N : List Str} {x : Str} {i : Nat} (h : slotOf N x = some i) : N[i]? = some x := by
  obtain ⟨j, e1, e2⟩ := slotG_ok h
  rw [Nat.zero_add] at e1
  rw [e1]; exact e2
def glB (sc : Scope) (x : Str) : Bool := match sc.names.lookup x with
  | some .globalImplicit => !(x == ("__debug__" : Str)) && !decide (x = "__name__")
  | _ => false
theorem glB_ok {sc : Scope} {x : Str} (h : glB sc x = true) : sc.names.lookup x = some .globalImplicit ∧ (x == ("__debug__" : Str)) = false ∧ x ≠ "__name__" := by
  unfold glB at h
  split at h
  · rename_i q
    rw [Bool.and_eq_true, Bool.not_eq_true', Bool.not_eq_true', decide_eq_false_iff_not] at h
    exact ⟨q, h.1, h.2⟩
  · cases h
def sxOf (xf : Str → Bool) (nm : Option Str) : Expr → Option SX
  | .Constant (.str x) _ _ => some (.str x)
  | .Attribute (.Name n _) f _ => if nm = some n ∧ xf f = true then some (.fld f) else none
  | _ => none
def suOf (sc : Scope) (N : List Str) (xf : Str → Bool) (nm : Option Str) : List Stmt → Option SU
  | [.Return (some e) _] => (sxOf xf nm e).map .ret
  | [.Assign [.Name y _] e _] => if sc.names.lookup y = some .local then (match slotOf N y with
    | some j => (sxOf xf nm e).map (.set j)
    | none => none) else none
  | _ => none
/-- the name's slot -/
def nmOf (sc : Scope) (N : List Str) : Option Str → Option (Option Nat)
  | none => some none
  | some n => if sc.names.lookup n = some .local ∧ (n == ("__debug__" : Str)) = false ∧ (n == ("__classdict__" : Str)) = false then (slotOf N n).map some else none
def hdOf (gl : Str → Gn) (xf : Nat → Str → Bool) (sc : Scope) (N : List Str) : List ExceptHandler → Option (List Hn)
  | [] => some []
  | .ExceptHandler (some (.Name x _)) nm ss _ :: r => if glB sc x = true then (match gl x with
    | .exc cc _ => match nmOf sc N nm with
      | some i => match suOf sc N (xf cc) nm ss with
        | some su => (hdOf gl xf sc N r).map (⟨cc, i, su⟩ :: ·)
        | none => none
      | none => none
    | _ => none) else none
  | _ => none
section
variable {X : Cx} {ca : Nat → Addr} {cc : Nat} {xf : Nat → Str → Bool} {gl : Str → Gn} {sc : Scope}
theorem sx_ok {nm : Option Str} {i : Option Nat} {e : Expr} {x : SX} (hsc : X.env.scope = sc) (hx : ∀ f, xf cc f = true → XfC X.K (ca cc) ∧ PySem.W.findIn X.K (.ref (ca cc)) f = some none) (hn : nmOf sc X.N nm = some i) (h : sxOf (xf cc) nm e = some x)
    (a : Addr) (oe : Obj) (cls : Value) (d : Option Addr) (pn : List (Addr × Obj)) (hz : Zc cls d oe) (hf : ∃ vs, oe.data = .fields vs) :
    PE (X.suite a ((a, oe) :: pn)) e (fun σ H Q => tSX ca cc i a cls d x σ H Q) := by
  unfold sxOf at h
  split at h
  · cases h
    exact pe_str
  · rename_i n p f pos
    split at h
    · rename_i c
      obtain ⟨rfl, c2⟩ := c
      cases h
      obtain ⟨k1, k2⟩ := hx f c2
      unfold nmOf at hn
      split at hn
      · rename_i q; cases q
      · rename_i n' q
        cases q
        split at hn
        · rename_i q
          obtain ⟨q1, q2, q3⟩ := q
          cases e : slotOf X.N n with
          | none => rw [e] at hn; cases hn
          | some j =>
            rw [e] at hn
            cases hn
            refine ⟨fun pins s σ H Q I h => (pe_xf k1 k2 hz hf (pe_var (X := X.suite a ((a, oe) :: pn)) (pos := p) (slotOf_ok e) (.inl (by show X.env.scope.names.lookup n = _; rw [hsc]; exact q1)) q2 q3)).run pins s σ H Q I ?_⟩
            obtain ⟨i', e1, e2, e3, e4⟩ := h
            cases e1
            exact ⟨_, e2, rfl, e3, e4⟩
        · cases hn
    · cases h
  · cases h
theorem su_ok {nm : Option Str} {i : Option Nat} {ss : List Stmt} {su : SU} (hN : X.N.Nodup) (hsc : X.env.scope = sc) (hx : ∀ f, xf cc f = true → XfC X.K (ca cc) ∧ PySem.W.findIn X.K (.ref (ca cc)) f = some none) (hn : nmOf sc X.N nm = some i) (h : suOf sc X.N (xf cc) nm ss = some su) :
    ∃ b₀ r, ss = b₀ :: r ∧ ∀ (a : Addr) (oe : Obj) (cls : Value) (d : Option Addr) (pn : List (Addr × Obj)), Zc cls d oe → (∃ vs, oe.data = .fields vs) → PSs (X.suite a ((a, oe) :: pn)) (b₀ :: r) (tSU ca cc i su a cls d) := by
  unfold suOf at h
  split at h
  · rename_i e pos
    refine ⟨_, _, rfl, fun a oe cls d pn hz hf => ?_⟩
    cases q : sxOf (xf cc) nm e with
    | none => rw [q] at h; cases h
    | some x =>
      rw [q] at h
      cases h
      exact pss_one (ps_ret (sx_ok hsc hx hn q a oe cls d pn hz hf))
  · rename_i y py e pos
    split at h
    · rename_i l
      split at h
      · rename_i j sj
        refine ⟨_, _, rfl, fun a oe cls d pn hz hf => ?_⟩
        cases q : sxOf (xf cc) nm e with
        | none => rw [q] at h; cases h
        | some x =>
          rw [q] at h
          cases h
          have l' : X.env.scope.names.lookup y = some .local := by rw [hsc]; exact l
          refine pss_one (ps_set (X := X.suite a ((a, oe) :: pn)) hN (slotOf_ok sj) (.inl l') (sx_ok hsc hx hn q a oe cls d pn hz hf) ?_ (.inr l'))
          unfold sxOf at q
          split at q
          · rfl
          · rfl
          · cases q
      · cases h
    · cases h
  · cases h
/-- what is known of the exceptions' classes -/
structure ExF (K : PySem.W.Frag) (mg : Str → Option Value) (ca : Nat → Addr) (gl : Str → Gn) (ex : Nat → Nat → Option Bool) (xf : Nat → Str → Bool) : Prop where
  mgx : ∀ x cc nm, gl x = .exc cc nm → mg x = some (.ref (ca cc))
  exm : ∀ c cc b, ex c cc = some b → PySem.W.exmOne K (.ref (ca c)) (.ref (ca cc)) = some b
  xf : ∀ cc f, xf cc f = true → XfC K (ca cc) ∧ PySem.W.findIn K (.ref (ca cc)) f = some none
def clzOf (ca : Nat → Addr) (k : Hn) : Clz := ⟨.ref (ca k.cc), k.i, tSU ca k.cc k.i k.su⟩
theorem hd_ok {ex : Nat → Nat → Option Bool} (hN : X.N.Nodup) (hsc : X.env.scope = sc) (E : ExF X.K X.mg ca gl ex xf) : ∀ (hds : List ExceptHandler) (hs : List Hn), hdOf gl xf sc X.N hds = some hs → ClOk X hds (hs.map (clzOf ca))
  | [], hs, h => by cases h; exact .nil
  | hd :: r, hs, h => by
    unfold hdOf at h
    split at h
    · rename_i q; exact absurd q (by simp)
    · rename_i x p nm ss pos r' q
      cases q
      split at h
      · rename_i g
        split at h
        · rename_i cc nf hx
          split at h
          · rename_i i hi
            split at h
            · rename_i su hsu
              cases q2 : hdOf gl xf sc X.N r with
              | none => rw [q2] at h; cases h
              | some hs' =>
                rw [q2] at h
                cases h
                obtain ⟨b₀, rr, rfl, hp⟩ := su_ok hN hsc (fun f => E.xf cc f) hi hsu
                obtain ⟨g1, g2, g3⟩ := glB_ok g
                refine .cons (k := clzOf ca ⟨cc, i, su⟩) ⟨by show X.env.scope.names.lookup x = _; rw [hsc]; exact g1, g2, .inl (E.mgx x cc nf hx)⟩ ?_ hp (hd_ok hN hsc E r hs' q2)
                unfold nmOf at hi
                split at hi
                · cases hi; exact .inl ⟨rfl, rfl⟩
                · rename_i n
                  split at hi
                  · rename_i c
                    cases e : slotOf X.N n with
                    | none => rw [e] at hi; cases hi
                    | some j =>
                      rw [e] at hi
                      cases hi
                      exact .inr ⟨n, j, rfl, rfl, slotOf_ok e, by show X.env.scope.names.lookup n = _; rw [hsc]; exact c.1⟩
                  · cases hi
            · cases h
          · cases h
        · cases h
      · cases h
    · cases h
end
section
variable {K : PySem.W.Frag} {ca : Nat → Addr} {W : WX} {ρ : List Addr} {H : Hp} {D : Ends} {ex : Nat → Nat → Option Bool} {n : Nat}
theorem goneD_set {σ : L2.St} {i j : Nat} {r v : Option V} : ((σ.set i r).set j v).set i none = (σ.set j v).set i none := by
  apply List.ext_getElem?
  intro k
  simp only [List.getElem?_set, List.length_set]
  by_cases a : i = k
  · simp [a]
  · simp [a]
theorem sx_run {cc : Nat} {i : Option Nat} {x : SX} {fs : List (Str × PV)} {w : PV} {a : Addr} {d : Option Addr} {σ : L2.St} {Q : V → Hp → Prop} (E : ExD K ρ H fs d) (h : x.val fs = some w) (hs : ∀ f, x = .fld f → ∃ i', i = some i' ∧ σ[i']? = some (some (.ref a)))
    (q : ∀ v, RV K ρ H w v → Q v H) : tSX ca cc i a (.ref (ca cc)) d x σ H Q := by
  cases x with
  | str x =>
    cases h
    exact q _ ((RV.str_ _ _).mpr rfl)
  | fld f =>
    obtain ⟨i', e1, e2⟩ := hs f rfl
    refine ⟨i', e1, e2, rfl, ?_⟩
    have h : fs.lookup f = some w := h
    rcases E with ⟨rfl, rfl⟩ | ⟨dd, vs, rfl, e3, rf⟩
    · cases h
    · rcases RFs.lookup f rf with ⟨z1, z2⟩ | ⟨w', v, z1, z2, rv⟩
      · rw [z1] at h; cases h
      · rw [z1] at h; cases h
        exact ⟨dd, vs, v, rfl, e3, z2, q v rv⟩
theorem hn_run {mg : Str → Option Value} {gl : Str → Gn} {xf : Nat → Str → Bool} (E : ExF K mg ca gl ex xf) {c : Nat} {fs : List (Str × PV)} {τ : Env'} {σ : L2.St} {h : Hh} {d : Option Addr} (R : Rel K ca ρ h H) (T : σ.length = n → EnvR K ρ H τ σ) (X : ExD K ρ H fs d)
    (w : WpS K ca W ρ H D (.exc c fs τ h) → W (.ref (ca c)) d σ H) : ∀ (l : List Hn), (∀ k ∈ l, ∀ i, k.i = some i → i < n) → (WpS K ca W ρ H D (hnGo ex l c fs τ h)) → wCl K n W D (l.map (clzOf ca)) (.ref (ca c)) d σ H := by
  intro l
  induction l with
  | nil => intro _ x; exact w x
  | cons k l ih =>
    intro t x
    have x : WpS K ca W ρ H D (match ex c k.cc with
      | some true => if k.su.flat = true ∨ (c = k.cc ∧ k.i.isSome = true) then k.su.run fs k.i τ h else .bad
      | some false => hnGo ex l c fs τ h
      | none => .bad) := x
    cases q : ex c k.cc with
    | none => rw [q] at x; exact x.elim
    | some b =>
      rw [q] at x
      refine ⟨b, E.exm c k.cc b q, fun hb a na hl => ?_, fun hb => ?_⟩
      · subst hb
        have x : WpS K ca W ρ H D (if k.su.flat = true ∨ (c = k.cc ∧ k.i.isSome = true) then k.su.run fs k.i τ h else .bad) := x
        have T := T hl
        split at x
        · rename_i fl
          obtain ⟨cc, ki, su⟩ := k
          have slot : ∀ i, ki = some i → (σ.set i (some (V.ref a)))[i]? = some (some (.ref a)) := fun i e => by rw [List.getElem?_set, if_pos rfl, if_pos (by rw [hl]; exact t ⟨cc, ki, su⟩ List.mem_cons_self i e)]
          have sub : ∀ {x : SX} {w : PV} {σ' : L2.St} {Q : V → Hp → Prop}, x.val fs = some w → (∀ f, x = .fld f → c = cc ∧ ∃ i', ki = some i' ∧ σ'[i']? = some (some (.ref a))) → (∀ v, RV K ρ H w v → Q v H) → tSX ca cc ki a (.ref (ca c)) d x σ' H Q := by
            intro x w σ' Q h1 h2 h4
            cases x with
            | str y =>
              cases h1
              exact h4 _ ((RV.str_ _ _).mpr rfl)
            | fld f =>
              obtain ⟨e, h3⟩ := h2 f rfl
              subst e
              exact sx_run X h1 (fun f' _ => h3) h4
          have fld : ∀ {x : SX}, su = .ret x ∨ (∃ j, su = .set j x) → ∀ f, x = .fld f → c = cc ∧ ki.isSome = true := by
            intro x h f z
            subst z
            rcases fl with fl | fl
            · rcases h with h | ⟨j, h⟩
              · rw [h] at fl; cases fl
              · rw [h] at fl; cases fl
            · exact fl
          have x0 : WpS K ca W ρ H D (su.run fs ki τ h) := x
          clear x fl q
          cases ki with
          | none =>
            cases su with
            | ret x1 =>
              cases e : x1.val fs with
              | none => simp only [SU.run, e] at x0; exact x0.elim
              | some w1 =>
                simp only [SU.run, e] at x0
                exact sub e (fun f z => by have := (fld (.inl rfl) f z).2; cases this) fun v r => x0 ρ H v (Ext.refl _ _) R r
            | set j x1 =>
              cases e : x1.val fs with
              | none => simp only [SU.run, e] at x0; exact x0.elim
              | some w1 =>
                simp only [SU.run, e] at x0
                exact sub e (fun f z => by have := (fld (.inr ⟨j, rfl⟩) f z).2; cases this) fun v r => x0 ρ H _ (Ext.refl _ _) R (T.set r j)
          | some i =>
            cases su with
            | ret x1 =>
              cases e : x1.val fs with
              | none => simp only [SU.run, e] at x0; exact x0.elim
              | some w1 =>
                simp only [SU.run, e] at x0
                exact sub e (fun f z => ⟨(fld (.inl rfl) f z).1, i, rfl, slot i rfl⟩) fun v r => x0 ρ H v (Ext.refl _ _) R r
            | set j x1 =>
              cases e : x1.val fs with
              | none => simp only [SU.run, e] at x0; exact x0.elim
              | some w1 =>
                simp only [SU.run, e] at x0
                show tSX ca cc (some i) a (.ref (ca c)) d x1 (σ.set i (some (.ref a))) H (fun v H => D.nx (((σ.set i (some (.ref a))).set j (some v)).set i none) H)
                refine sub e (fun f z => ⟨(fld (.inr ⟨j, rfl⟩) f z).1, i, rfl, slot i rfl⟩) fun v r => ?_
                rw [goneD_set]
                exact x0 ρ H _ (Ext.refl _ _) R ((T.set r j).none i)
        · exact x.elim
      · subst hb
        exact ih (fun k hk => t k (by simp [hk])) x
end
end DD
set_option Elab.async false
set_option linter.all false
set_option maxRecDepth 100000
set_option maxHeartbeats 4000000
/-! DZ2: try as a function; a lambda handed to a def that tells what comes of it. -/
namespace DD
open PySem PySem.Spec PyProof.Rows L2
variable [Ups]

theorem nm_lt {sc : Scope} {N : List Str} {nm : Option Str} {i : Nat} (h : nmOf sc N nm = some (some i)) : i < N.length := by
  unfold nmOf at h
  split at h
  · cases h
  · rename_i n
    split at h
    · cases e : slotOf N n with
      | none => rw [e] at h; cases h
      | some j =>
        rw [e] at h
        cases h
        exact (List.getElem?_eq_some_iff.mp (slotOf_ok e)).1
    · cases h
theorem hd_lt {gl : Str → Gn} {xf : Nat → Str → Bool} {sc : Scope} {N : List Str} : ∀ (hds : List ExceptHandler) (hs : List Hn), hdOf gl xf sc N hds = some hs → ∀ k ∈ hs, ∀ i, k.i = some i → i < N.length
  | [], hs, h, k, hk => by cases h; cases hk
  | hd :: r, hs, h, k, hk => by
    unfold hdOf at h
    split at h
    · rename_i q; exact absurd q (by simp)
    · rename_i x p nm ss pos r' q
      cases q
      split at h
      · split at h
        · rename_i cc nf hx
          split at h
          · rename_i i hi
            split at h
            · rename_i su hsu
              cases q2 : hdOf gl xf sc N r with
              | none => rw [q2] at h; cases h
              | some hs' =>
                rw [q2] at h
                cases h
                intro j hj
                rcases List.mem_cons.mp hk with e | e
                · subst e
                  have hj : i = some j := hj
                  rw [hj] at hi
                  exact nm_lt hi
                · exact hd_lt r hs' q2 k e j hj
            · cases h
          · cases h
        · cases h
      · cases h
    · cases h
section
variable {X : Cx} {ca : Nat → Addr} {W : WX} {xf : Nat → Str → Bool} {gl : Str → Gn} {sc : Scope} {ex : Nat → Nat → Option Bool}
theorem ps_sTry {body : List Stmt} {b : SS} {h₀ : ExceptHandler} {hds : List ExceptHandler} {hs : List Hn} {pos : Pos} (hN : X.N.Nodup) (hsc : X.env.scope = sc) (stk : X.stack = X.env :: X.outer) (frm : X.env.frame = some X.env.locals) (tk : Takes X W) (E : ExF X.K X.mg ca gl ex xf)
    (h : hdOf gl xf sc X.N (h₀ :: hds) = some hs)
    (hb : ∀ (W' : WX) (pn : List (Addr × Obj)) (xe : Value → Shared → Prop), Takes (X.tr pn xe) W' → PassesOwn (model X.prog X.w) X.A X.env xe → PSs (X.tr pn xe) body (tS X.K ca W' b)) :
    PS X (.Try body (h₀ :: hds) [] [] pos) (tS X.K ca W (sTry ex hs b)) :=
  ps_of (ps_tries (tb := fun W' => tS X.K ca W' b) hN stk frm tk hb (hd_ok hN hsc E _ _ h)) fun D σ H ρ τ hh R T x => by
    refine ⟨ρ, τ, hh, R, T, ?_⟩
    have x : WpS X.K ca W ρ H D (match b τ hh with
      | .exc c fs τ h => hnGo ex hs c fs τ h
      | r => r) := x
    cases e : b τ hh with
    | exc c fs τ1 h1 =>
      rw [e] at x
      have x : WpS X.K ca W ρ H D (hnGo ex hs c fs τ1 h1) := x
      intro ρ' H' σ' E' R' T' d xd
      have x' := WpS.ext E' x
      have ln : τ1.length = σ'.length := T'.1
      exact hn_run E R' (fun _ => T') xd (fun z => z ρ' H' σ' (Ext.refl _ _) R' T' d xd) hs (hd_lt _ _ h) x'
    | nx τ1 h1 => rw [e] at x; exact x
    | bk τ1 h1 => rw [e] at x; exact x
    | ct τ1 h1 => rw [e] at x; exact x
    | rt w h1 => rw [e] at x; exact x
    | bad => rw [e] at x; exact x.elim
/-! ### a lambda handed over -/
def tldR : RS → Res PV
  | .rt w h => .ok w h
  | .nx _ h => .ok .non h
  | _ => .bad
def eTold (ex : Nat → Nat → Option Bool) (n : Nat) (hs : List Hn) (b : SE) : SE := fun τ h => match b τ h with
  | .exc c fs h => tldR (hnGo ex hs c fs (List.replicate n none) h)
  | r => r
/-- what is known of the def that gets it -/
def ToldK (P : Program) (K : PySem.W.Frag) (mg : Str → Option Value) (gl : Str → Gn) (xf : Nat → Str → Bool) (x : Str) (n : Nat) (hs : List Hn) : Prop :=
  ∃ (a : Str) (g : Addr) (pg : Arguments) (sg : Scope) (dV kV doc pm cdv ct oc : Value) (an od : Option Addr) (osl : Array (Option Value)) (Ng : List Str) (p1 p2 p3 p8 : Pos) (h₀ : ExceptHandler) (hds : List ExceptHandler),
    mg x = some (.ref g) ∧ PySem.W.keepIn K (.ref g) = true ∧
    K.lookup g = some ⟨oc, od, .func (PySem.W.fnOf x x pg [.Try [.Return (some (.Call (.Name a p1) [] [] p2)) p3] (h₀ :: hds) [] [] p8] sg dV kV doc pm an cdv ct), osl⟩ ∧ PySem.W.codeIn K cdv x = true ∧
    L2.Binds K (PySem.W.fnOf x x pg [.Try [.Return (some (.Call (.Name a p1) [] [] p2)) p3] (h₀ :: hds) [] [] p8] sg dV kV doc pm an cdv ct) [a] [] ∧ FnScope Ng [a] sg ∧ Ng[0]? = some a ∧ Vis sg a ∧
    (a == ("__debug__" : Str)) = false ∧ (a == ("__classdict__" : Str)) = false ∧ Ng.length = n ∧ hdOf gl xf sg Ng (h₀ :: hds) = some hs
theorem Rel.extN {K : PySem.W.Frag} {ca : Nat → Addr} {ρ : List Addr} {h : Hh} {H H1 : Hp} (R : Rel K ca ρ h H) (eN : LamX.ExtN H H1) (T1 : LamX.Tabs (tabsOf ca) H1) : Rel K ca ρ h H1 ∧ Ext ρ H ρ H1 := by
  have E : Ext ρ H ρ H1 := ⟨⟨⟨[], by simp, fun _ z => by cases z⟩, fun a o e _ n => eN a o e n, fun a z => by
    cases e : H a with
    | none => exact .inl rfl
    | some o =>
      by_cases n : ∀ ps, o ≠ .tbl ps
      · rw [eN a o e n] at z; exact (z.not n).elim
      · have ⟨ps, q⟩ := Classical.not_forall.mp n
        have q := Classical.not_not.mp q
        exact .inr ⟨ps, by rw [q]⟩⟩, fun a o u e => eN a _ e fun _ z => by cases z⟩
  refine ⟨⟨R.len, R.nd, fun i a e => ?_, T1⟩, E⟩
  obtain ⟨o, u, h1, h2, r⟩ := R.at_ i a e
  exact ⟨o, u, h1, eN a u h2 r.kind.1, RO.ext R E o u r⟩
theorem pe_eTold {x : Str} {n k0 : Nat} {hs : List Hn} {params : Arguments} {body : Expr} {scope : Scope} {p lpos pos : Pos} {fb : SE} {i : Nat} {q : Str} {c : Addr} (T : ToldK X.prog X.K X.mg gl xf x n hs) (E : ExF X.K X.mg ca gl ex xf) (hg : Gl X x) (hdb : (x == ("__debug__" : Str)) = false)
    (hi : (i, q) ∈ lamDefs) (h0 : ca i ≠ 0) (huq : ∀ p ∈ tabsOf ca, p.1 = ca i → p.2 = q ++ ".<locals>." ++ "<lambda>") (hq : X.env.qual = q ++ ".<locals>.") (hcode : X.env.code = .ref c) (TB : LamX.TabB X.base X.mg c (ca i)) (hr : Room (k0 + 2) X.A) (L : LamX.LamS X.env.scope scope)
    (hdef : defaultsOf params X.env = ([], [])) (hbind : ∀ (q : Str) (cl : List (Str × Addr)) (pm cv ctv : Value), bindArgs (PySem.W.kla_fn "<lambda>" q params body scope cl pm cv ctv) ⟨[], []⟩ = pure [])
    (hbody : ∀ (A : Around) (outer : List Env) (s : Shared) (H : Hp) (E : XK) (f c' : Addr), Room k0 (A.deeper (LamX.lamEnv X scope s.heap.objs.size f c')) → PE (LamX.lamCx X A outer s H E scope f c') body (tD X.K ca (fun cls d _ H => E cls d H) fb)) :
    PE X (.Call (.Name x p) [.Lambda params body scope lpos] [] pos) (tD X.K ca W (eTold ex n hs fb)) := by
  obtain ⟨a, g, pg, sg, dV, kV, doc, pm, cdv, ct, oc, an, od, osl, Ng, p1, p2, p3, p8, h₀, hds, t1, t2, t3, t4, t5, t6, t7, t8, t9, t10, t11, t12⟩ := T
  refine pe_of (LamX.pe_lamcall (T := tabsOf ca) (P := ca i) (c := c) (TT := fun tl H Q => tl (fun cls d H' => ∀ σ' : L2.St, wCl X.K n (fun _ _ _ _ => False) { nx := fun _ H' => Q .non H', rt := Q } (hs.map (clzOf ca)) cls d σ' H') H Q) (t := fun E => tD X.K ca (fun cls d _ H => E cls d H) fb)
    hg t1 t2 t3 t4 t5 t6 t7 t8 ?_ TB hcode ?_ ?_ hr L hdef hbind hbody hdb t9 t10) fun σ H Q ρ τ h R T x => ?_
  · subst t11
    intro f c' s H Q tl act hc hh
    refine ⟨_, pss_one (ps_tries (X := (cxOf C8.CX0 X.prog X.w X.K X.mg X.base Ng x sg g cdv X.A X.stack s H C8.E0).nox) (Wo := fun _ _ _ _ => False)
      (tb := fun W D σ H => ∃ Ech : XK, (∀ cls d σ' H', Ech cls d H' → W cls d σ' H') ∧ σ[0]? = some (some (.ref f)) ∧ H c' = some (LamX.CodeO c' (X.env.qual ++ "<lambda>")) ∧ tl Ech H D.rt) t6.nd rfl rfl LamX.takes0 (fun W pn xe tk _ => ?_)
      (hd_ok (X := (cxOf C8.CX0 X.prog X.w X.K X.mg X.base Ng x sg g cdv X.A X.stack s H C8.E0).nox) t6.nd rfl E _ _ t12)), ?_⟩
    · refine ⟨fun pins s' σ H' D I h' => ?_⟩
      obtain ⟨Ech, hW, h1, h2, h3⟩ := h'
      exact (pss_one (ps_ret (pos := p3) (act W pn xe Ech p1 p2 tk hW))).run pins s' σ H' D I ⟨h1, h2, h3⟩
    · refine ⟨_, fun cls d σ' H' z => z σ', ?_, hc, hh⟩
      have e : Ng[0]? = some a := t7
      cases Ng with
      | nil => cases e
      | cons _ _ => rfl
  · rw [hq]
    exact List.mem_filterMap.mpr ⟨(i, q), hi, by show (if ca i = 0 then none else some (ca i, _)) = _; rw [if_neg h0]⟩
  · intro p hp e
    rw [hq]
    exact huq p hp e
  · refine ⟨R.tb, fun H1 eN T1 => ?_⟩
    obtain ⟨R1, E1⟩ := R.extN eN T1
    refine ⟨ρ, τ, h, R1, EnvR.ext R E1 T, ?_⟩
    have x := Wp.ext E1 x
    have x : WpQ X.K ca (XW X.K ca W σ) ρ H1 Q (match fb τ h with
      | .exc c fs h => tldR (hnGo ex hs c fs (List.replicate n none) h)
      | r => r) := x
    cases e : fb τ h with
    | ok w h' => rw [e] at x; exact x
    | bad => rw [e] at x; exact x.elim
    | exc c fs h' =>
      rw [e] at x
      have x : WpQ X.K ca (XW X.K ca W σ) ρ H1 Q (tldR (hnGo ex hs c fs (List.replicate n none) h')) := x
      intro ρ' H' E' R' d xd σ'
      have x := Wp.ext E' x
      have env0 : ∀ σ'' : L2.St, σ''.length = n → EnvR X.K ρ' H' (List.replicate n none) σ'' := fun σ'' hl => ⟨by simp [hl], fun i w z => by
        rw [List.getElem?_replicate] at z
        split at z <;> cases z⟩
      refine hn_run (W := fun _ _ _ _ => False) E R' (env0 σ') xd (fun z => z ρ' H' (List.replicate n none) (Ext.refl _ _) R' (env0 _ (by simp)) d xd) hs (by rw [← t11]; exact hd_lt _ _ t12) ?_
      cases e2 : hnGo ex hs c fs (List.replicate n none) h' with
      | rt w h2 => rw [e2] at x; exact fun ρ2 H2 v E2 R2 r2 => x ρ2 H2 v E2 R2 r2
      | nx τ2 h2 => rw [e2] at x; exact fun ρ2 H2 σ2 E2 R2 T2 => x ρ2 H2 .non E2 R2 ((RV.non_ _).mpr rfl)
      | bk _ _ => rw [e2] at x; exact x.elim
      | ct _ _ => rw [e2] at x; exact x.elim
      | exc _ _ _ _ => rw [e2] at x; exact x.elim
      | bad => rw [e2] at x; exact x.elim
end
end DD
set_option Elab.async false
set_option linter.all false
set_option maxRecDepth 100000
set_option maxHeartbeats 4000000
/-! DZ3: dict(x), displays of dicts. -/
namespace DD
open PySem PySem.Spec PyProof.Rows L2
variable [Ups]

def pairKV : PV → Option (Key × PV)
  | .tup [k, v] => (keyP k).map fun k => (k, v)
  | _ => none
def pairsKV : List PV → Option (List (Key × PV))
  | [] => some []
  | x :: xs => match pairKV x, pairsKV xs with
    | some p, some ps => some (p :: ps)
    | _, _ => none
def dictF (x : PV) (h : Hh) : Res PV := match x with
  | .tup xs => match Nat.beq xs.length 2 with
    | true => .bad
    | false => match pairsKV xs with
      | some kvs => .ok (.obj h.n) (h.push (.dct (mergeP [] kvs)))
      | none => .bad
  | .obj i => match h.lst? i with
    | some xs => match pairsKV xs with
      | some kvs => .ok (.obj h.n) (h.push (.dct (mergeP [] kvs)))
      | none => .bad
    | none => match h.dct? i with
      | some kvs => .ok (.obj h.n) (h.push (.dct kvs))
      | none => .bad
  | _ => .bad
theorem pairs_of2 {X : Cx} {pins : List (Addr × Obj)} {σ : L2.St} {H : Hp} {s : Shared} (I : Inv X pins σ H s) : ∀ {ps : List Addr} {kvs : List (Key × V)}, Paired (fun p kv => SqT X.K H p [kV kv.1, kv.2]) ps kvs →
    ∃ (prs : List (Key × Value)) (uvs : List (Value × Value)), KV kvs prs ∧ prs.length = ps.length ∧ uvs.length = ps.length ∧ ∀ (j : Nat) (q : Key × Value), prs[j]? = some q → ∃ (b : Addr) (u : Value), ps[j]? = some b ∧ uvs[j]? = some (u, q.2) ∧ IsTup s.heap b #[u, q.2] ∧ keyIs q.1 u = true
  | _, _, .nil => ⟨[], [], .nil, rfl, rfl, fun j q e => by simp at e⟩
  | _, _, .cons (a := p) (b := kv) h t => by
    obtain ⟨prs, uvs, r, hl, hm, hp⟩ := pairs_of2 I t
    obtain ⟨its, rv, ht, _⟩ := I.tuple h
    obtain ⟨u, y, ei, ru, ry⟩ := vals2 rv
    subst ei
    refine ⟨(kv.1, y) :: prs, (u, y) :: uvs, .cons ⟨rfl, ry⟩ r, by rw [List.length_cons, List.length_cons, hl], by rw [List.length_cons, List.length_cons, hm], fun j q e => ?_⟩
    cases j with
    | zero =>
      have e' : (kv.1, y) = q := Option.some.inj e
      subst e'
      exact ⟨p, u, rfl, rfl, ht, kV_is (P := X.prog) (w := X.w) ru⟩
    | succ j =>
      obtain ⟨b, u', e1, e2, e3, e4⟩ := hp j q (by simpa using e)
      exact ⟨b, u', by simpa using e1, by simpa using e2, e3, e4⟩
/-- dict(t), t a tuple of pairs known to the last -/
theorem call_dictT {X : Cx} (hc : X.calm = true) : CallR X (.type "dict") (fun xs H Q => ∃ (a : Addr) (ps : List Addr) (kvs : List (Key × V)), xs = [.ref a] ∧ SqT X.K H a (ps.map V.ref) ∧ Nod X.K H a (ps.map V.ref) ∧ Paired (fun p kv => SqT X.K H p [kV kv.1, kv.2]) ps kvs ∧
    ∀ p, H p = none → Q (.ref p) (upd H p (.dK (mergeK [] kvs)))) := by
  rintro pins s σ H xs us Q I r ⟨a, ps, kvs, rfl, sq, em, hp, q⟩
  obtain ⟨u, rfl, rx⟩ := vals1 r
  cases rx
  obtain ⟨_, rz, _, hz⟩ := I.tuple sq
  rw [List.length_map] at hz
  have pl : PlainSeq "tuple" s.heap a (ps.map Value.ref).toArray := by
    rcases em with ⟨ob, h1, h2⟩ | ⟨o, its, n, h1, h2, h3, h4, h5⟩
    · obtain ⟨g1, _, its, rv, o', g2, g3, n, g4⟩ := I.hok a _ h1
      rw [g1] at g2
      cases g2
      have ei := refs_at rv
      subst ei
      exact ⟨ob, n, g1, g3, h2, g4⟩
    · have ei := refs_at h5
      refine ⟨o, n, I.kIn a o h1, h2, h3, ?_⟩
      rw [h4, ← ei, Array.toArray_toList]
  obtain ⟨prs, uvs, rel, hl, hm', hpr⟩ := pairs_of2 I hp
  have hb : ∀ (j : Nat) (k v : Value), uvs[j]? = some (k, v) → ∃ (b : Addr) (ky : Key), ps[j]? = some b ∧ IsTup s.heap b #[k, v] ∧ prs[j]? = some (ky, v) ∧ keyIs ky k = true := by
    intro j k v e
    have lt : j < prs.length := by rw [hl, ← hm']; exact (List.getElem?_eq_some_iff.mp e).1
    obtain ⟨b, u, e1, e2, e3, e4⟩ := hpr j prs[j] (List.getElem?_eq_getElem lt)
    rw [e] at e2
    cases e2
    exact ⟨b, prs[j].1, e1, e3, List.getElem?_eq_getElem lt, e4⟩
  refine PySem.call_dict_pairs (knd := mixKind X.prog X.w) (kvs := prs) (PySem.PairArg.tuple (prog := X.prog) (w := X.w) a (ps.map Value.ref).toArray (fun j => (ps[j]?).getD 0) uvs) (I.ok.hd hc) ⟨pl, by simp [hm'], fun j k v e => ?_⟩ ⟨by rw [hl, hm'], fun i k v e => ?_⟩ (by rw [hm']; exact hz) fun h' tk hd' k => ?_
  · obtain ⟨b, ky, e1, e2, _⟩ := hb j k v e
    refine ⟨by simp [e1], .inl ?_⟩
    show s.heap.IsTuple ((ps[j]?).getD 0) #[k, v]
    rw [e1]
    exact e2
  · obtain ⟨b, ky, _, _, e3, e4⟩ := hb i k v e
    exact ⟨ky, e3, e4⟩
  have hm : (s.heap.objs.size == sysModules) = false := beq_eq_false_iff_ne.mpr (Nat.ne_of_gt I.big)
  have hlen : (mergeK [] kvs).length ≤ sizeLine := by
    refine Nat.le_trans (length_mergeK kvs []) ?_
    rw [List.length_nil, Nat.zero_add, rel.length, hl]
    exact hz
  exact ⟨.ref s.heap.objs.size, upd H s.heap.objs.size (.dK (mergeK [] kvs)), I.laid (t' := tk) (fun b o e => k b o (fun z => by cases z) e) (Nat.le_refl _) (show ObjOk X.prog X.w _ _ _ (.dK (mergeK [] kvs)) from ⟨hlen, hm, merged [] prs, KV.merge rel .nil, hd'⟩), rfl, q _ (I.hok.fresh (Nat.le_refl _))⟩
section
variable {K : PySem.W.Frag} {ca : Nat → Addr} {ρ ρ' : List Addr} {h h' : Hh} {H H' : Hp}
theorem pairs_ok : ∀ {xs : List PV} {vs : List V} {kvs : List (Key × PV)}, RVs K ρ H xs vs → pairsKV xs = some kvs → ∃ (ps : List Addr) (ws : List (Key × V)), vs = ps.map V.ref ∧ Paired (fun p kv => SqT K H p [kV kv.1, kv.2]) ps ws ∧ RFs K ρ H kvs ws
  | [], vs, kvs, r, e => by
    cases e
    rw [r.inv0]
    exact ⟨[], [], rfl, .nil, rfl⟩
  | x :: xs, vs, kvs, r, e => by
    obtain ⟨v, t, rfl, rx, rt⟩ := r.inv
    have e : (match pairKV x, pairsKV xs with
      | some p, some ps => some (p :: ps)
      | _, _ => none) = some kvs := e
    cases e1 : pairKV x with
    | none => rw [e1] at e; cases e
    | some p =>
      cases e2 : pairsKV xs with
      | none => rw [e1, e2] at e; cases e
      | some qs =>
        rw [e1, e2] at e
        cases e
        obtain ⟨ps, ws, rfl, pr, rf⟩ := pairs_ok rt e2
        unfold pairKV at e1
        split at e1
        · rename_i kx vx
          cases ek : keyP kx with
          | none => rw [ek] at e1; cases e1
          | some k =>
            rw [ek] at e1
            cases e1
            rw [RV.tup_] at rx
            obtain ⟨a, us, rfl, s, ru⟩ := rx
            obtain ⟨u1, t1, rfl, r1, ru⟩ := ru.inv
            obtain ⟨u2, t2, rfl, r2, ru⟩ := ru.inv
            have := ru.inv0
            subst this
            have e3 := keyP_ok r1 ek
            subst e3
            exact ⟨a :: ps, (k, u2) :: ws, rfl, .cons s.1 pr, ⟨u2, ws, rfl, r2, rf⟩⟩
        · cases e1
end
def rDctA (K : PySem.W.Frag) : V → Hp → VK → Prop := fun v H Q => (∃ (a : Addr) (ps : List Addr) (kvs : List (Key × V)), v = .ref a ∧ SqL K H a (ps.map V.ref) ∧ Paired (fun p kv => SqT K H p [kV kv.1, kv.2]) ps kvs ∧ ∀ p, H p = none → Q (.ref p) (upd H p (.dK (mergeK [] kvs)))) ∨
  (∃ (a : Addr) (kvs : List (Key × V)), v = .ref a ∧ Rd H a (.dK kvs) ∧ ∀ p, H p = none → Q (.ref p) (upd H p (.dK kvs))) ∨
  ∃ (a : Addr) (ps : List Addr) (kvs : List (Key × V)), v = .ref a ∧ SqT K H a (ps.map V.ref) ∧ Nod K H a (ps.map V.ref) ∧ Paired (fun p kv => SqT K H p [kV kv.1, kv.2]) ps kvs ∧ ∀ p, H p = none → Q (.ref p) (upd H p (.dK (mergeK [] kvs)))
theorem call_dctA {X : Cx} (hc : X.calm = true) : CallR X (.type "dict") (fun vs H Q => ∃ v, vs = [v] ∧ rDctA X.K v H Q) := by
  rintro pins s σ H xs us Q I r ⟨v, rfl, ⟨a, ps, kvs, rfl, h⟩ | ⟨a, kvs, rfl, h⟩ | ⟨a, ps, kvs, rfl, h⟩⟩
  · exact call_dictP hc pins s σ H _ us Q I r ⟨a, ps, kvs, rfl, h⟩
  · exact call_dictD pins s σ H _ us Q I r ⟨a, kvs, rfl, h⟩
  · exact call_dictT hc pins s σ H _ us Q I r ⟨a, ps, kvs, rfl, h⟩
section
variable {K : PySem.W.Frag} {ca : Nat → Addr}
theorem dict_sound : Sound1 K ca (rDctA K) dictF := by
  intro XX ρ h H w v Q R r x
  cases w with
  | tup xs =>
    rw [RV.tup_] at r
    obtain ⟨a, vs, rfl, s, rs⟩ := r
    have x : WpQ K ca XX ρ H Q (match Nat.beq xs.length 2 with
      | true => .bad
      | false => match pairsKV xs with
        | some kvs => .ok (.obj h.n) (h.push (.dct (mergeP [] kvs)))
        | none => .bad) := x
    cases el : Nat.beq xs.length 2 with
    | true => rw [el] at x; exact x.elim
    | false =>
      rw [el] at x
      have x : WpQ K ca XX ρ H Q (match pairsKV xs with
        | some kvs => .ok (.obj h.n) (h.push (.dct (mergeP [] kvs)))
        | none => .bad) := x
      have nl : vs.length ≠ 2 := by
        rw [beqN] at el
        rw [← rs.length]
        exact of_decide_eq_false el
      cases qp : pairsKV xs with
      | none => rw [qp] at x; exact x.elim
      | some kvs =>
        rw [qp] at x
        obtain ⟨ps, ws, rfl, pr, rf⟩ := pairs_ok rs qp
        exact .inr (.inr ⟨a, ps, ws, rfl, s.1, s.2 nl, pr, fun p n => Wp.objN (o := .dct (mergeP [] kvs)) R x ⟨_, rfl, rf.merge (acc := []) (ac := []) rfl⟩ n⟩)
  | obj i =>
    rw [RV.obj_] at r
    obtain ⟨a, ha, rfl⟩ := r
    have x : WpQ K ca XX ρ H Q (match h.lst? i with
      | some xs => match pairsKV xs with
        | some kvs => .ok (.obj h.n) (h.push (.dct (mergeP [] kvs)))
        | none => .bad
      | none => match h.dct? i with
        | some kvs => .ok (.obj h.n) (h.push (.dct kvs))
        | none => .bad) := x
    cases ql : h.lst? i with
    | some xs =>
      rw [ql] at x
      obtain ⟨a', vs, ha', s, rs, _⟩ := lst_get ql R
      rw [ha] at ha'; cases ha'
      have x : WpQ K ca XX ρ H Q (match pairsKV xs with
        | some kvs => .ok (.obj h.n) (h.push (.dct (mergeP [] kvs)))
        | none => .bad) := x
      cases qp : pairsKV xs with
      | none => rw [qp] at x; exact x.elim
      | some kvs =>
        rw [qp] at x
        obtain ⟨ps, ws, rfl, pr, rf⟩ := pairs_ok rs qp
        exact .inl ⟨a, ps, ws, rfl, .inl s, pr, fun p n => Wp.objN (o := .dct (mergeP [] kvs)) R x ⟨_, rfl, rf.merge (acc := []) (ac := []) rfl⟩ n⟩
    | none =>
      rw [ql] at x
      have x : WpQ K ca XX ρ H Q (match h.dct? i with
        | some kvs => .ok (.obj h.n) (h.push (.dct kvs))
        | none => .bad) := x
      cases qd : h.dct? i with
      | none => rw [qd] at x; exact x.elim
      | some kvs =>
        rw [qd] at x
        obtain ⟨a', vs, ha', s, rk, _⟩ := dct_get qd R
        rw [ha] at ha'; cases ha'
        exact .inr (.inl ⟨a, vs, rfl, s, fun p n => Wp.objN (o := .dct kvs) R x ⟨vs, rfl, rk⟩ n⟩)
  | _ => exact x.elim
end
/-! ### displays -/
def evKV : List (SE × SE) → Env' → Hh → Res (List (PV × PV))
  | [], _, h => .ok [] h
  | (k, v) :: r, τ, h => (k τ h).bind fun x h => (v τ h).bind fun y h => (evKV r τ h).bind fun ps h => .ok ((x, y) :: ps) h
def keysKV : List (PV × PV) → Option (List (Key × PV))
  | [] => some []
  | (x, y) :: r => match keyP x, keysKV r with
    | some k, some ps => some ((k, y) :: ps)
    | _, _ => none
def isDct0 (h : Hh) (i : Nat) : Bool := match h.get i with
  | some (.dct []) => true
  | _ => false
def eDisp (l : List (SE × SE)) : SE := fun τ h => (evKV l τ (h.push (.dct []))).bind fun ps h2 => if ps.length ≤ 15 ∧ isDct0 h2 h.n = true then (match keysKV ps with
  | some kvs => .ok (.obj h.n) (h2.put h.n (.dct (mergeP [] kvs)))
  | none => .bad) else .bad
section
variable {K : PySem.W.Frag} {ca : Nat → Addr} {W : WX}
def RPs (K : PySem.W.Frag) (ρ : List Addr) (H : Hp) (ws : List (PV × PV)) (vs : List (V × V)) : Prop := RVs K ρ H (ws.map (·.1)) (vs.map (·.1)) ∧ RVs K ρ H (ws.map (·.2)) (vs.map (·.2))
theorem keys_ok {ρ : List Addr} {H : Hp} : ∀ {ws : List (PV × PV)} {vs : List (V × V)} {kvs : List (Key × PV)}, RPs K ρ H ws vs → keysKV ws = some kvs → ∃ us : List (Key × V), vs = us.map (fun kv => (kV kv.1, kv.2)) ∧ RFs K ρ H kvs us
  | [], vs, kvs, r, e => by
    cases e
    have := r.1.inv0
    cases vs with
    | nil => exact ⟨[], rfl, rfl⟩
    | cons _ _ => cases this
  | (x, y) :: ws, vs, kvs, r, e => by
    have e : (match keyP x, keysKV ws with
      | some k, some ps => some ((k, y) :: ps)
      | _, _ => none) = some kvs := e
    cases e1 : keyP x with
    | none => rw [e1] at e; cases e
    | some k =>
      cases e2 : keysKV ws with
      | none => rw [e1, e2] at e; cases e
      | some qs =>
        rw [e1, e2] at e
        cases e
        cases vs with
        | nil => obtain ⟨_, _, z, _⟩ := r.1.inv; cases z
        | cons p vs =>
          obtain ⟨u, v⟩ := p
          obtain ⟨r1, r2⟩ := r
          obtain ⟨_, _, z1, a1, b1⟩ := r1.inv
          obtain ⟨_, _, z2, a2, b2⟩ := r2.inv
          cases z1
          cases z2
          obtain ⟨us, rfl, rf⟩ := keys_ok (ws := ws) (vs := vs) ⟨b1, b2⟩ e2
          have := keyP_ok a1 e1
          have this : u = kV k := this
          subst this
          exact ⟨(k, v) :: us, rfl, v, us, rfl, a2, rf⟩
theorem ev_pairs {X : Cx} : ∀ (l : List (SE × SE)) {σ : L2.St} {ρ : List Addr} {τ : Env'} {h : Hh} {H : Hp} {Q : List (V × V) → Hp → Prop}, Rel X.K ca ρ h H → EnvR X.K ρ H τ σ → Wp X.K ca (RPs X.K) (XW X.K ca W σ) ρ H (fun _ _ _ H' vs => Q vs H') (evKV l τ h) →
    tPairs (l.map fun p => (tD X.K ca W p.1, tD X.K ca W p.2)) σ H Q
  | [], σ, ρ, τ, h, H, Q, R, T, x => x ρ H [] (Ext.refl _ _) R ⟨.nil, .nil⟩
  | (k, v) :: l, σ, ρ, τ, h, H, Q, R, T, x => by
    show tD X.K ca W k σ H fun x H1 => tD X.K ca W v σ H1 fun y H2 => tPairs (l.map fun p => (tD X.K ca W p.1, tD X.K ca W p.2)) σ H2 fun ps H3 => Q ((x, y) :: ps) H3
    refine tD.fst R T x fun w1 h1 ρ1 H1 v1 e1 R1 T1 r1 x1 => tD.fst R1 T1 x1 fun w2 h2 ρ2 H2 v2 e2 R2 T2 r2 x2 => ?_
    refine ev_pairs l R2 T2 ?_
    have x2 := Wp.bind (RA := RPs X.K) x2
    refine Wp.imp x2 fun ws h3 ρ3 H3 vs e3 R3 r3 q => ?_
    exact q ρ3 H3 ((v1, v2) :: vs) (Ext.refl _ _) R3 ⟨.cons (RV.ext R2 e3 w1 v1 (RV.ext R1 e2 w1 v1 r1)) r3.1, .cons (RV.ext R2 e3 w2 v2 r2) r3.2⟩
theorem pe_eDisp {X : Cx} {pos : Pos} {keys : List (Option Expr)} {values : List Expr} {l : List (SE × SE)} (hp : PPs X pos keys values (l.map fun p => (tD X.K ca W p.1, tD X.K ca W p.2))) (hall : keys.all (·.isSome) = true) (hl : keys.length = values.length) (h0 : keys ≠ [])
    (h15 : keys.length ≤ 15) : PE X (.Dict keys values pos) (tD X.K ca W (eDisp l)) :=
  pe_of (pe_disp hp hall hl h0 h15) fun σ H Q ρ τ h R T x => fun p n => by
    have r0 : RO X.K ρ H ca (.dct []) (.dK []) := ⟨[], rfl, rfl⟩
    have R1 := R.new n r0
    refine ev_pairs l R1 (T.ext R (Ext.new n)) ?_
    have x2 := Wp.bind (RA := RPs X.K) (Wp.ext (Ext.new (u := .dK []) n) x)
    refine Wp.imp x2 fun ws h2 ρ2 H2 vs E R2 r q => ?_
    have q : WpQ X.K ca (XW X.K ca W σ) ρ2 H2 Q (if ws.length ≤ 15 ∧ isDct0 h2 h.n = true then (match keysKV ws with
      | some kvs => .ok (.obj h.n) (h2.put h.n (.dct (mergeP [] kvs)))
      | none => .bad) else .bad) := q
    obtain ⟨⟨l15, hd⟩, q⟩ := q.iff
    have ha := E.at_ R.atNew
    have hg : h2.get h.n = some (.dct []) := by
      unfold isDct0 at hd
      split at hd
      · assumption
      · cases hd
    obtain ⟨a, u, ha', hu, ro⟩ := R2.obj hg
    rw [ha] at ha'; cases ha'
    obtain ⟨_, rfl, z⟩ := ro
    have z := (show _ = [] from z)
    subst z
    cases ek : keysKV ws with
    | none => rw [ek] at q; exact q.elim
    | some kvs =>
      rw [ek] at q
      obtain ⟨us, rfl, rf⟩ := keys_ok r ek
      refine ⟨hu, us, rfl, ?_, ?_⟩
      · have := r.1.length
        simp only [List.length_map] at this
        omega
      · exact Wp.objW (o := .dct (mergeP [] kvs)) R2 q ha ⟨_, rfl, rf.merge (acc := []) (ac := []) rfl⟩ ((RV.obj_ _ _).mpr ⟨p, ha, rfl⟩) (by rw [hu]; exact True.intro)
end
end DD
set_option Elab.async false
set_option linter.all false
set_option maxRecDepth 100000
set_option maxHeartbeats 4000000
/-! DTB: tables of the module with text keys: asked, read. -/
namespace DD
open PySem PySem.Spec PyProof.Rows L2
variable [Ups]
def TabIs (K : PySem.W.Frag) (w : World) (mg : Str → Option Value) (x : Str) (kvs : List (Str × PV)) : Prop :=
  ∃ d es n, mg x = some (.ref d) ∧ KDict K w d es n ∧ ∀ z, (∃ u v wv, kvs.lookup z = some wv ∧ PySem.W.nsIn K d z = some (some u) ∧ RelV v u ∧ ∀ ρ H, RV K ρ H wv v) ∨ (kvs.lookup z = none ∧ PySem.W.nsIn K d z = some none)
def eTabIn (kvs : List (Str × PV)) (f : SE) : SE := fun τ h => (f τ h).bind fun x h => match x with
  | .str z => .ok (.bl (kvs.lookup z).isSome) h
  | _ => .bad
def eTabIx (kvs : List (Str × PV)) (f : SE) : SE := fun τ h => (f τ h).bind fun x h => match x with
  | .str z => match kvs.lookup z with
    | some w => .ok w h
    | none => .bad
  | _ => .bad
section
variable {X : Cx} {ca : Nat → Addr} {W : WX} {pos p : Pos} {a : Expr} {fa : SE} {x : Str} {kvs : List (Str × PV)}
theorem pe_eTabIn (t : TabIs X.K X.w X.mg x kvs) (hg : Gl X x) (hd : (x == ("__debug__" : Str)) = false) (hm : behindInMarks .In (.Name x p) = false) (ha : PE X a (tD X.K ca W fa)) : PE X (.Compare a [.In] [.Name x p] pos) (tD X.K ca W (eTabIn kvs fa)) := by
  obtain ⟨d, es, n, m, D, k⟩ := t
  refine pe_of (pe_cmpR (op_in_kd D) ha (pe_glob (v := .ref d) hg m rfl hd) hm) fun σ H Q ρ τ h R T y => ?_
  refine tD.fst R T y fun w h1 ρ1 H1 v e1 R1 T1 r1 x1 => ?_
  cases w with
  | str z =>
    rw [RV.str_] at r1
    subst r1
    have x1 : WpQ X.K ca (XW X.K ca W σ) ρ1 H1 Q (.ok (.bl (kvs.lookup z).isSome) h1) := x1
    rcases k z with ⟨u, v', wv, l1, l2, _, _⟩ | ⟨l1, l2⟩
    · rw [l1] at x1
      exact ⟨z, some u, rfl, rfl, l2, x1.val R1 ((RV.bl_ _ _).mpr rfl)⟩
    · rw [l1] at x1
      exact ⟨z, none, rfl, rfl, l2, x1.val R1 ((RV.bl_ _ _).mpr rfl)⟩
  | _ => exact x1.elim
theorem pt_eTabIn (t : TabIs X.K X.w X.mg x kvs) (hg : Gl X x) (hd : (x == ("__debug__" : Str)) = false) (hm : behindInMarks .In (.Name x p) = false) (ha : PE X a (tD X.K ca W fa)) : PT X (.Compare a [.In] [.Name x p] pos) (tDT X.K ca W (tVal (eTabIn kvs fa))) := by
  obtain ⟨d, es, n, m, D, k⟩ := t
  refine pt_of (pt_cmpR (op_in_kd D) ha (pe_glob (v := .ref d) hg m rfl hd) hm) fun σ H Q ρ τ h R T y => ?_
  have y : WpB X.K ca (XW X.K ca W σ) ρ H Q ((fa τ h).bind fun x h => match x with
      | .str z => .ok (kvs.lookup z).isSome h
      | _ => .bad) := by
    have e : tVal (eTabIn kvs fa) τ h = ((fa τ h).bind fun x h => match x with
      | .str z => .ok (kvs.lookup z).isSome h
      | _ => .bad) := by
      unfold tVal eTabIn
      cases fa τ h with
      | ok w h1 => cases w <;> rfl
      | exc c fs h1 => rfl
      | bad => rfl
    rw [← e]
    exact y
  refine tD.fst R T y fun w h1 ρ1 H1 v e1 R1 T1 r1 x1 => ?_
  cases w with
  | str z =>
    rw [RV.str_] at r1
    subst r1
    rcases k z with ⟨u, v', wv, l1, l2, _, _⟩ | ⟨l1, l2⟩
    · have x1 : WpB X.K ca (XW X.K ca W σ) ρ1 H1 Q (.ok (kvs.lookup z).isSome h1) := x1
      rw [l1] at x1
      exact ⟨z, some u, rfl, rfl, l2, true, rfl, x1 ρ1 H1 true (Ext.refl _ _) R1 rfl⟩
    · have x1 : WpB X.K ca (XW X.K ca W σ) ρ1 H1 Q (.ok (kvs.lookup z).isSome h1) := x1
      rw [l1] at x1
      exact ⟨z, none, rfl, rfl, l2, false, rfl, x1 ρ1 H1 false (Ext.refl _ _) R1 rfl⟩
  | _ => exact x1.elim
theorem pe_eTabIx (t : TabIs X.K X.w X.mg x kvs) (hg : Gl X x) (hd : (x == ("__debug__" : Str)) = false) (hs : PlainIx a) (ha : PE X a (tD X.K ca W fa)) : PE X (.Subscript (.Name x p) a pos) (tD X.K ca W (eTabIx kvs fa)) := by
  obtain ⟨d, es, n, m, D, k⟩ := t
  refine pe_of (pe_ix ix_kdict (pe_glob (v := .ref d) hg m rfl hd) ha hs) fun σ H Q ρ τ h R T y => ?_
  refine tD.fst R T y fun w h1 ρ1 H1 v e1 R1 T1 r1 x1 => ?_
  cases w with
  | str z =>
    rw [RV.str_] at r1
    subst r1
    rcases k z with ⟨u, v', wv, l1, l2, rv, rr⟩ | ⟨l1, l2⟩
    · have x1 : WpQ X.K ca (XW X.K ca W σ) ρ1 H1 Q (match kvs.lookup z with
        | some w => .ok w h1
        | none => .bad) := x1
      rw [l1] at x1
      exact ⟨d, z, v', rfl, rfl, ⟨es, n, u, D.at_, D.lit, l2, rv⟩, Wp.val R1 x1 (rr ρ1 H1)⟩
    · have x1 : WpQ X.K ca (XW X.K ca W σ) ρ1 H1 Q (match kvs.lookup z with
        | some w => .ok w h1
        | none => .bad) := x1
      rw [l1] at x1
      exact x1.elim
  | _ => exact x1.elim
end
end DD
set_option Elab.async false
set_option linter.all false
set_option maxRecDepth 100000
set_option maxHeartbeats 400000
/-! DSK: sorted(d, key=lambda n: (-len(d[n]), n)) of a dict of dicts. -/
namespace DD
open PySem PySem.Spec PyProof.Rows L2
variable [Ups]

abbrev oneP (n : Str) (pp : Pos) : Arguments := { posonlyargs := [], args := [{ arg := n, annotation := none, pos := pp }], vararg := none, kwonlyargs := [], kw_defaults := [], kwarg := none, defaults := [] }
abbrev keyB (D n : Str) (k : Nat) (p1 p2 p3 p4 p5 p6 p7 p8 : Pos) : Expr :=
  .Tuple [.UnaryOp .USub (.Call (.Name "len" p1) [.Subscript (.Name D p2) (.Name n p3) p4] [] p5) p6, .Name n p7] k p8
/-- the lambda's names: its parameter, the captured dict, len -/
structure KeyS (sc scope : Scope) (D n : Str) : Prop where
  kind : scope.kind = .function
  co : scope.isCoroutine = false
  gen : scope.isGenerator = false
  noc : ∀ y ∈ scope.names, y.2 ≠ .cell
  loc : scope.names.lookup n = some .local
  fr : scope.names.lookup D = some .free
  gl : scope.names.lookup ("len" : Str) = some .globalImplicit
  own : ∀ y ∈ scope.names, y.2 = .free → sc.names.lookup y.1 = some .cell
  dn : (n == ("__debug__" : Str)) = false ∧ (D == ("__debug__" : Str)) = false ∧ (D == ("__classdict__" : Str)) = false
def keySB (sc scope : Scope) (D n : Str) : Bool :=
  decide (scope.kind = .function) && !scope.isCoroutine && !scope.isGenerator && (scope.names.all fun y => !decide (y.2 = .cell) && (!decide (y.2 = .free) || decide (sc.names.lookup y.1 = some .cell))) &&
    decide (scope.names.lookup n = some .local) && decide (scope.names.lookup D = some .free) && decide (scope.names.lookup ("len" : Str) = some .globalImplicit) && !(n == ("__debug__" : Str)) && !(D == ("__debug__" : Str)) && !(D == ("__classdict__" : Str))
theorem keyS_by {sc scope : Scope} {D n : Str} (h : keySB sc scope D n = true) : KeyS sc scope D n := by
  unfold keySB at h
  simp only [Bool.and_eq_true, Bool.or_eq_true, Bool.not_eq_true', decide_eq_true_eq, decide_eq_false_iff_not, List.all_eq_true] at h
  obtain ⟨⟨⟨⟨⟨⟨⟨⟨⟨h1, h2⟩, h3⟩, h4⟩, h5⟩, h6⟩, h7⟩, h8⟩, h9⟩, h10⟩ := h
  refine ⟨h1, h2, h3, fun y hy => (h4 y hy).1, h5, h6, h7, fun y hy e => ?_, h8, h9, h10⟩
  rcases (h4 y hy).2 with z | z
  · exact absurd e z
  · exact z
section
variable {X : Cx} {pins : List (Addr × Obj)} {σ : L2.St} {H : Hp} {s : Shared}
theorem key_turn {A : Around} {D n q : Str} {f c' a b C : Addr} {vs ws : List (Key × Value)} {x : Str} {t : Tok} {m : Nat} {pm ctv : Value} {params : Arguments} {body : Expr} {scope : Scope} {p1 p2 p3 p4 p5 p6 p7 p8 : Pos} {k : Nat} {h : Heap} {tk : Nat}
    (I : Inv X pins σ H s) (S : KeyS X.env.scope scope D n) (hmg : X.mg ("len" : Str) = none) (hB : body = keyB D n k p1 p2 p3 p4 p5 p6 p7 p8)
    (hf : s.heap.get? f = some (PySem.W.kla_obj "<lambda>" q params body scope (cloFrom X.env.cells scope.names []) pm c' ctv))
    (hc : s.heap.CodeRec (.ref c') q) (hC : X.env.cells.lookup D = some C) (hcell : s.heap.IsCell C (some (.ref a)))
    (hd : s.heap.DictOf (mixKind X.prog X.w) a vs) (hv : valueAt vs (Sum.inr x) = some (.ref b)) (hb : s.heap.DictOf (mixKind X.prog X.w) b ws) (hbm : (b == sysModules) = false) (hm : ws.length = m) (hz : m ≤ sizeLine)
    (kp : ∀ b o, s.heap.get? b = some o → h.get? b = some o) (hA : A.depth < recursionLimit)
    (hbind : ∀ (q : Str) (cl : List (Str × Addr)) (pm cv ctv v : Value), bindArgs (PySem.W.kla_fn "<lambda>" q params body scope cl pm cv ctv) ⟨[v], []⟩ = pure [(n, v)]) :
    wpAny (model X.prog X.w) A (call (.ref f) [.str x t]) (PySem.W.KeyPure (.tuple [.int (-(m : Int)), .str x]) { s with heap := h, toks := tk }) (fun _ _ => False) { s with heap := h, toks := tk } := by
  have hcr : h.CodeRec (.ref c') q := by
    obtain ⟨c, o, vs, t, e1, e2, e3, e4⟩ := hc
    exact ⟨c, o, vs, t, e1, kp _ _ e2, e3, e4⟩
  refine wpAny_call (PySem.W.kla_callFunE hA (kp _ _ hf) rfl S.co S.gen rfl hcr ?_)
  rw [hbind]
  refine wpAny_pure (wpAny_newFunctionEnv S.noc (fun y hy => ?_) (fun h₁ hns hsb => ⟨?_, ?_⟩) S.kind)
  · obtain rfl : y = (n, .str x t) := by simpa using hy
    exact S.loc
  · exact (I.nolimit.keeps kp).fresh _ hsb
  have kp1 : ∀ b o, h.get? b = some o → h₁.get? b = some o := fun b o e => hsb.extBut b o (Nat.ne_of_lt (Heap.lt_size e)) (Heap.get?_push_of_some _ e)
  have kp2 : ∀ b o, s.heap.get? b = some o → h₁.get? b = some o := fun b o e => kp1 b o (kp b o e)
  have hfree : ∀ y ∈ scope.names, y.2 = .free → ∃ c, X.env.cells.lookup y.1 = some c := fun y hy e => I.ok.has _ (.inl (S.own y hy e))
  have cm : ∀ {y c}, (cloFrom X.env.cells scope.names []).lookup y = some c → X.env.cells.lookup y = some c := fun {y c} e => by
    rcases cloFrom_mem (PySem.mem_of_lookup e) with hm | ⟨h1, h2⟩
    · cases hm
    · obtain ⟨c1, hc⟩ := hfree _ h1 rfl
      have hc : X.env.cells.lookup y = some c1 := hc
      have e2 : c = c1 := by
        rw [h2, hc] <;> rfl
      rw [e2]
      exact hc
  have hCl : (cloFrom X.env.cells scope.names []).lookup D = some C := by
    have hy : (D, NameKind.free) ∈ scope.names := PySem.mem_of_lookup S.fr
    obtain ⟨c, e⟩ := L2.mem_lookup (cloFrom_has (cells := X.env.cells) (acc := []) hy)
    have := cm e
    rw [hC] at this
    cases this
    exact e
  have hcell1 : h₁.IsCell C (some (.ref a)) := by
    obtain ⟨o, ho, hd⟩ := hcell
    exact ⟨o, kp2 _ _ ho, hd⟩
  have hd1 : h₁.DictOf (mixKind X.prog X.w) a vs := Heap.DictOf.keep hd kp2
  have hb1 : h₁.DictOf (mixKind X.prog X.w) b ws := Heap.DictOf.keep hb kp2
  have hnm : [(n, Value.str x t)].reverse.lookup n = some (.str x t) := by simp
  obtain ⟨mb, m1, m2⟩ := I.mod.blt
  have ldn : ∀ {A : Around} {E : Value → Shared → Prop} {Q : Value → Shared → Prop} {p : Pos} {tk}, Q (.str x t) { s with heap := h₁, toks := tk } → wpAny (model X.prog X.w) A (eval (.Name n p) (PySem.W.envX q scope h.objs.size f (.ref c') (cloFrom X.env.cells scope.names []))) Q E { s with heap := h₁, toks := tk } := fun {A E Q p tk} hq =>
    wpAny_Name (wpAny_loadName_local S.kind S.loc hns hnm hq) S.dn.1
  show codeAny _ _ (.expr body (PySem.W.envX q scope h.objs.size f (.ref c') (cloFrom X.env.cells scope.names []))) _ _
  refine PySem.W.kla_codeExpr ?_
  subst hB
  refine wpAny_Tuple_spliced ?_
  refine args_cons ?_
  refine UnaryOp_ ?_
  refine Call_ ?_
  refine Calls.Name_function_global S.kind S.gl ?_ (by decide)
  refine Calls.loadGlobal_builtin (mg := X.mg) (mb := mb) ((I.mod.glob.keeps I.bk).keeps kp2) hmg ((m1.keeps I.bk).keeps kp2) ((m2 _ (by decide)).trans boot_len) ?_
  refine PyProof.Rows.callWith_builtin1 (args_cons ?_)
  refine subD_of PySem.F.slot_dict_getitem.lookup (fun _ _ => rfl) (wpAny_Name (wpAny_loadName_free S.kind S.fr hCl hcell1 ?_ S.dn.2.2) S.dn.2.1)
  refine ldn ⟨hd1.typeIs, wpAny_getItem_of (kV_is (k := Sum.inr x) ⟨t, rfl⟩) hd1.mapOf hv ?_⟩
  refine args_nil ?_
  refine call_len_dict hbm hb1 (by rw [hm]; rw [sizeLine_eq] at hz; omega) ?_
  refine neg_int ?_
  refine args_cons (ldn (args_nil ?_))
  refine ⟨by show 2 ≤ sizeLine; rw [sizeLine_eq]; decide, ?_⟩
  refine ⟨_, _, rfl, fun b o e => Heap.get?_push_of_some _ (kp1 b o e), ?_⟩
  refine Reads.tuple (Heap.get?_push_size _ rfl) rfl rfl ?_
  have ra : ∀ (g : Heap) (t1 : Tok), ReadsAll g [Value.int (-(ws.length : Int)) t1, Value.str x t] [.int (-(m : Int)), .str x] [] := fun g t1 => by
    rw [hm]
    exact ReadsAll.cons (as := []) (bs := []) (Reads.int _ _) (ReadsAll.cons (as := []) (bs := []) (Reads.str _ _) ReadsAll.nil)
  exact ra _ _
def kdat (x : Int × Str) : PyData := .tuple [.int x.1, .str x.2]
/-- the second ones, sorted by the pairs -/
def kSort (bs : List (Int × Str)) : List Str := (bs.mergeSort (PySem.W.dataLe false kdat)).map (·.2)
theorem kSort_perm (bs : List (Int × Str)) : (kSort bs).Perm (bs.map (·.2)) := (List.mergeSort_perm bs _).map _
theorem each_strs : ∀ {us : List Value} {bs : List (Int × Str)}, StrsAre us (bs.map (·.2)) → PySem.W.EachIs (fun v (x : Int × Str) => ∃ t, v = Value.str x.2 t) us bs
  | [], [], _ => .nil
  | _ :: _, [], h => by cases h
  | [], _ :: _, h => by cases h
  | _ :: us, b :: bs, h => by
    cases h with
    | cons y t h => exact .cons ⟨t, rfl⟩ (each_strs h)
theorem vals_each : ∀ {us : List Value} {bs : List (Int × Str)}, PySem.W.EachIs (fun v (x : Int × Str) => ∃ t, v = Value.str x.2 t) us bs → Vals ((bs.map (·.2)).map V.str) us
  | [], [], _ => .nil
  | _ :: us, b :: bs, h => by
    cases h with
    | cons r h =>
      obtain ⟨t, rfl⟩ := r
      exact .cons ⟨t, rfl⟩ (vals_each h)
theorem srt_call {A : Around} {E : Value → Shared → Prop} {f a : Addr} {kvs : List (Key × V)} {bs : List (Int × Str)} {Q : Value → Shared → Prop} (I : Inv X pins σ H s) (hh : A.handled = none) (hu : A.units + 20 < cLine)
    (hd : Rd H a (.dK kvs)) (hks : kvs.map (·.1) = bs.map fun x => Sum.inr x.2) (h64 : bs.length < 64)
    (turn : ∀ (t : Tok) (x : Int × Str), x ∈ bs → ∀ (h : Heap) (tk : Nat), (∀ b o, s.heap.get? b = some o → h.get? b = some o) → wpAny (model X.prog X.w) A.in1.in1 (call (.ref f) [.str x.2 t]) (PySem.W.KeyPure (kdat x) { s with heap := h, toks := tk }) (fun _ _ => False) { s with heap := h, toks := tk })
    (h : ∀ p s', H p = none → Inv X pins σ (upd H p (.lst ((kSort bs).map V.str))) s' → Q (.ref p) s') :
    wpAny (model X.prog X.w) A (call (.builtin "sorted") [.ref a] [(Str.ofString "key", .ref f)]) Q E s := by
  obtain ⟨z, lo, vs, rel, dd⟩ := dk_rd I.hok hd
  obtain ⟨ep, hat⟩ := dd.dictAt
  have hkeys : vs.map (·.1) = bs.map fun x => Sum.inr x.2 := rel.keys.symm.trans hks
  have hl : vs.length = bs.length := by
    have e := congrArg List.length hkeys
    rw [List.length_map, List.length_map] at e
    exact e
  have h16 : vs.length ≤ sizeLine := by rw [hl, sizeLine_eq]; omega
  refine PyProof.Rows.call_function_entry_kw PyProof.Rows.kind_sorted PyProof.Rows.plain_sorted PyProof.Rows.entry_sorted (PyProof.Rows.ksk_s1 _ _) ?_
  unfold Builtin.«sorted»
  refine wpAny_bind (m := checkCount "sorted" 1 1 _) (wpAny_pure ?_)
  refine wpAny_bind (PySem.W.kdu_collect (A := A.in1) (PySem.W.kdl_dict (knd := mixKind X.prog X.w) (kvs := vs) (ep := ep) lo) hh hat h16 fun h' tk acc hk hacc => ?_)
  have hal : acc.toList.length = bs.length := by rw [Array.length_toList, hacc.1, hl]
  have hS : StrsAre acc.toList (bs.map (·.2)) := strs_at (by rw [hal, List.length_map]) fun j v e => by
    obtain ⟨k, x, e1, e2⟩ := hacc.2 j v (by rw [← Array.getElem?_toList]; exact e)
    have e3 : (vs.map (·.1))[j]? = some k := by rw [List.getElem?_map, e1]; all_goals rfl
    rw [hkeys, List.getElem?_map] at e3
    cases e4 : bs[j]? with
    | none => rw [e4] at e3; cases e3
    | some y =>
      rw [e4] at e3
      have e5 : Sum.inr y.2 = k := Option.some.inj e3
      subst e5
      obtain ⟨t, ev⟩ := Value.isStrOf_shape (x := y.2) (v := v) e2
      exact ⟨y.2, t, by rw [List.getElem?_map, e4]; rfl, ev⟩
  have I1 : Inv X pins σ H { s with heap := h', toks := tk } := I.kept hk
  refine wpAny_bind (wpAny_newList ?_ (by rw [hal, sizeLine_eq]; omega))
  have hoL : (h'.push (seqObj "list" acc.toList.toArray 0)).get? h'.objs.size = some (seqObj "list" acc.toList.toArray 0) := Heap.get?_push_size _ rfl
  show wpAny _ _ _ _ _ { s with heap := h'.push (seqObj "list" acc.toList.toArray 0), toks := tk }
  refine wpAny_bind (wpAny_holding (PyProof.Rows.wpAny_call_entry_kw PyProof.Rows.slot_list_sort ⟨_, hoL, rfl⟩ PyProof.Rows.entry_list_sort ?_ (PyProof.Rows.ksk_l1 _ _)))
  rw [PyProof.Rows.ksk_t1]
  have old : ∀ {g : Heap}, PySem.W.KeepsBut h'.objs.size (h'.push (seqObj "list" acc.toList.toArray 0)) g → ∀ b o, h'.get? b = some o → g.get? b = some o := fun {g} kp b o q =>
    kp b o (Nat.ne_of_lt (Heap.lt_size q)) (Heap.get?_push_of_some _ q)
  refine PySem.W.keyH_tree (kz := bs.map kdat) (s := { s with heap := h'.push (seqObj "list" acc.toList.toArray 0), toks := tk }) hoL (by rw [List.length_map]; exact hal.symm) (by rw [hal, sizeLine_eq]; omega)
    (PySem.W.AllAlike.of fun _ _ => by simp [PySem.W.alike, PySem.W.alikeAll, kdat]) (PySem.W.Sortable.tuples fun _ => ⟨_, _, rfl⟩) (fun d hd => ?_)
    (PySem.W.keyH_turns (s := { s with heap := h'.push (seqObj "list" acc.toList.toArray 0), toks := tk }) (each_strs hS) fun v x hR hx g tk kp => ?_) fun g tk out c kp hD ko => ?_
  · obtain ⟨x, _, rfl⟩ := List.mem_map.mp hd
    have hdp : (kdat x).depth = 1 := by simp [kdat, PyData.depth, PyData.depthAll]
    rw [hdp]
    show A.units + 1 + 1 + 1 < cLine
    omega
  · obtain ⟨t, rfl⟩ := hR
    exact turn t x hx g tk fun b o e => old kp b o (hk b o e)
  · refine ⟨.none, rfl, ?_⟩
    have eo := PySem.W.keyedOut_each kdat ko (each_strs hS)
    have hlo : out.length = bs.length := (ko.length (by rw [List.length_map]; exact hal.symm)).trans hal
    refine wpAny_pure ⟨_, rfl, h h'.objs.size _ (I1.hok.fresh (Nat.le_refl _)) (I1.laid (t' := tk) (fun b u e => old kp b u e) (Nat.le_refl _) ⟨?_, out, c, vals_each eo, ?_⟩)⟩
    · rw [List.length_map, (kSort_perm bs).length_eq, List.length_map, sizeLine_eq]; omega
    · exact hD
theorem rd_extN {H H1 : Hp} {a : Addr} {u : HO} (h : Rd H a u) (n : ∀ ps, u ≠ .tbl ps) (e : LamX.ExtN H H1) : Rd H1 a u := by
  rcases h with h | ⟨o, h⟩
  · exact .inl (e _ _ h n)
  · exact .inr ⟨o, e _ _ h fun ps z => by cases z⟩
def tSrtK (T : List (Addr × Str)) (i : Nat) : TE := fun σ H Q => LamX.Tabs T H ∧ ∃ (a : Addr) (kvs : List (Key × V)) (bs : List (Int × Str)), σ[i]? = some (some (.ref a)) ∧ Rd H a (.dK kvs) ∧ (kvs.map (·.1) = bs.map fun x => Sum.inr x.2) ∧ bs.length < 64 ∧
  (∀ x ∈ bs, ∃ b ws, valV kvs (Sum.inr x.2) = some (.ref b) ∧ Rd H b (.dK ws) ∧ x.1 = -(ws.length : Int)) ∧ ∀ H1, LamX.ExtN H H1 → LamX.Tabs T H1 → ∀ p, H1 p = none → Q (.ref p) (upd H1 p (.lst ((kSort bs).map V.str)))
end
section
variable {X : Cx}
theorem pe_srtK {T : List (Addr × Str)} {i : Nat} {c P : Addr} {D n : Str} {params : Arguments} {body : Expr} {scope : Scope} {k : Nat} {p pD kp lpos pos p1 p2 p3 p4 p5 p6 p7 p8 : Pos} (hg : Gl X "sorted") (hm : X.mg ("sorted" : Str) = none) (hN : X.N[i]? = some D) (hv : Vis X.env.scope D)
    (hml : X.mg ("len" : Str) = none) (S : KeyS X.env.scope scope D n) (hB : body = keyB D n k p1 p2 p3 p4 p5 p6 p7 p8) (TB : LamX.TabB X.base X.mg c P) (hcode : X.env.code = .ref c) (hmT : (P, X.env.qual ++ "<lambda>") ∈ T) (hu : ∀ p ∈ T, p.1 = P → p.2 = X.env.qual ++ "<lambda>")
    (hr : Room 0 X.A) (hdef : defaultsOf params X.env = ([], []))
    (hbind : ∀ (q : Str) (cl : List (Str × Addr)) (pm cv ctv v : Value), bindArgs (PySem.W.kla_fn "<lambda>" q params body scope cl pm cv ctv) ⟨[v], []⟩ = pure [(n, v)]) :
    PE X (.Call (.Name "sorted" p) [.Name D pD] [⟨some "key", .Lambda params body scope lpos, kp⟩] pos) (tSrtK T i) := by
  refine ⟨fun pins s σ H Q I h => ?_⟩
  obtain ⟨hT, a, kvs, bs, hs, hd, hks, h64, hb, h⟩ := h
  refine wpAny_Call_Name_kw (ld_blt I hg hm PyProof.Rows.boot_sorted ?_)
  refine PyProof.Rows.callWith_kw ?_
  refine args_cons (thn ((pe_var (pos := pD) (i := i) hN hv S.dn.2.1 S.dn.2.2).run pins s σ H (fun v H1 => v = .ref a ∧ H1 = H) I ⟨.ref a, hs, rfl, rfl⟩) fun u s1 ⟨v, H1, I1, r1, q1⟩ => args_nil ?_)
  obtain ⟨ev, eH⟩ := q1
  subst ev
  rw [eH] at I1
  obtain rfl : u = Value.ref a := r1
  refine PyProof.Rows.kws_cons (LamX.lam_make2 I1 TB hcode hmT hu hT hdef (fun y hy e => I1.ok.has _ (.inl (S.own y hy e))) fun f c' pm ctv H1 s' I2 eN T1 hf hfn hfr hco => PyProof.Rows.kws_nil ?_)
  have hd1 : Rd H1 a (.dK kvs) := rd_extN hd (fun _ z => by cases z) eN
  refine srt_call (bs := bs) I2 hr.hd (by have := hr.un; omega) hd1 hks h64 (fun t x hx g tk kp => ?_) fun p s2 hp I3 => ⟨.ref p, _, I3, rfl, h H1 eN T1 p hp⟩
  obtain ⟨b, ws, e1, e2, e3⟩ := hb x hx
  obtain ⟨m, hn, hl⟩ := I2.loc
  obtain ⟨u, r, l⟩ := hl i D (.ref a) hN hs hv
  obtain rfl : u = Value.ref a := r
  have hcl : ∃ C, X.env.cells.lookup D = some C ∧ s'.heap.IsCell C (some (.ref a)) := by
    rcases l with ⟨k', _⟩ | ⟨_, c3, e', z⟩
    · have k' : X.env.scope.names.lookup D = some .local := k'
      have k2 := S.own _ (PySem.mem_of_lookup S.fr) rfl
      rw [show X.env.scope.names.lookup D = _ from k2] at k'
      cases k'
    · exact ⟨c3, e', z⟩
  obtain ⟨C, hC, hcell⟩ := hcl
  obtain ⟨_, _, vs, rel, dd⟩ := dk_rd I2.hok hd1
  obtain ⟨z2, lo2, ws', rel2, dd2⟩ := dk_rd I2.hok (rd_extN e2 (fun _ z => by cases z) eN)
  obtain ⟨w', hw, rw'⟩ := RelO.some_of (v := V.ref b) (o := valueAt vs (Sum.inr x.2)) (by rw [← e1]; exact rel.val _)
  obtain rfl : w' = Value.ref b := rw'
  obtain ⟨⟨oc, vsc, tc, hoc, hdc, hvc⟩, _, _⟩ := I2.hok c' _ hco
  have hkd : kdat x = .tuple [.int (-(ws.length : Int)), .str x.2] := by unfold kdat; rw [e3]
  rw [hkd]
  exact key_turn I2 S hml hB hf ⟨c', oc, vsc, tc, rfl, hoc, hdc, hvc⟩ hC hcell dd hw dd2 lo2 rel2.length.symm z2 kp (by show X.A.depth < recursionLimit; exact hr.depth) hbind
end
/-! ### own reading -/
/-- the keys with the sizes of what stands there, below nought -/
def szs (h : Hh) (kvs : List (Key × PV)) : List Str → Option (List (Int × Str))
  | [] => some []
  | x :: r => match valP kvs (Sum.inr x) with
    | some (.obj j) => match h.dct? j with
      | some ws => (szs h kvs r).map fun q => (-(ws.length : Int), x) :: q
      | none => none
    | _ => none
def eSrtK (i : Nat) : SE := fun τ h => match τ[i]? with
  | some (some (.obj o)) => match h.dct? o with
    | some kvs => match keysT? kvs with
      | some ss => match szs h kvs ss with
        | some bs => if ss.length < 64 then newL ((kSort bs).map .str) h else .bad
        | none => .bad
      | none => .bad
    | none => .bad
  | _ => .bad
section
variable {K : PySem.W.Frag} {ca : Nat → Addr} {ρ : List Addr} {h : Hh} {H : Hp}
theorem szs_ok (R : Rel K ca ρ h H) {kvs : List (Key × PV)} {vs : List (Key × V)} (r : RFs K ρ H kvs vs) : ∀ {ss : List Str} {bs : List (Int × Str)}, szs h kvs ss = some bs →
    ss = bs.map (·.2) ∧ ∀ x ∈ bs, ∃ b ws, valV vs (Sum.inr x.2) = some (.ref b) ∧ Rd H b (.dK ws) ∧ x.1 = -(ws.length : Int)
  | [], bs, e => by cases e; exact ⟨rfl, fun _ z => by cases z⟩
  | x :: ss, bs, e => by
    unfold szs at e
    cases q : valP kvs (Sum.inr x) with
    | none => rw [q] at e; cases e
    | some w =>
      rw [q] at e
      cases w with
      | obj j =>
        dsimp only at e
        cases q2 : h.dct? j with
        | none => rw [q2] at e; cases e
        | some ws =>
          rw [q2] at e
          dsimp only at e
          cases q3 : szs h kvs ss with
          | none => rw [q3] at e; cases e
          | some bs' =>
            rw [q3] at e
            cases e
            obtain ⟨e1, e2⟩ := szs_ok R r q3
            refine ⟨by rw [e1]; rfl, fun y hy => ?_⟩
            rcases List.mem_cons.mp hy with z | z
            · subst z
              rcases RFs.val (Sum.inr x) r with ⟨z1, _⟩ | ⟨w, v, z1, z2, z3⟩
              · rw [q] at z1; cases z1
              · rw [q] at z1
                cases z1
                rw [RV.obj_] at z3
                obtain ⟨b, hb, rfl⟩ := z3
                obtain ⟨b', us, hb', hr, rr, _⟩ := dct_get q2 R
                rw [hb] at hb'
                cases hb'
                exact ⟨b, us, z2, hr, by rw [rr.length]⟩
            · exact e2 y z
      | _ => cases e
end
section
variable {X : Cx} {ca : Nat → Addr} {W : WX}
theorem pe_eSrtK {i ti : Nat} {c : Addr} {q D n : Str} {params : Arguments} {body : Expr} {scope : Scope} {k : Nat} {p pD kp lpos pos p1 p2 p3 p4 p5 p6 p7 p8 : Pos} (hg : Gl X "sorted") (hm : X.mg ("sorted" : Str) = none) (hN : X.N[i]? = some D) (hv : Vis X.env.scope D)
    (hml : X.mg ("len" : Str) = none) (S : KeyS X.env.scope scope D n) (hB : body = keyB D n k p1 p2 p3 p4 p5 p6 p7 p8) (TB : LamX.TabB X.base X.mg c (ca ti)) (hcode : X.env.code = .ref c)
    (hi : (ti, q) ∈ lamDefs) (h0 : ca ti ≠ 0) (huq : ∀ p ∈ tabsOf ca, p.1 = ca ti → p.2 = q ++ ".<locals>." ++ "<lambda>") (hq : X.env.qual = q ++ ".<locals>.")
    (hr : Room 0 X.A) (hdef : defaultsOf params X.env = ([], []))
    (hbind : ∀ (q : Str) (cl : List (Str × Addr)) (pm cv ctv v : Value), bindArgs (PySem.W.kla_fn "<lambda>" q params body scope cl pm cv ctv) ⟨[v], []⟩ = pure [(n, v)]) :
    PE X (.Call (.Name "sorted" p) [.Name D pD] [⟨some "key", .Lambda params body scope lpos, kp⟩] pos) (tD X.K ca W (eSrtK i)) := by
  refine pe_of (pe_srtK (T := tabsOf ca) (P := ca ti) (i := i) hg hm hN hv hml S hB TB hcode ?_ ?_ hr hdef hbind) fun σ H Q ρ τ h R T x => ?_
  · rw [hq]
    exact List.mem_filterMap.mpr ⟨(ti, q), hi, by show (if ca ti = 0 then none else some (ca ti, _)) = _; rw [if_neg h0]⟩
  · intro p hp e
    rw [hq]
    exact huq p hp e
  · refine ⟨R.tb, ?_⟩
    unfold eSrtK at x
    split at x
    · rename_i o e1
      split at x
      · rename_i kvs e2
        split at x
        · rename_i ss e3
          split at x
          · rename_i bs e4
            split at x
            · rename_i hlt
              obtain ⟨v, hs, rv⟩ := T.2 _ _ e1
              rw [RV.obj_] at rv
              obtain ⟨a, ha, rfl⟩ := rv
              obtain ⟨a', vs, ha', hrd, rr, _⟩ := dct_get e2 R
              rw [ha] at ha'
              cases ha'
              obtain ⟨f1, f2⟩ := szs_ok R rr e4
              refine ⟨a, vs, bs, hs, hrd, by rw [keysT_ok rr e3, f1, List.map_map]; rfl, by rw [f1, List.length_map] at hlt; exact hlt, f2, fun H1 eN T1 p n => ?_⟩
              obtain ⟨R1, E1⟩ := R.extN eN T1
              exact newL_ok R1 (RVs.ofStrs _) (Wp.ext E1 x) n
            · exact x.elim
          · exact x.elim
        · exact x.elim
      · exact x.elim
    · exact x.elim
end
end DD
set_option Elab.async false
set_option linter.all false
set_option maxRecDepth 100000
set_option maxHeartbeats 4000000
/-! DS: what an expression of the language comes to, as a function; its soundness. -/
namespace DD
open PySem PySem.Spec PyProof.Rows L2
variable [Ups]

structure Pg where
  N : List Str
  gl : Str → Gn
  mt : Nat → Str → Option (Nat × Nat)
  at_ : Nat → Str → Bool
  C : CT
  fu : Nat
  /-- what functions give within a lambda; exceptions: class under class, their fields; the table of code objects -/
  Cl : CT := fun _ _ _ => .bad
  ex : Nat → Nat → Option Bool := fun _ _ => none
  xf : Nat → Str → Bool := fun _ _ => false
  tab : Option Nat := none
/-- within a lambda -/
def Pg.lam (P : Pg) : Pg := { P with C := P.Cl, tab := none, gl := fun x => match P.gl x with
  | .told _ _ => .no
  | g => g }
def visB (sc : Scope) (x : Str) : Bool := match sc.names.lookup x with
  | some .local => true
  | some .cell => true
  | some .free => true
  | _ => false
theorem visB_ok {sc : Scope} {x : Str} (h : visB sc x = true) : Vis sc x := by
  unfold visB at h
  split at h
  · rename_i q; exact .inl q
  · rename_i q; exact .inr (.inl q)
  · rename_i q; exact .inr (.inr q)
  · cases h
structure Dn where
  e : Expr → SE
  t : Expr → ST
/-! targets -/
def patOf (sc : Scope) (fb : Str → Bool) (N : List Str) : Nat → Expr → Option Pat
  | 0, _ => none
  | n + 1, .Name x _ => match slotOf N x with
    | some i => match sc.names.lookup x with
      | some .local => some (.nm i)
      | some .cell => if fb x = true then some (.nm i) else none
      | _ => none
    | none => none
  | n + 1, .Tuple es _ _ => if es.all notStar = true then (patsOf (patOf sc fb N n) es).map .tp else none
  | _ + 1, _ => none
where
  patsOf (f : Expr → Option Pat) : List Expr → Option (List Pat)
  | [] => some []
  | e :: es => match f e with
    | some p => (patsOf f es).map (p :: ·)
    | none => none
/-! the context -/
structure Gd (X : Cx) (ca : Nat → Addr) (W : WX) (P : Pg) (sc : Scope) (fb : Str → Bool) : Prop where
  c : COk X W
  sc : X.env.scope = sc
  N : X.N = P.N
  fb : ∀ x, fb x = true → X.fn x = true
  tab : ∀ i, P.tab = some i → ∃ (q : Str) (c : Addr), (i, q) ∈ lamDefs ∧ ca i ≠ 0 ∧ (∀ p ∈ tabsOf ca, p.1 = ca i → p.2 = q ++ ".<locals>." ++ "<lambda>") ∧ X.env.qual = q ++ ".<locals>." ∧ X.env.code = .ref c ∧ LamX.TabB X.base X.mg c (ca i)
theorem asg_one {e : Expr} {es : List Expr} {env : Env} (h : notStar e = true) : assignEach (e :: es) env = (false, assign e env) :: assignEach es env := by
  cases e <;> first | rfl | cases h
theorem asg_len : ∀ {es : List Expr} {env : Env}, es.all notStar = true → (assignEach es env).length = es.length ∧ (assignEach es env).findIdx? (·.1) = none
  | [], _, _ => ⟨rfl, rfl⟩
  | e :: es, env, h => by
    rw [List.all_cons, Bool.and_eq_true] at h
    rw [asg_one h.1]
    obtain ⟨a, b⟩ := asg_len (env := env) h.2
    refine ⟨by simp [a], ?_⟩
    rw [List.findIdx?_cons]
    simp [b]
mutual
theorem pg_pat {X : Cx} {ca : Nat → Addr} {W : WX} {P : Pg} {sc : Scope} {fb : Str → Bool} (G : Gd X ca W P sc fb) : ∀ (n : Nat) (e : Expr) (p : Pat), patOf sc fb P.N n e = some p → PG X e (tP X.K p) := by
  intro n
  induction n with
  | zero => intro e p h; cases h
  | succ n ih =>
    intro e p h
    cases e with
    | Name x pos =>
      have h : (match slotOf P.N x with
        | some i => match sc.names.lookup x with
          | some .local => some (Pat.nm i)
          | some .cell => if fb x = true then some (.nm i) else none
          | _ => none
        | none => none) = some p := h
      split at h
      · rename_i i q
        have hi : X.N[i]? = some x := by rw [G.N]; exact slotOf_ok q
        split at h
        · rename_i l
          cases h
          have l' : X.env.scope.names.lookup x = some .local := by rw [G.sc]; exact l
          exact pg_name G.c.nd hi (.inl l') (.inr l')
        · rename_i l
          split at h
          · rename_i f
            cases h
            have l' : X.env.scope.names.lookup x = some .cell := by rw [G.sc]; exact l
            exact pg_name G.c.nd hi (.inr l') (.inl (G.fb x f))
          · cases h
        · cases h
      · cases h
    | Tuple es k pos =>
      have h : (if es.all notStar = true then (patOf.patsOf (patOf sc fb P.N n) es).map .tp else none) = some p := h
      by_cases hs : es.all notStar = true
      · rw [if_pos hs] at h
        have key : ∀ (es : List Expr) (ps : List Pat), es.all notStar = true → patOf.patsOf (patOf sc fb P.N n) es = some ps → PGs X es (tPs X.K ps) ∧ es.length = ps.length := by
          intro es
          induction es with
          | nil =>
            intro ps _ h
            cases h
            refine ⟨?_, rfl⟩
            unfold tPs
            exact pgs_nil
          | cons e es ih2 =>
            intro ps hs h
            rw [List.all_cons, Bool.and_eq_true] at hs
            have h : (match patOf sc fb P.N n e with
              | some p => (patOf.patsOf (patOf sc fb P.N n) es).map (p :: ·)
              | none => none) = some ps := h
            cases q : patOf sc fb P.N n e with
            | none => rw [q] at h; cases h
            | some p =>
              rw [q] at h
              cases q2 : patOf.patsOf (patOf sc fb P.N n) es with
              | none => rw [q2] at h; cases h
              | some qs =>
                rw [q2] at h; cases h
                obtain ⟨a, b⟩ := ih2 qs hs.2 q2
                refine ⟨?_, by simp [b]⟩
                unfold tPs
                exact pgs_cons (ih e p q) a (by rw [asg_one hs.1]; rfl)
        cases q : patOf.patsOf (patOf sc fb P.N n) es with
        | none => rw [q] at h; cases h
        | some ps =>
          rw [q] at h; cases h
          obtain ⟨a, b⟩ := key es ps hs q
          obtain ⟨l1, l2⟩ := asg_len (env := X.env) hs
          unfold tP
          exact pg_tup G.c.calm a (by rw [l1, b]) l2
      · rw [if_neg hs] at h; cases h
    | _ => cases h
end
/-! what is walked -/
inductive IK where
  | pl (f : SI) | wk (any : Bool) (vw : Vw) (f : SE)
def isTup : Expr → Bool
  | .Tuple .. => true
  | _ => false
def notSet : Expr → Bool
  | .Set .. => false
  | _ => true
def bltB (P : Pg) (sc : Scope) (x : Str) : Bool := glB sc x && (slotOf P.N x).isNone && (match P.gl x with
  | .blt => true
  | _ => false)
def callName : Expr → Option (Str × List Expr × Pos × Pos)
  | .Call (.Name x p) es [] pos => some (x, es, p, pos)
  | _ => none
theorem callName_ok {e : Expr} {x : Str} {es : List Expr} {p pos : Pos} (h : callName e = some (x, es, p, pos)) : e = .Call (.Name x p) es [] pos := by
  unfold callName at h
  split at h
  · cases h; rfl
  · cases h
def callAttr : Expr → Option (Expr × Str × List Expr × Pos × Pos)
  | .Call (.Attribute o m apos) es [] pos => some (o, m, es, apos, pos)
  | _ => none
theorem callAttr_ok {e o : Expr} {m : Str} {es : List Expr} {apos pos : Pos} (h : callAttr e = some (o, m, es, apos, pos)) : e = .Call (.Attribute o m apos) es [] pos := by
  unfold callAttr at h
  split at h
  · cases h; rfl
  · cases h
def ikBad : IK := .pl fun _ _ => .bad
def rngArg (P : Pg) (sc : Scope) (e : Expr) : Option Expr := match callName e with
  | some (x, [a], _, _) => if bltB P sc x = true ∧ x = "range" ∧ notStar a = true then some a else none
  | _ => none
def ikB (P : Pg) (sc : Scope) (D : Dn) (tg e : Expr) (x : Str) (es : List Expr) : IK :=
  if x = "range" then (match es with
    | [a] => if notStar a = true then .pl (iEvL (evs [D.e a]) rng1S) else ikBad
    | [a, b] => if notStar a = true ∧ notStar b = true then .pl (iEvL (evs [D.e a, D.e b]) rng2S) else ikBad
    | _ => ikBad)
  else if x = "reversed" then (match es with
    | [a] => if notStar a = true then (match rngArg P sc a with
      | some b => .pl (iEv (D.e b) rrgS)
      | none => .pl (iEv (D.e a) revS)) else ikBad
    | _ => ikBad)
  else if x = "enumerate" then (match es with
    | [a] => if notStar a = true ∧ isTup tg = true then .pl (iEvL (evs [D.e a]) enmAS) else ikBad
    | _ => ikBad)
  else if x = "zip" then (match es with
    | [a, b] => if notStar a = true ∧ notStar b = true ∧ isTup tg = true then .pl (iEvL (evs [D.e a, D.e b]) zipS) else ikBad
    | _ => ikBad)
  else .wk true .keys (D.e e)
def ikOf (P : Pg) (sc : Scope) (D : Dn) (tg e : Expr) : IK := match callName e with
  | some (x, es, _, _) => if bltB P sc x = true then ikB P sc D tg e x es else .wk true .keys (D.e e)
  | none => match callAttr e with
    | some (o, m, [], apos, pos) => if plainBase o = true ∧ (apos.endLine == pos.line) = true then (if m = "items" then (if isTup tg = true then .wk false .items (D.e o) else ikBad) else if m = "values" then .wk false .vals (D.e o) else .wk true .keys (D.e e)) else .wk true .keys (D.e e)
    | _ => .wk true .keys (D.e e)
def IkOk (X : Cx) (ca : Nat → Addr) (W : WX) (tg e : Expr) : IK → Prop
  | .pl f => PI X tg e (tI X.K ca W f)
  | .wk any vw f => PI X tg e (iWk X any vw (tD X.K ca W f))
/-- what is known of the module's names, of classes and functions -/
structure Fac0 (X : Cx) (ca fa : Nat → Addr) (P : Pg) (k : Nat) : Prop where
  fn : ∀ x id n, P.gl x = .fn id n → X.mg x = some (.ref (fa id)) ∧ FnK X k ca fa P.C id n
  mkc : ∀ x cc id n, P.gl x = .mk cc id n → X.mg x = some (.ref (ca cc)) ∧ FnK X k ca fa P.C id n ∧ Mk X.K (ca cc) (fa id)
  con : ∀ x w, P.gl x = .con w → ∃ u v, X.mg x = some u ∧ RelV v u ∧ ∀ ρ H, RV X.K ρ H w v
  blt : ∀ x, P.gl x = .blt → X.mg x = none
  tabk : ∀ x kvs, P.gl x = .tab kvs → TabIs X.K X.w X.mg x kvs
  mt : ∀ c m id n, P.mt c m = some (id, n) → FnK X k ca fa P.C id n ∧ Cls X.K (ca c) ∧ PySem.W.findIn X.K (.ref (ca c)) m = some (some (.ref (fa id)))
  at_ : ∀ c f, P.at_ c f = true → Cls X.K (ca c) ∧ NoAttr X.K (ca c) f
  exf : ExF X.K X.mg ca P.gl P.ex P.xf
structure Fac (X : Cx) (ca fa : Nat → Addr) (P : Pg) (k : Nat) : Prop extends Fac0 X ca fa P k where
  told : ∀ x n hs, P.gl x = .told n hs → ToldK X.prog X.K X.mg P.gl P.xf x n hs ∧ ∃ k', k = k' + 2 ∧ Fac0 X ca fa P.lam k'
section
variable {X : Cx} {ca fa : Nat → Addr} {W : WX} {P : Pg} {sc : Scope} {fb : Str → Bool} {k : Nat} {D : Dn}
theorem blt_ok (G : Gd X ca W P sc fb) (F : Fac X ca fa P k) {x : Str} (h : bltB P sc x = true) : Gl X x ∧ X.mg x = none ∧ x ≠ "__name__" ∧ (x == ("__debug__" : Str)) = false := by
  unfold bltB at h
  rw [Bool.and_eq_true, Bool.and_eq_true] at h
  obtain ⟨a, b, c⟩ := glB_ok h.1.1
  refine ⟨by show X.env.scope.names.lookup x = _; rw [G.sc]; exact a, F.blt x ?_, c, b⟩
  have q := h.2
  split at q
  · assumption
  · cases q
theorem args_ok (HE : ∀ e, PE X e (tD X.K ca W (D.e e))) {es : List Expr} (h : es.all notStar = true) : PA X es (tDL X.K ca W (evs (es.map D.e))) :=
  pa_evs es (es.map D.e) h (by simp) fun i e f h1 h2 => by
    rw [List.getElem?_map, h1] at h2
    cases h2
    exact HE e
theorem Args.of (HE : ∀ e, PE X e (tD X.K ca W (D.e e))) {es : List Expr} (h : es.all notStar = true) : Args X ca W es (evs (es.map D.e)) :=
  ⟨h, args_ok HE h, fun e τ h' => by subst e; rfl⟩
theorem ikBad_ok {tg e : Expr} : IkOk X ca W tg e ikBad := pi_bad
theorem isTup_ok {e : Expr} (h : isTup e = true) : ∃ es k p, e = .Tuple es k p := by
  cases e <;> first | exact ⟨_, _, _, rfl⟩ | cases h
theorem ikB_ok (G : Gd X ca W P sc fb) (F : Fac X ca fa P k) (HE : ∀ e, PE X e (tD X.K ca W (D.e e))) {tg : Expr} {x : Str} {es : List Expr} {p pos : Pos} (h : bltB P sc x = true) : IkOk X ca W tg (.Call (.Name x p) es [] pos) (ikB P sc D tg (.Call (.Name x p) es [] pos) x es) := by
  obtain ⟨g1, g2, g3, g4⟩ := blt_ok G F h
  unfold ikB
  split
  · rename_i e; subst e
    split
    · split
      · rename_i a s
        exact pi_iRng1 g1 g2 s (args_ok (es := [a]) HE (by simp [s]))
      · exact ikBad_ok
    · split
      · rename_i a b s
        exact pi_iRng2 g1 g2 s.1 s.2 (args_ok (es := [a, b]) HE (by simp [s]))
      · exact ikBad_ok
    · exact ikBad_ok
  · split
    · rename_i e; subst e
      split
      · split
        · rename_i a s
          split
          · rename_i b q
            unfold rngArg at q
            split at q
            · rename_i y a' p2 pos2 q2
              split at q
              · rename_i q3
                cases q
                obtain ⟨z1, rfl, z3⟩ := q3
                have := callName_ok q2
                subst this
                obtain ⟨g1', g2', _, _⟩ := blt_ok G F z1
                exact pi_iRRg g1 g2 g1' g2' z3 (HE _)
              · cases q
            · cases q
          · exact pi_iRev g1 g2 s (HE a)
        · exact ikBad_ok
      · exact ikBad_ok
    · split
      · rename_i e; subst e
        split
        · split
          · rename_i a s
            obtain ⟨es', k', p', rfl⟩ := isTup_ok s.2
            exact pi_iEnm g1 g2 s.1 (args_ok (es := [a]) HE (by simp [s.1]))
          · exact ikBad_ok
        · exact ikBad_ok
      · split
        · rename_i e; subst e
          split
          · split
            · rename_i a b s
              obtain ⟨es', k', p', rfl⟩ := isTup_ok s.2.2
              exact pi_iZip g1 g2 s.1 s.2.1 (args_ok (es := [a, b]) HE (by simp [s.1, s.2.1]))
            · exact ikBad_ok
          · exact ikBad_ok
        · exact pi_wkAny (HE _)
theorem ik_ok (G : Gd X ca W P sc fb) (F : Fac X ca fa P k) (HE : ∀ e, PE X e (tD X.K ca W (D.e e))) (tg e : Expr) : IkOk X ca W tg e (ikOf P sc D tg e) := by
  unfold ikOf
  split
  · rename_i x es p pos q
    have := callName_ok q
    subst this
    split
    · rename_i h
      exact ikB_ok G F HE h
    · exact pi_wkAny (HE _)
  · split
    · rename_i o m apos pos q
      have := callAttr_ok q
      subst this
      split
      · rename_i h
        split
        · rename_i em; subst em
          split
          · rename_i t
            obtain ⟨es', k', p', rfl⟩ := isTup_ok t
            exact pi_wkItms (HE o) (base_eq h.1) h.2
          · exact ikBad_ok
        · split
          · rename_i em; subst em
            exact pi_wkVals (HE o) (base_eq h.1) h.2
          · exact pi_wkAny (HE _)
      · exact pi_wkAny (HE _)
    · exact pi_wkAny (HE _)
end
end DD
set_option Elab.async false
set_option linter.all false
set_option maxRecDepth 100000
set_option maxHeartbeats 4000000
/-! DT: the reading of expressions. -/
namespace DD
open PySem PySem.Spec PyProof.Rows L2
variable [Ups]

def bfS (x : Str) : Option (List PV → Hh → Res PV) :=
  if x = "len" then some (one lenF) else if x = "int" then some (one intF) else if x = "str" then some (one strF) else if x = "abs" then some (one absF)
  else if x = "tuple" then some (one tupleF) else if x = "list" then some (one listF) else if x = "sorted" then some (one sortedF) else if x = "dict" then some (one dictF) else if x = "max" then some (one maxF) else none
def kvE (f : Expr → SE) : List (Option Expr) → List Expr → Option (List (SE × SE))
  | [], [] => some []
  | some k :: ks, v :: vs => match kvE f ks vs with
    | some l => some ((f k, f v) :: l)
    | none => none
  | _, _ => none
theorem kvE_ok {X : Cx} {ca : Nat → Addr} {W : WX} {f : Expr → SE} {pos : Pos} (HE : ∀ e, PE X e (tD X.K ca W (f e))) : ∀ {ks : List (Option Expr)} {vs : List Expr} {l : List (SE × SE)}, kvE f ks vs = some l →
    PPs X pos ks vs (l.map fun p => (tD X.K ca W p.1, tD X.K ca W p.2)) ∧ ks.all (·.isSome) = true ∧ ks.length = vs.length
  | [], [], l, h => by cases h; exact ⟨pps_nil, rfl, rfl⟩
  | [], _ :: _, l, h => by cases h
  | none :: _, vs, l, h => by cases vs <;> cases h
  | some k :: ks, [], l, h => by cases h
  | some k :: ks, v :: vs, l, h => by
    have h : (match kvE f ks vs with
      | some l => some ((f k, f v) :: l)
      | none => none) = some l := h
    cases e : kvE f ks vs with
    | none => rw [e] at h; cases h
    | some t =>
      rw [e] at h
      cases h
      obtain ⟨a, b, c⟩ := kvE_ok (pos := pos) HE e
      exact ⟨pps_cons (HE k) (HE v) a, b, congrArg Nat.succ c⟩
def noPar : Arguments → Bool
  | ⟨[], [], none, [], [], none, []⟩ => true
  | _ => false
def lamCall : Expr → Option (Str × Pos × Arguments × Expr × Scope × Pos × Pos)
  | .Call (.Name x p) [.Lambda params body scope lpos] [] pos => some (x, p, params, body, scope, lpos, pos)
  | _ => none
theorem lamCall_ok {e : Expr} {x : Str} {p : Pos} {params : Arguments} {body : Expr} {scope : Scope} {lpos pos : Pos} (h : lamCall e = some (x, p, params, body, scope, lpos, pos)) : e = .Call (.Name x p) [.Lambda params body scope lpos] [] pos := by
  unfold lamCall at h
  split at h
  · cases h; rfl
  · cases h
def dnLam (P : Pg) (sc : Scope) (L : Scope → Dn) (x : Str) (params : Arguments) (body : Expr) (scope : Scope) : SE :=
  if glB sc x = true ∧ P.tab.isSome = true ∧ LamX.lamSB sc scope = true ∧ noPar params = true then (match P.gl x with
    | .told n hs => eTold P.ex n hs ((L scope).e body)
    | _ => eBad) else eBad
/-- sorted(d, key=lambda name: (-len(d[name]), name)) -/
def srtLam : Expr → Option (Str × Scope)
  | .Call (.Name f _) [.Name D _] [⟨some kx, .Lambda ⟨[], [⟨a, none, _⟩], none, [], [], none, []⟩ (.Tuple [.UnaryOp .USub (.Call (.Name ln _) [.Subscript (.Name D' _) (.Name n _) _] [] _) _, .Name n' _] _ _) scope _, _⟩] _ =>
    if f = "sorted" ∧ kx = "key" ∧ a = "name" ∧ ln = "len" ∧ D' = D ∧ n = "name" ∧ n' = "name" then some (D, scope) else none
  | _ => none
theorem srtLam_ok {e : Expr} {D : Str} {scope : Scope} (h : srtLam e = some (D, scope)) : ∃ (p pD kp lpos pos pp p1 p2 p3 p4 p5 p6 p7 p8 : Pos) (k : Nat),
    e = .Call (.Name "sorted" p) [.Name D pD] [⟨some "key", .Lambda (oneP "name" pp) (keyB D "name" k p1 p2 p3 p4 p5 p6 p7 p8) scope lpos, kp⟩] pos := by
  unfold srtLam at h
  split at h
  · split at h
    · rename_i c
      obtain ⟨c1, c2, c3, c4, c5, c6, c7⟩ := c
      cases h
      subst c1 c2 c3 c4 c5 c6 c7
      exact ⟨_, _, _, _, _, _, _, _, _, _, _, _, _, _, _, rfl⟩
    · cases h
  · cases h
def isBltG : Gn → Bool
  | .blt => true
  | _ => false
def dnSrt (P : Pg) (sc : Scope) (Dx : Str) (scope : Scope) : SE :=
  if bltB P sc "sorted" = true ∧ isBltG (P.gl "len") = true ∧ P.tab.isSome = true ∧ keySB sc scope Dx "name" = true ∧ visB sc Dx = true then (match slotOf P.N Dx with
    | some i => eSrtK i
    | none => eBad) else eBad
/-- list(o.values()) -/
def lvals (x : Str) : List Expr → Option (Expr × Pos × Pos)
  | [.Call (.Attribute o m apos) [] [] pos] => if x = "list" ∧ m = "values" then some (o, apos, pos) else none
  | _ => none
theorem lvals_ok {x : Str} {es : List Expr} {o : Expr} {apos pos : Pos} (h : lvals x es = some (o, apos, pos)) : x = "list" ∧ es = [.Call (.Attribute o "values" apos) [] [] pos] := by
  unfold lvals at h
  split at h
  · split at h
    · rename_i c
      obtain ⟨c1, c2⟩ := c
      cases h
      subst c1 c2
      exact ⟨rfl, rfl⟩
    · cases h
  · cases h
def dnCall (P : Pg) (sc : Scope) (D : Dn) (e : Expr) : SE := match callName e with
  | some (x, es, _, _) => if es.all notStar = true ∧ glB sc x = true ∧ (slotOf P.N x).isNone = true then (match P.gl x with
    | .fn id n => eCall P.C id n (evs (es.map D.e))
    | .mk cc id n => eMake P.C cc id n (evs (es.map D.e))
    | .blt => (match lvals x es with
      | some (o, apos, pos) => if plainBase o = true ∧ (apos.endLine == pos.line) = true then eLVals (D.e o) else eBad
      | none => if es.isEmpty = true then eBad else (match bfS x with
        | some f => eB f (evs (es.map D.e))
        | none => eBad))
    | _ => eBad) else eBad
  | none => match callAttr e with
    | some (o, m, es, apos, pos) => if plainBase o = true ∧ es.all notStar = true ∧ es.length < 29 ∧ (apos.endLine == pos.line) = true then (match bmOf m with
      | some b => if m = b.name then eBm b (D.e o) (evs (es.map D.e)) else eBad
      | none => eMeth P.C P.mt m (D.e o) (evs (es.map D.e))) else eBad
    | none => eBad
def eBl (D : Dn) (op : BoolOp) : List Expr → SE
  | [] => eBad
  | [a] => D.e a
  | a :: b :: r => match op with
    | .And => eAnd (D.e a) (eBl D op (b :: r))
    | .Or => eOr (D.e a) (eBl D op (b :: r))
def tBl (D : Dn) (op : BoolOp) : List Expr → ST
  | [] => sTBad
  | [a] => D.t a
  | a :: b :: r => match op with
    | .And => tAndS (D.t a) (tBl D op (b :: r))
    | .Or => tOrS (D.t a) (tBl D op (b :: r))
def eCm (D : Dn) (a : Expr) : List CmpOp → List Expr → SE
  | [op], [b] => if behindInMarks op b = false then eCmp op (D.e a) (D.e b) else eBad
  | [op, op'], [b, c] => if behindInMarks op b = false ∧ behindInMarks op' c = false ∧ lastMarks [op, op'] [b, c] = false then eChain op op' (D.e a) (D.e b) (D.e c) else eBad
  | _, _ => eBad
/-- a table of the module -/
def tabOf (P : Pg) (sc : Scope) : Expr → Option (List (Str × PV))
  | .Name x _ => if (x == ("__debug__" : Str)) = false ∧ (slotOf P.N x).isNone = true ∧ glB sc x = true then (match P.gl x with
    | .tab kvs => some kvs
    | _ => none) else none
  | _ => none
theorem tabOf_ok {P : Pg} {sc : Scope} {e : Expr} {kvs : List (Str × PV)} (h : tabOf P sc e = some kvs) : ∃ x p, e = .Name x p ∧ (x == ("__debug__" : Str)) = false ∧ glB sc x = true ∧ P.gl x = .tab kvs := by
  unfold tabOf at h
  split at h
  · rename_i x p
    split at h
    · rename_i c
      split at h
      · rename_i k q
        cases h
        exact ⟨x, p, rfl, c.1, c.2.2, q⟩
      · cases h
    · cases h
  · cases h
def tabCm (P : Pg) (sc : Scope) : List CmpOp → List Expr → Option (List (Str × PV))
  | [.In], [b] => if behindInMarks .In b = false then tabOf P sc b else none
  | _, _ => none
theorem tabCm_ok {P : Pg} {sc : Scope} {ops : List CmpOp} {bs : List Expr} {kvs : List (Str × PV)} (h : tabCm P sc ops bs = some kvs) : ∃ b, ops = [.In] ∧ bs = [b] ∧ behindInMarks .In b = false ∧ tabOf P sc b = some kvs := by
  unfold tabCm at h
  split at h
  · rename_i b
    split at h
    · rename_i c
      exact ⟨b, rfl, rfl, c, h⟩
    · cases h
  · cases h
def dnCm (P : Pg) (sc : Scope) (D : Dn) (a : Expr) (ops : List CmpOp) (bs : List Expr) : SE := match tabCm P sc ops bs with
  | some kvs => eTabIn kvs (D.e a)
  | none => eCm D a ops bs
def dnIx (P : Pg) (sc : Scope) (D : Dn) (a i : Expr) : SE := match tabOf P sc a with
  | some kvs => eTabIx kvs (D.e i)
  | none => eIx (D.e a) (D.e i)
def ownOf (N : List Str) (scope : Scope) : List (Str × Nat) := scope.names.filterMap fun y => match y.2 with
  | .local => (slotOf N y.1).map fun i => (y.1, i)
  | .cell => (slotOf N y.1).map fun i => (y.1, i)
  | _ => none
def fbC (scope : Scope) (x : Str) : Bool := scope.names.lookup x == some .cell
structure Cm where
  tg : Expr
  iter : Expr
  ifs : List Expr
  p : Pat
def compOf (P : Pg) (sc scope : Scope) : List Comprehension → Option Cm
  | [⟨tg, iter, ifs, a⟩] => if a = 0 ∧ blkC P.N sc scope (ownOf P.N scope) = true ∧ notSet iter = true then (match patOf (relS scope sc) (fbC scope) P.N 9 tg with
    | some p => if p.slots.all (fun i => decide (i ∈ (ownOf P.N scope).map (·.2))) = true then some ⟨tg, iter, ifs, p⟩ else none
    | none => none) else none
  | _ => none
def tIfs (D : Dn) : List Expr → ST
  | [] => fun _ h => .ok true h
  | [c] => D.t c
  | _ => sTBad
def eLcK (n : Nat) (own : List Nat) (p : Pat) (tt : ST) (te : SE) : IK → SE
  | .pl f => eLc n f own p tt te
  | .wk any vw f => eLcA n any vw f own p tt te
def eDcK (n : Nat) (own : List Nat) (p : Pat) (tt : ST) (tk te : SE) : IK → SE
  | .pl f => eDc n f own p tt tk te
  | .wk any vw f => eDcA n any vw f own p tt tk te
def dnE (P : Pg) (sc : Scope) (D : Dn) (sub : Scope → (Str → Bool) → Dn) (L : Scope → Dn) : Expr → SE
  | .Constant c _ _ => match c with
    | .none => eVal .non
    | .bool b => eVal (.bl b)
    | .int i => eVal (.int i)
    | .str x => eVal (.str x)
    | _ => eBad
  | .Name x _ => if (x == ("__debug__" : Str)) = false ∧ (x == ("__classdict__" : Str)) = false then (match slotOf P.N x with
    | some i => if visB sc x = true then eVar i else eBad
    | none => if glB sc x = true then (match P.gl x with
      | .con w => eVal w
      | _ => eBad) else eBad) else eBad
  | .BinOp a op b _ => if binOkS op = true then eBin op (D.e a) (D.e b) else eBad
  | .UnaryOp op a _ => match op with
    | .Not => eNot (D.e a)
    | .USub => eNeg (D.e a)
    | _ => eBad
  | .BoolOp op vs _ => eBl D op vs
  | .Compare a ops bs _ => dnCm P sc D a ops bs
  | .IfExp c a b _ => eIf (D.t c) (D.e a) (D.e b)
  | .Tuple es _ _ => match es with
    | [] => eNul
    | es => if es.all notStar = true then eTup (evs (es.map D.e)) else eBad
  | .List es _ => if es.all notStar = true then eLst (evs (es.map D.e)) else eBad
  | .Dict keys vals _ => match keys, vals with
    | [], [] => eDct
    | keys, vals => if keys ≠ [] ∧ keys.length ≤ 15 then (match kvE D.e keys vals with
      | some l => eDisp l
      | none => eBad) else eBad
  | .Subscript a i _ => match i with
    | .Slice lo hi none _ => eSl (D.e a) (lo.map D.e) (hi.map D.e)
    | .Slice _ _ (some _) _ => eBad
    | i => dnIx P sc D a i
  | .Attribute a f _ => if plainBase a = true then eFld P.at_ f (D.e a) else eBad
  | .ListComp elt gens scope _ => match compOf P sc scope gens with
    | some c => eLcK P.fu ((ownOf P.N scope).map (·.2)) c.p (tIfs (sub (relS scope sc) (fbC scope)) c.ifs) ((sub (relS scope sc) (fbC scope)).e elt) (ikOf P sc D c.tg c.iter)
    | none => eBad
  | .DictComp kx vx gens scope _ => match compOf P sc scope gens with
    | some c => eDcK P.fu ((ownOf P.N scope).map (·.2)) c.p (tIfs (sub (relS scope sc) (fbC scope)) c.ifs) ((sub (relS scope sc) (fbC scope)).e kx) ((sub (relS scope sc) (fbC scope)).e vx) (ikOf P sc D c.tg c.iter)
    | none => eBad
  | .Call f es ks pos => match lamCall (.Call f es ks pos) with
    | some (x, _, params, body, scope, _, _) => dnLam P sc L x params body scope
    | none => match srtLam (.Call f es ks pos) with
      | some (Dx, scope) => dnSrt P sc Dx scope
      | none => dnCall P sc D (.Call f es ks pos)
  | _ => eBad
def dnT (P : Pg) (sc : Scope) (D : Dn) : Expr → ST
  | .UnaryOp .Not a _ => tNotS (D.t a)
  | .BoolOp op vs _ => tBl D op vs
  | .Compare a ops bs _ => tVal (dnCm P sc D a ops bs)
  | .IfExp _ _ _ _ => sTBad
  | e => tTru (D.e e)
def dn : Pg → Nat → Scope → (Str → Bool) → Dn
  | _, 0, _, _ => ⟨fun _ => eBad, fun _ => sTBad⟩
  | P, n + 1, sc, fb => ⟨dnE P sc (dn P n sc fb) (dn P n) (fun s => dn P.lam n s fun _ => false), dnT P sc (dn P n sc fb)⟩
/-! ### soundness -/
section
variable {X : Cx} {ca fa : Nat → Addr} {W : WX} {P : Pg} {sc : Scope} {fb : Str → Bool} {k : Nat} {D : Dn}
theorem gl_ok (G : Gd X ca W P sc fb) {x : Str} (h : glB sc x = true) : Gl X x ∧ (x == ("__debug__" : Str)) = false ∧ x ≠ "__name__" := by
  obtain ⟨a, b, c⟩ := glB_ok h
  exact ⟨by show X.env.scope.names.lookup x = _; rw [G.sc]; exact a, b, c⟩
theorem bf_ok (c : COk X W) {x : Str} {f : List PV → Hh → Res PV} {es : List Expr} {fl : SL} {p pos : Pos} (h : bfS x = some f) (hg : Gl X x) (hm : X.mg x = none) (hn : x ≠ "__name__") (hdb : (x == ("__debug__" : Str)) = false) (h0 : es ≠ []) (A : Args X ca W es fl) :
    PE X (.Call (.Name x p) es [] pos) (tD X.K ca W (eB f fl)) := by
  unfold bfS at h
  split at h
  · rename_i e; subst e; cases h
    exact pe_eB (sound_one len_sound) call_lenA hg hm (by rfl) hn hdb h0 A
  · split at h
    · rename_i e; subst e; cases h
      exact pe_eBT (sound_one int_sound) call_intA hg hm (by rfl) hn hdb h0 A
    · split at h
      · rename_i e; subst e; cases h
        exact pe_eBT (sound_one str_sound) call_strA hg hm (by rfl) hn hdb h0 A
      · split at h
        · rename_i e; subst e; cases h
          exact pe_eB (sound_one abs_sound) call_absA hg hm (by rfl) hn hdb h0 A
        · split at h
          · rename_i e; subst e; cases h
            exact pe_eBT (sound_one tuple_sound) call_tupA hg hm (by rfl) hn hdb h0 A
          · split at h
            · rename_i e; subst e; cases h
              exact pe_eBT (sound_one list_sound) (call_lstA c.calm) hg hm (by rfl) hn hdb h0 A
            · split at h
              · rename_i e; subst e; cases h
                exact pe_eB (sound_one sorted_sound) (call_srtA c.calm) hg hm (by rfl) hn hdb h0 A
              · split at h
                · rename_i e; subst e; cases h
                  exact pe_eBT (sound_one dict_sound) (call_dctA c.calm) hg hm (by rfl) hn hdb h0 A
                · split at h
                  · rename_i e; subst e; cases h
                    exact pe_eB (sound_one max_sound) (call_maxA c.calm) hg hm (by rfl) hn hdb h0 A
                  · cases h
theorem call_ok (G : Gd X ca W P sc fb) (F : Fac X ca fa P k) (hr : Room (k + 1) X.A) (HE : ∀ e, PE X e (tD X.K ca W (D.e e))) (e : Expr) : PE X e (tD X.K ca W (dnCall P sc D e)) := by
  unfold dnCall
  split
  · rename_i x es p pos q
    have := callName_ok q
    subst this
    split
    · rename_i h
      obtain ⟨h1, h2, h3⟩ := h
      obtain ⟨g1, g2, g3⟩ := gl_ok G h2
      have A := Args.of HE h1
      split
      · rename_i id n q
        obtain ⟨m, K⟩ := F.fn x id n q
        exact pe_eCall G.c K (hr.mono (Nat.le_succ k)) g1 m g2 A
      · rename_i cc id n q
        obtain ⟨m, K, M⟩ := F.mkc x cc id n q
        exact pe_eMake G.c K M hr g1 m g2 A
      · rename_i qgl
        split
        · rename_i o apos cpos ql
          obtain ⟨e1, e2⟩ := lvals_ok ql
          subst e1 e2
          split
          · rename_i hp
            exact pe_eLVals G.c.calm (HE o) g1 (F.blt "list" qgl) (base_eq hp.1) hp.2
          · exact pe_bad
        · split
          · exact pe_bad
          · rename_i h0
            split
            · rename_i f qf
              exact bf_ok G.c qf g1 (F.blt x qgl) g3 g2 (fun z => h0 (by rw [z]; rfl)) A
            · exact pe_bad
      · exact pe_bad
    · exact pe_bad
  · split
    · rename_i o m es apos pos q
      have := callAttr_ok q
      subst this
      split
      · rename_i h
        obtain ⟨h1, h2, h3, h4⟩ := h
        have A := Args.of HE h2
        split
        · rename_i b qb
          split
          · rename_i hm
            exact pe_eBm qb hm h1 h3 h4 (bm_all G.c b) (HE o) A
          · exact pe_bad
        · exact pe_eMeth G.c (hr.mono (Nat.le_succ k)) h1 (by omega) h4 (fun c id n => F.mt c m id n) (HE o) A
      · exact pe_bad
    · exact pe_bad
theorem eBl_ok {pos : Pos} (HE : ∀ e, PE X e (tD X.K ca W (D.e e))) (op : BoolOp) : ∀ vs, PE X (.BoolOp op vs pos) (tD X.K ca W (eBl D op vs))
  | [] => pe_bad
  | [a] => pe_one (HE a)
  | a :: b :: r => by
    have ih := eBl_ok (pos := pos) HE op (b :: r)
    cases op with
    | And => exact pe_eAnd (HE a) ih
    | Or => exact pe_eOr (HE a) ih
theorem tBl_ok {pos : Pos} (HT : ∀ e, PT X e (tDT X.K ca W (D.t e))) (op : BoolOp) : ∀ vs, PW X (.BoolOp op vs pos) (tDT X.K ca W (tBl D op vs))
  | [] => pw_bad
  | [a] => by
    cases op with
    | And => exact pw_and1 (HT a)
    | Or => exact pw_or1 (HT a)
  | a :: b :: r => by
    have ih := tBl_ok (pos := pos) HT op (b :: r)
    cases op with
    | And => exact pw_tAndS (HT a) ih
    | Or => exact pw_tOrS (HT a) ih
theorem eCm_ok {pos : Pos} (c : COk X W) (HE : ∀ e, PE X e (tD X.K ca W (D.e e))) (a : Expr) (ops : List CmpOp) (bs : List Expr) : PE X (.Compare a ops bs pos) (tD X.K ca W (eCm D a ops bs)) := by
  unfold eCm
  split
  · split
    · rename_i op b h
      exact pe_eCmp c op h (HE a) (HE b)
    · exact pe_bad
  · split
    · rename_i op op' b c' h
      exact pe_eChain c op op' h.1 h.2.1 (HE a) (HE b) (HE c') fun x y z => pe_chain (op_cmp c.hu op) (op_cmp c.hu op') x y z h.2.2
    · exact pe_bad
  · exact pe_bad
theorem dnCm_ok {pos : Pos} (G : Gd X ca W P sc fb) (F : Fac X ca fa P k) (HE : ∀ e, PE X e (tD X.K ca W (D.e e))) (a : Expr) (ops : List CmpOp) (bs : List Expr) : PE X (.Compare a ops bs pos) (tD X.K ca W (dnCm P sc D a ops bs)) := by
  unfold dnCm
  split
  · rename_i kvs q
    obtain ⟨b, rfl, rfl, hm, q⟩ := tabCm_ok q
    obtain ⟨x, p, rfl, hd, hg, hx⟩ := tabOf_ok q
    exact pe_eTabIn (F.tabk x kvs hx) (gl_ok G hg).1 hd hm (HE a)
  · exact eCm_ok G.c HE a ops bs
theorem dnIx_ok {pos : Pos} (G : Gd X ca W P sc fb) (F : Fac X ca fa P k) (HE : ∀ e, PE X e (tD X.K ca W (D.e e))) (a i : Expr) (hs : PlainIx i) : PE X (.Subscript a i pos) (tD X.K ca W (dnIx P sc D a i)) := by
  unfold dnIx
  split
  · rename_i kvs q
    obtain ⟨x, p, rfl, hd, hg, hx⟩ := tabOf_ok q
    exact pe_eTabIx (F.tabk x kvs hx) (gl_ok G hg).1 hd hs (HE i)
  · exact pe_eIx G.c hs (HE a) (HE i)
theorem tVal_bad : tDT X.K ca W (tVal eBad) = tDT X.K ca W sTBad := rfl
theorem tCm_ok {pos : Pos} (c : COk X W) (HE : ∀ e, PE X e (tD X.K ca W (D.e e))) (a : Expr) (ops : List CmpOp) (bs : List Expr) : PT X (.Compare a ops bs pos) (tDT X.K ca W (tVal (eCm D a ops bs))) := by
  unfold eCm
  split
  · split
    · rename_i op b h
      exact pt_eCmp c op h (HE a) (HE b)
    · exact pt_bad
  · split
    · rename_i op op' b c' h
      exact pt_eChain c op op' (HE a) (HE b) (HE c') h.2.2
    · exact pt_bad
  · exact pt_bad
theorem tDnCm_ok {pos : Pos} (G : Gd X ca W P sc fb) (F : Fac X ca fa P k) (HE : ∀ e, PE X e (tD X.K ca W (D.e e))) (a : Expr) (ops : List CmpOp) (bs : List Expr) : PT X (.Compare a ops bs pos) (tDT X.K ca W (tVal (dnCm P sc D a ops bs))) := by
  unfold dnCm
  split
  · rename_i kvs q
    obtain ⟨b, rfl, rfl, hm, q⟩ := tabCm_ok q
    obtain ⟨x, p, rfl, hd, hg, hx⟩ := tabOf_ok q
    exact pt_eTabIn (F.tabk x kvs hx) (gl_ok G hg).1 hd hm (HE a)
  · exact tCm_ok G.c HE a ops bs
theorem own_ok {N : List Str} {scope : Scope} : True := trivial
/-- a block of a comprehension -/
theorem Gd.blk (G : Gd X ca W P sc fb) (s : Shared) (H : Hp) (scope : Scope) (C : Addr) (cl : List (Str × Addr)) (fp : List Addr) : Gd (X.blk s H scope (compEnvC scope cl C X.env) fp) ca W0 P (relS scope sc) (fbC scope) where
  c := ⟨G.c.nd, G.c.calm, G.c.hu, takes0⟩
  sc := by rw [← G.sc]; rfl
  N := G.N
  fb := fun x h => h
  tab := G.tab
theorem FnK.to {Y : Cx} {C : CT} {id n : Nat} (h : FnK X k ca fa C id n) (e1 : Y.prog = X.prog) (e2 : Y.w = X.w) (e3 : Y.K = X.K) (e4 : Y.mg = X.mg) (e5 : Y.base = X.base) : FnK Y k ca fa C id n := by
  obtain ⟨a, b, c⟩ := h
  exact ⟨by rw [e1, e2, e3, e4, e5]; exact a, by rw [e3]; exact b, by rw [e3]; exact c⟩
theorem Fac0.to {Y : Cx} (F : Fac0 X ca fa P k) (e1 : Y.prog = X.prog) (e2 : Y.w = X.w) (e3 : Y.K = X.K) (e4 : Y.mg = X.mg) (e5 : Y.base = X.base) : Fac0 Y ca fa P k where
  fn := fun x id n h => ⟨by rw [e4]; exact (F.fn x id n h).1, (F.fn x id n h).2.to e1 e2 e3 e4 e5⟩
  mkc := fun x cc id n h => ⟨by rw [e4]; exact (F.mkc x cc id n h).1, (F.mkc x cc id n h).2.1.to e1 e2 e3 e4 e5, by rw [e3]; exact (F.mkc x cc id n h).2.2⟩
  con := fun x w h => by rw [e3, e4]; exact F.con x w h
  blt := fun x h => by rw [e4]; exact F.blt x h
  tabk := fun x kvs h => by rw [e2, e3, e4]; exact F.tabk x kvs h
  mt := fun c m id n h => ⟨(F.mt c m id n h).1.to e1 e2 e3 e4 e5, by rw [e3]; exact (F.mt c m id n h).2⟩
  at_ := fun c f h => by rw [e3]; exact F.at_ c f h
  exf := by rw [e3, e4]; exact F.exf
theorem Fac.to {Y : Cx} (F : Fac X ca fa P k) (e1 : Y.prog = X.prog) (e2 : Y.w = X.w) (e3 : Y.K = X.K) (e4 : Y.mg = X.mg) (e5 : Y.base = X.base) : Fac Y ca fa P k where
  toFac0 := F.toFac0.to e1 e2 e3 e4 e5
  told := fun x n hs h => by
    obtain ⟨a, k', b, c⟩ := F.told x n hs h
    exact ⟨by rw [e1, e3, e4]; exact a, k', b, c.to e1 e2 e3 e4 e5⟩
theorem lam_gl {P : Pg} {x : Str} {n : Nat} {hs : List Hn} : P.lam.gl x ≠ .told n hs := by
  show (match P.gl x with
    | .told _ _ => Gn.no
    | g => g) ≠ _
  cases P.gl x <;> intro h <;> cases h
theorem noPar_ok {p : Arguments} (h : noPar p = true) : p = ⟨[], [], none, [], [], none, []⟩ := by
  unfold noPar at h
  split at h
  · rfl
  · cases h
theorem srt_ok (G : Gd X ca W P sc fb) (F : Fac X ca fa P k) (hr : Room (k + 1) X.A) {Dx : Str} {scope : Scope} {p pD kp lpos pos pp p1 p2 p3 p4 p5 p6 p7 p8 : Pos} {k0 : Nat} :
    PE X (.Call (.Name "sorted" p) [.Name Dx pD] [⟨some "key", .Lambda (oneP "name" pp) (keyB Dx "name" k0 p1 p2 p3 p4 p5 p6 p7 p8) scope lpos, kp⟩] pos) (tD X.K ca W (dnSrt P sc Dx scope)) := by
  unfold dnSrt
  split
  · rename_i c
    obtain ⟨c1, c2, c3, c4, c5⟩ := c
    split
    · rename_i i hsl
      obtain ⟨ti, hti⟩ := Option.isSome_iff_exists.mp c3
      obtain ⟨q, c, t1, t2, t3, t4, t5, t6⟩ := G.tab ti hti
      obtain ⟨g1, g2, g3, g4⟩ := blt_ok G F c1
      have hml : X.mg ("len" : Str) = none := F.blt _ (by
        unfold isBltG at c2
        split at c2
        · assumption
        · cases c2)
      exact pe_eSrtK (ti := ti) (q := q) (c := c) g1 g2 (by rw [G.N]; exact slotOf_ok hsl) (by rw [G.sc]; exact visB_ok c5) hml (by rw [G.sc]; exact keyS_by c4) rfl t6 t5 t1 t2 t3 t4 (hr.mono (Nat.zero_le _)) rfl (fun _ _ _ _ _ _ => rfl)
    · exact pe_bad
  · exact pe_bad
theorem ifs_ok {ifs : List Expr} (HT : ∀ e, PT X e (tDT X.K ca W (D.t e))) : PTs X ifs (tDT X.K ca W (tIfs D ifs)) := by
  unfold tIfs
  split
  · exact ⟨fun pins s σ H Q I ⟨ρ, τ, h, R, T, x⟩ => pts_nil.run pins s σ H Q I (x ρ H true (Ext.refl _ _) R rfl)⟩
  · exact pts_one (HT _)
  · exact ⟨fun _ _ _ _ _ _ ⟨_, _, _, _, _, x⟩ => x.elim⟩
theorem comp_inv {scope : Scope} {gens : List Comprehension} {c : Cm} (h : compOf P sc scope gens = some c) : gens = [⟨c.tg, c.iter, c.ifs, 0⟩] ∧ blkC P.N sc scope (ownOf P.N scope) = true ∧ notSet c.iter = true ∧ patOf (relS scope sc) (fbC scope) P.N 9 c.tg = some c.p ∧ ∀ i ∈ c.p.slots, i ∈ (ownOf P.N scope).map (·.2) := by
  unfold compOf at h
  split at h
  · rename_i tg iter ifs a
    split at h
    · rename_i q
      split at h
      · rename_i p qp
        split at h
        · rename_i l
          cases h
          rw [List.all_eq_true] at l
          obtain ⟨rfl, q2, q3⟩ := q
          exact ⟨rfl, q2, q3, qp, fun i hi => of_decide_eq_true (l i hi)⟩
        · cases h
      · cases h
    · cases h
  · cases h
theorem folded {e : Expr} {env : Env} (h : notSet e = true) (x : Value) : foldedSetIterable e env x = pure x := by
  cases e <;> first | rfl | cases h
end
theorem dn_ok' {ca fa : Nat → Addr} : ∀ (n : Nat) (P : Pg) (k : Nat) (sc : Scope) (fb : Str → Bool) (X : Cx) (W : WX), Gd X ca W P sc fb → Fac X ca fa P k → Room (k + 1) X.A →
    (∀ e, PE X e (tD X.K ca W ((dn P n sc fb).e e))) ∧ ∀ e, PT X e (tDT X.K ca W ((dn P n sc fb).t e))
  | 0, P, k, sc, fb, X, W, G, F, hr => ⟨fun _ => pe_bad, fun _ => pt_bad⟩
  | n + 1, P, k, sc, fb, X, W, G, F, hr => by
    obtain ⟨HE, HT⟩ := dn_ok' (ca := ca) (fa := fa) n P k sc fb X W G F hr
    have lam : ∀ (x : Str) (params : Arguments) (body : Expr) (scope : Scope) (p lpos pos : Pos), PE X (.Call (.Name x p) [.Lambda params body scope lpos] [] pos) (tD X.K ca W (dnLam P sc (fun s => dn P.lam n s fun _ => false) x params body scope)) := by
      intro x params body scope p lpos pos
      unfold dnLam
      split
      · rename_i c
        obtain ⟨c1, c2, c3, c4⟩ := c
        split
        · rename_i m hs hx
          obtain ⟨T, k', ek, F'⟩ := F.told x m hs hx
          obtain ⟨i, hi⟩ := Option.isSome_iff_exists.mp c2
          obtain ⟨q, c, t1, t2, t3, t4, t5, t6⟩ := G.tab i hi
          obtain ⟨g1, g2, g3⟩ := gl_ok G c1
          obtain rfl := noPar_ok c4
          refine pe_eTold (k0 := k' + 1) T F.exf g1 g2 t1 t2 t3 t4 t5 t6 (by rw [ek] at hr; exact hr) (LamX.lamS_by (by rw [G.sc]; exact c3)) rfl (fun _ _ _ _ _ => rfl) fun A outer s H E f c' hr' => ?_
          have G' : Gd (LamX.lamCx X A outer s H E scope f c') ca (fun cls d _ H => E cls d H) P.lam scope (fun _ => false) := {
            c := ⟨G.c.nd, rfl, by have := hr'.un; show (A.deeper (LamX.lamEnv X scope s.heap.objs.size f c')).units + 65 < cLine; omega, takes_of (E := E) rfl rfl rfl rfl⟩
            sc := rfl
            N := G.N
            fb := fun x h => by cases h
            tab := fun i h => by cases h }
          have Fl : Fac (LamX.lamCx X A outer s H E scope f c') ca fa P.lam k' := { toFac0 := F'.to rfl rfl rfl rfl rfl, told := fun x n hs h => absurd h lam_gl }
          exact (dn_ok' (ca := ca) (fa := fa) n P.lam k' scope (fun _ => false) (LamX.lamCx X A outer s H E scope f c') (fun cls d _ H => E cls d H) G' Fl hr').1 body
        · exact pe_bad
      · exact pe_bad
    have sub : ∀ (scope : Scope) (s : Shared) (H : Hp) (C : Addr) (cl : List (Str × Addr)) (fp : List Addr), (∀ e, PE (X.blk s H scope (compEnvC scope cl C X.env) fp) e (tD X.K ca W0 ((dn P n (relS scope sc) (fbC scope)).e e))) ∧
        ∀ e, PT (X.blk s H scope (compEnvC scope cl C X.env) fp) e (tDT X.K ca W0 ((dn P n (relS scope sc) (fbC scope)).t e)) := fun scope s H C cl fp =>
      dn_ok' (ca := ca) (fa := fa) n P k (relS scope sc) (fbC scope) (X.blk s H scope (compEnvC scope cl C X.env) fp) W0 (G.blk s H scope C cl fp) (F.to rfl rfl rfl rfl rfl) hr
    have lc : ∀ {elt : Expr} {scope : Scope} {gens : List Comprehension} {pos : Pos} {c : Cm}, compOf P sc scope gens = some c → PE X (.ListComp elt gens scope pos) (tD X.K ca W (eLcK P.fu ((ownOf P.N scope).map (·.2)) c.p (tIfs (dn P n (relS scope sc) (fbC scope)) c.ifs) ((dn P n (relS scope sc) (fbC scope)).e elt) (ikOf P sc (dn P n sc fb) c.tg c.iter))) := by
      intro elt scope gens pos c h
      obtain ⟨rfl, h2, h3, h4, h5⟩ := comp_inv h
      have ok : BlkOk X.N X.env.scope scope (ownOf P.N scope) := by rw [G.N, G.sc]; exact blkOk_by h2
      have ik := ik_ok G F HE c.tg c.iter
      cases z : ikOf P sc (dn P n sc fb) c.tg c.iter with
      | pl f =>
        rw [z] at ik
        exact pe_eLc P.fu G.c.calm G.c.nd ik ok h5 (fun s H C cl fp => pg_pat (G.blk s H scope C cl fp) 9 _ _ h4) (fun s H C cl fp => ifs_ok (sub scope s H C cl fp).2) (fun s H C cl fp => (sub scope s H C cl fp).1 elt) (folded h3)
      | wk any vw f =>
        rw [z] at ik
        exact pe_eLcA P.fu G.c.calm G.c.nd ik ok h5 (fun s H C cl fp => pg_pat (G.blk s H scope C cl fp) 9 _ _ h4) (fun s H C cl fp => ifs_ok (sub scope s H C cl fp).2) (fun s H C cl fp => (sub scope s H C cl fp).1 elt) (folded h3)
    have dc : ∀ {kx vx : Expr} {scope : Scope} {gens : List Comprehension} {pos : Pos} {c : Cm}, compOf P sc scope gens = some c → PE X (.DictComp kx vx gens scope pos) (tD X.K ca W (eDcK P.fu ((ownOf P.N scope).map (·.2)) c.p (tIfs (dn P n (relS scope sc) (fbC scope)) c.ifs) ((dn P n (relS scope sc) (fbC scope)).e kx) ((dn P n (relS scope sc) (fbC scope)).e vx) (ikOf P sc (dn P n sc fb) c.tg c.iter))) := by
      intro kx vx scope gens pos c h
      obtain ⟨rfl, h2, h3, h4, h5⟩ := comp_inv h
      have ok : BlkOk X.N X.env.scope scope (ownOf P.N scope) := by rw [G.N, G.sc]; exact blkOk_by h2
      have ik := ik_ok G F HE c.tg c.iter
      cases z : ikOf P sc (dn P n sc fb) c.tg c.iter with
      | pl f =>
        rw [z] at ik
        exact pe_eDc P.fu G.c.calm G.c.nd ik ok h5 (fun s H C cl fp => pg_pat (G.blk s H scope C cl fp) 9 _ _ h4) (fun s H C cl fp => ifs_ok (sub scope s H C cl fp).2) (fun s H C cl fp => (sub scope s H C cl fp).1 kx) (fun s H C cl fp => (sub scope s H C cl fp).1 vx) (folded h3)
      | wk any vw f =>
        rw [z] at ik
        exact pe_eDcA P.fu G.c.calm G.c.nd ik ok h5 (fun s H C cl fp => pg_pat (G.blk s H scope C cl fp) 9 _ _ h4) (fun s H C cl fp => ifs_ok (sub scope s H C cl fp).2) (fun s H C cl fp => (sub scope s H C cl fp).1 kx) (fun s H C cl fp => (sub scope s H C cl fp).1 vx) (folded h3)
    refine ⟨fun e => ?_, fun e => ?_⟩
    · show PE X e (tD X.K ca W (dnE P sc (dn P n sc fb) (dn P n) (fun s => dn P.lam n s fun _ => false) e))
      cases e with
      | Constant c j pos =>
        cases c with
        | none => exact pe_eVal pe_non fun ρ H => (RV.non_ _).mpr rfl
        | bool b => exact pe_eVal pe_bl fun ρ H => (RV.bl_ _ _).mpr rfl
        | int i => exact pe_eVal pe_int fun ρ H => (RV.int_ _ _).mpr rfl
        | str x => exact pe_eVal pe_str fun ρ H => (RV.str_ _ _).mpr rfl
        | _ => exact pe_bad
      | Name x pos =>
        simp only [dnE]
        split
        · rename_i h
          split
          · rename_i i q
            split
            · rename_i v
              exact pe_eVar (by rw [G.N]; exact slotOf_ok q) (by rw [G.sc]; exact visB_ok v) h.1 h.2
            · exact pe_bad
          · split
            · rename_i g
              split
              · rename_i w q
                obtain ⟨u, v, m, r, rv⟩ := F.con x w q
                exact pe_eVal (pe_glob (gl_ok G g).1 m r h.1) rv
              · exact pe_bad
            · exact pe_bad
        · exact pe_bad
      | BinOp a op b pos =>
        simp only [dnE]
        split
        · rename_i h; exact pe_eBin op h (HE a) (HE b)
        · exact pe_bad
      | UnaryOp op a pos =>
        cases op with
        | Not => exact pe_eNot (HE a)
        | USub => exact pe_eNeg (HE a)
        | _ => exact pe_bad
      | BoolOp op vs pos => exact eBl_ok HE op vs
      | Compare a ops bs pos => exact dnCm_ok G F HE a ops bs
      | IfExp c a b pos => exact pe_eIf (HT c) (HE a) (HE b)
      | Tuple es j pos =>
        cases es with
        | nil => exact pe_eNul
        | cons e0 es =>
        simp only [dnE]
        split
        · rename_i h; exact pe_eTup (args_ok HE h)
        · exact pe_bad
      | List es pos =>
        simp only [dnE]
        split
        · rename_i h; exact pe_eLst (args_ok HE h)
        · exact pe_bad
      | Dict keys vals pos =>
        simp only [dnE]
        split
        · exact pe_eDct
        · split
          · rename_i h
            split
            · rename_i l q
              obtain ⟨a, b, c⟩ := kvE_ok (pos := pos) HE q
              exact pe_eDisp a b c h.1 h.2
            · exact pe_bad
          · exact pe_bad
      | Subscript a i pos =>
        cases i with
        | Slice lo hi st p2 =>
          cases st with
          | none =>
            have po : ∀ o : Option Expr, PO X o (tO X.K ca W (o.map (dn P n sc fb).e)) := fun o => by
              cases o with
              | none => exact po_no
              | some e => exact po_yes (HE e)
            exact pe_eSl (HE a) (po lo) (po hi)
          | some _ => exact pe_bad
        | _ => exact dnIx_ok G F HE a _ (fun _ _ => rfl)
      | Attribute a f pos =>
        simp only [dnE]
        split
        · rename_i h; exact pe_eFld (base_eq h) (fun c q => F.at_ c f q) (HE a)
        · exact pe_bad
      | ListComp elt gens scope pos =>
        simp only [dnE]
        split
        · rename_i c h; exact lc h
        · exact pe_bad
      | DictComp kx vx gens scope pos =>
        simp only [dnE]
        split
        · rename_i c h; exact dc h
        · exact pe_bad
      | Call f es ks pos =>
        simp only [dnE]
        split
        · rename_i x p params body scope lpos pos' h
          have e := lamCall_ok h
          rw [e]
          exact lam x params body scope p lpos pos'
        · split
          · rename_i Dx scope h
            obtain ⟨p, pD, kp, lpos, pos', pp, p1, p2, p3, p4, p5, p6, p7, p8, k0, e⟩ := srtLam_ok h
            rw [e]
            exact srt_ok G F hr
          · exact call_ok G F hr HE _
      | _ => exact pe_bad
    · show PT X e (tDT X.K ca W (dnT P sc (dn P n sc fb) e))
      cases e with
      | UnaryOp op a pos =>
        cases op with
        | Not => exact pt_tNotS (HT a)
        | _ => exact pt_tTru (HE _) fun _ => rfl
      | BoolOp op vs pos => exact (tBl_ok HT op vs).pt
      | Compare a ops bs pos => exact tDnCm_ok G F HE a ops bs
      | IfExp c a b pos => exact pt_bad
      | _ => exact pt_tTru (HE _) fun _ => rfl
theorem dn_ok {ca fa : Nat → Addr} {P : Pg} {k : Nat} (n : Nat) (sc : Scope) (fb : Str → Bool) (X : Cx) (W : WX) (G : Gd X ca W P sc fb) (F : Fac X ca fa P k) (hr : Room (k + 1) X.A) :
    (∀ e, PE X e (tD X.K ca W ((dn P n sc fb).e e))) ∧ ∀ e, PT X e (tDT X.K ca W ((dn P n sc fb).t e)) := dn_ok' (ca := ca) (fa := fa) n P k sc fb X W G F hr
end DD
set_option Elab.async false
set_option linter.all false
set_option maxRecDepth 100000
set_option maxHeartbeats 4000000
/-! DU: statements read; stores of comprehensions. -/
namespace DD
open PySem PySem.Spec PyProof.Rows L2
variable [Ups]

section
variable {X : Cx}
/-- name = {..} on one line, the name a local -/
theorem ps_setDc {i : Nat} {y : Str} {py : Pos} {kx vx tg iter : Expr} {ifs : List Expr} {scope : Scope} {own : List (Str × Nat)} {pos spos : Pos} {wi : TI} {g : TG} {tt : TT} {tk tv : TE} (hc : X.calm = true) (hN : X.N.Nodup) (hy : X.N[i]? = some y) (hyl : X.env.scope.names.lookup y = some .local)
    (hsw : swapsWith (.DictComp kx vx [⟨tg, iter, ifs, 0⟩] scope pos) (some (.Name y py)) spos.line X.env = pure true) (hi : PI X tg iter wi) (ok : BlkOk X.N X.env.scope scope own)
    (hg : ∀ (s : Shared) (H : Hp) (C : Addr) (cl : List (Str × Addr)) (fp : List Addr), PG (X.blk s H scope (compEnvC scope cl C X.env) fp) tg g) (ht : ∀ (s : Shared) (H : Hp) (C : Addr) (cl : List (Str × Addr)) (fp : List Addr), PTs (X.blk s H scope (compEnvC scope cl C X.env) fp) ifs tt)
    (hk : ∀ (s : Shared) (H : Hp) (C : Addr) (cl : List (Str × Addr)) (fp : List Addr), PE (X.blk s H scope (compEnvC scope cl C X.env) fp) kx tk)
    (he : ∀ (s : Shared) (H : Hp) (C : Addr) (cl : List (Str × Addr)) (fp : List Addr), PE (X.blk s H scope (compEnvC scope cl C X.env) fp) vx tv) (hs : ∀ x, foldedSetIterable iter X.env x = pure x) :
    PS X (.Assign [.Name y py] (.DictComp kx vx [⟨tg, iter, ifs, 0⟩] scope pos) spos) (tAsg (tDc wi g tt tk tv (own.map (·.2))) (gName i)) := by
  refine ⟨fun pins s σ H D I h => ?_⟩
  rw [exec_Assign_Name_used _ _ _ _ hsw]
  refine wpAny_bind (wpAny_standAt (wpAny_bind ?_))
  show wpAny _ X.A (do let _ ← comprehension (.DictComp kx vx [⟨tg, iter, ifs, 0⟩] scope pos) scope X.env (firstIterPos [⟨tg, iter, ifs, 0⟩] pos) newDict false (eval iter X.env) (some (assign (.Name y py) X.env))) _ _ s
  have h : tDc wi g tt tk tv (own.map (·.2)) σ H (fun x H1 => gName i x σ H1 D.nx) := h
  refine wpAny_bind (thn (dc_core (Qf := fun _ s' => SP X pins D .next s') hc hN I hi ok hg ht hk he hs h fun L C s' m H' I' q hn f => ?_) fun _ s' hq => wpAny_pure (wpAny_pure hq))
  show wpAny _ _ (assign (.Name y py) X.env (.ref L)) _ _ _
  refine wpAny_assign_Name (store_ok2 (v := V.ref L) I' hN hy (.inl hyl) rfl (fun s2 I2 ⟨a, sb, ha⟩ => ?_) (.inr hyl))
  obtain ⟨f0, f1, f2, f3, f4, f5⟩ := f
  have haC : C ≠ a := by
    rcases ha with z | z
    · rw [z]; exact f1
    · exact fun e => f4 y a z e.symm
  refine ⟨m, hn.sameBut sb haC, fun h3 sb3 => ?_⟩
  exact ⟨_, H', I2.turned (t' := s2.toks) (fun b o hb e => (sb3.2 b hb).trans e) f0 f1 f3 f4 f5, q⟩
theorem swD_true {kx vx : Expr} {gs : List Comprehension} {scope : Scope} {pos py : Pos} {y : Str} {l : Nat} {env : Env} (hk : env.scope.kind = .function) (hy : env.scope.names.lookup y = some .local) (hl : (py.line == pos.line) = true)
    (ha : (scope.names.any fun (n, k) => n == y && (k == .local || k == .cell)) = false) : swapsWith (.DictComp kx vx gs scope pos) (some (.Name y py)) l env = pure true := by
  have ky : env.kindOf y = some .local := hy
  have hb : env.blockKind = .function := by unfold Env.blockKind; rw [hk]; rfl
  unfold swapsWith
  simp only [hb, ky, ha, Expr.pos, hl]
  rfl
end
section
variable {X : Cx} {ca : Nat → Addr} {W : WX} {f : SI} {p : Pat} {tt : ST} {te tk : SE} {kx vx tg iter : Expr} {ifs : List Expr} {scope : Scope} {own : List (Str × Nat)} {pos : Pos} {i : Nat} {y : Str} {py spos : Pos}
theorem asg_wp {D : Ends} {g : SE} {σ : L2.St} {H : Hp} {ρ : List Addr} {τ : Env'} {h : Hh} (R : Rel X.K ca ρ h H) (T : EnvR X.K ρ H τ σ) (x : WpS X.K ca W ρ H D (sAsg' g (gN i) τ h)) : WpQ X.K ca (XW X.K ca W σ) ρ H (fun y H1 => gName i y σ H1 D.nx) (g τ h) :=
  (Wp.st (RA := RV X.K) (k := fun w h => (gN i w τ h).only) T R x).imp fun w h1 ρ1 H1 v e R1 r x1 => x1 ρ1 H1 _ (Ext.refl _ _) R1 ((EnvR.ext R e T).set r i)
theorem ps_eDc (n : Nat) (hc : X.calm = true) (hN : X.N.Nodup) (hy : X.N[i]? = some y) (hyl : X.env.scope.names.lookup y = some .local)
    (hsw : swapsWith (.DictComp kx vx [⟨tg, iter, ifs, 0⟩] scope pos) (some (.Name y py)) spos.line X.env = pure true) (hi : PI X tg iter (tI X.K ca W f)) (ok : BlkOk X.N X.env.scope scope own) (hp : ∀ i ∈ p.slots, i ∈ own.map (·.2))
    (hg : ∀ (s : Shared) (H : Hp) (C : Addr) (cl : List (Str × Addr)) (fp : List Addr), PG (X.blk s H scope (compEnvC scope cl C X.env) fp) tg (tP X.K p)) (ht : ∀ (s : Shared) (H : Hp) (C : Addr) (cl : List (Str × Addr)) (fp : List Addr), PTs (X.blk s H scope (compEnvC scope cl C X.env) fp) ifs (tDT X.K ca W0 tt))
    (hk : ∀ (s : Shared) (H : Hp) (C : Addr) (cl : List (Str × Addr)) (fp : List Addr), PE (X.blk s H scope (compEnvC scope cl C X.env) fp) kx (tD X.K ca W0 tk))
    (he : ∀ (s : Shared) (H : Hp) (C : Addr) (cl : List (Str × Addr)) (fp : List Addr), PE (X.blk s H scope (compEnvC scope cl C X.env) fp) vx (tD X.K ca W0 te)) (hs : ∀ x, foldedSetIterable iter X.env x = pure x) :
    PS X (.Assign [.Name y py] (.DictComp kx vx [⟨tg, iter, ifs, 0⟩] scope pos) spos) (tS X.K ca W (sAsg' (eDc n f (own.map (·.2)) p tt tk te) (gN i))) :=
  ps_of (ps_setDc hc hN hy hyl hsw hi ok hg ht hk he hs) fun D σ H ρ τ h R T x => by
    have y := asg_wp R T x
    exact tI.fst R T y fun s h1 ρ1 H1 J e1 R1 T1 k x1 D hD => dc_go hp k n R1 T1 x1 D hD
theorem dcA_of {any : Bool} {vw : Vw} {f : SE} {σ : L2.St} {H : Hp} {Q : VK} {ρ : List Addr} {τ : Env'} {h : Hh} (n : Nat) (hp : ∀ i ∈ p.slots, i ∈ own.map (·.2)) (R : Rel X.K ca ρ h H) (T : EnvR X.K ρ H τ σ) (x : WpQ X.K ca (XW X.K ca W σ) ρ H Q (eDcA n any vw f (own.map (·.2)) p tt tk te τ h)) :
    tDc (iWk X any vw (tD X.K ca W f)) (tP X.K p) (tDT X.K ca W0 tt) (tD X.K ca W0 tk) (tD X.K ca W0 te) (own.map (·.2)) σ H (UN X Q) :=
  tD.fst R T x fun w h1 ρ1 H1 v e1 R1 T1 r x1 => by
    have x1 : WpQ X.K ca (XW X.K ca W σ) ρ1 H1 Q (match lkS any vw w h1 with
      | none => .bad
      | some (.no s) => dcGo s (wipeP τ (own.map (·.2))) p tt tk te h1.n n 0 (h1.push (.dct []))
      | some (.lk i kvs) => (dcGo (.pur (vw.ps kvs)) (wipeP τ (own.map (·.2))) p tt tk te h1.n n 0 ((h1.put i (.frz (.dct kvs))).push (.dct []))).unl i) := x1
    cases z : lkS any vw w h1 with
    | none => rw [z] at x1; exact x1.elim
    | some l =>
      rw [z] at x1
      cases l with
      | no s =>
        obtain ⟨J, g1, g2⟩ := lk_no R1 r z
        exact .inl ⟨J, g1, fun D hD => dc_go hp g2 n R1 T1 (Wp.un x1) D hD⟩
      | lk i kvs =>
        obtain ⟨d, vs, rfl, hi, hd, rf⟩ := lk_lk R1 r z
        refine .inr ⟨d, vs, rfl, hd, fun o nf D hD => ?_⟩
        obtain ⟨E2, R2, k⟩ := lk_rel (vw := vw) R1 hi hd rf o
        exact dc_go hp k n R2 (EnvR.ext R1 E2 T1) (Wp.unl hi hd trivial nf x1) D hD
theorem ps_eDcA {any : Bool} {vw : Vw} {f : SE} (n : Nat) (hc : X.calm = true) (hN : X.N.Nodup) (hy : X.N[i]? = some y) (hyl : X.env.scope.names.lookup y = some .local)
    (hsw : swapsWith (.DictComp kx vx [⟨tg, iter, ifs, 0⟩] scope pos) (some (.Name y py)) spos.line X.env = pure true) (hi : PI X tg iter (iWk X any vw (tD X.K ca W f))) (ok : BlkOk X.N X.env.scope scope own) (hp : ∀ i ∈ p.slots, i ∈ own.map (·.2))
    (hg : ∀ (s : Shared) (H : Hp) (C : Addr) (cl : List (Str × Addr)) (fp : List Addr), PG (X.blk s H scope (compEnvC scope cl C X.env) fp) tg (tP X.K p)) (ht : ∀ (s : Shared) (H : Hp) (C : Addr) (cl : List (Str × Addr)) (fp : List Addr), PTs (X.blk s H scope (compEnvC scope cl C X.env) fp) ifs (tDT X.K ca W0 tt))
    (hk : ∀ (s : Shared) (H : Hp) (C : Addr) (cl : List (Str × Addr)) (fp : List Addr), PE (X.blk s H scope (compEnvC scope cl C X.env) fp) kx (tD X.K ca W0 tk))
    (he : ∀ (s : Shared) (H : Hp) (C : Addr) (cl : List (Str × Addr)) (fp : List Addr), PE (X.blk s H scope (compEnvC scope cl C X.env) fp) vx (tD X.K ca W0 te)) (hs : ∀ x, foldedSetIterable iter X.env x = pure x) :
    PS X (.Assign [.Name y py] (.DictComp kx vx [⟨tg, iter, ifs, 0⟩] scope pos) spos) (tS X.K ca W (sAsg' (eDcA n any vw f (own.map (·.2)) p tt tk te) (gN i))) :=
  ps_of (ps_unl (ps_setDc hc hN hy hyl hsw hi ok hg ht hk he hs)) fun D σ H ρ τ h R T x => dcA_of n hp R T (asg_wp R T x)
/-- a tuple of names = e -/
def sAsgP (f : SE) (p : Pat) : SS := fun τ h => (f τ h).st τ fun w h => match patS p w τ with
  | some τ => .nx τ h
  | none => .bad
theorem ps_sAsgP {e : Expr} {f : SE} (q : PE X e (tD X.K ca W f)) (hg : PG X tg (tP X.K p)) (hs : swapsWithSole [tg] e spos.line X.env = pure false) (hw : swappedStores [tg] e X.env = pure none) (h1 : (assignEach [tg] X.env).map (·.2) = [assign tg X.env]) :
    PS X (.Assign [tg] e spos) (tS X.K ca W (sAsgP f p)) :=
  ps_of (ps_asg q hg hs hw h1) fun D σ H ρ τ h R T x => tD.st R T x fun w h1 ρ1 H1 v e1 R1 T1 r x1 => by
    have x1 : WpS X.K ca W ρ1 H1 D (match patS p w τ with
      | some τ => .nx τ h1
      | none => .bad) := x1
    cases z : patS p w τ with
    | none => rw [z] at x1; exact x1.elim
    | some τ1 =>
      rw [z] at x1
      exact pat_sound p w v τ τ1 σ r T1 z fun σ' T' _ => x1 ρ1 H1 σ' (Ext.refl _ _) R1 T'
/-- o.f, o2.g = a pair -/
def gAtr (K : PySem.W.Frag) (ta : TE) (f : Str) : TG := fun y σ H Q => ta σ H fun x H2 => ∃ a C dx fs, x = .ref a ∧ H2 a = some (.ins C dx fs) ∧ Cls K C ∧ NoAttr K C f ∧ fs.length < 1000 ∧ Q σ (upd H2 a (.ins C dx (putF f y fs)))
theorem pg_atr {o : Expr} {f : Str} {ta : TE} {pos : Pos} (ha : PE X o ta) : PG X (.Attribute o f pos) (gAtr X.K ta f) := by
  refine ⟨fun pins s σ H v u Q I r h => ?_⟩
  rw [assign_Attribute]
  refine wpAny_bind (wpAny_holding (thn (ha.run pins s σ H _ I h) fun ov s1 ⟨x, H1, I1, r1, a, C, dx, fs, ex, ea, c, n, l, q⟩ => ?_))
  subst ex
  obtain rfl : ov = Value.ref a := r1
  exact wpAny_bind (wpAny_standAt (wpAny_bind (wpAny_holding (setattr_ok I1 ea c n l r fun s3 I3 => wpAny_release ⟨σ, _, I3, q⟩))))
def sFldPk (at_ : Nat → Str → Bool) (f g : Str) (fo fp : SE) (τ : Env') (u v : PV) (h : Hh) : RS := (fo τ h).st τ fun o h => match setFS at_ f o u h with
  | some h => (fp τ h).st τ fun p h => match setFS at_ g p v h with
    | some h => .nx τ h
    | none => .bad
  | none => .bad
def sFldP (at_ : Nat → Str → Bool) (f g : Str) (fv fo fp : SE) : SS := fun τ h => (fv τ h).st τ fun w h => match w with
  | .tup [u, v] => sFldPk at_ f g fo fp τ u v h
  | _ => .bad
theorem ps_sFldP {at_ : Nat → Str → Bool} {f g : Str} {o p e : Expr} {fv fo fp : SE} {kt : Nat} {p1 p2 pt : Pos} (cf : ∀ c, at_ c f = true → Cls X.K (ca c) ∧ NoAttr X.K (ca c) f) (cg : ∀ c, at_ c g = true → Cls X.K (ca c) ∧ NoAttr X.K (ca c) g) (hc : X.calm = true)
    (ho : PE X o (tD X.K ca W fo)) (hp : PE X p (tD X.K ca W fp)) (q : PE X e (tD X.K ca W fv)) (hs : swapsWithSole [.Tuple [.Attribute o f p1, .Attribute p g p2] kt pt] e spos.line X.env = pure false) (hw : swappedStores [.Tuple [.Attribute o f p1, .Attribute p g p2] kt pt] e X.env = pure none) :
    PS X (.Assign [.Tuple [.Attribute o f p1, .Attribute p g p2] kt pt] e spos) (tS X.K ca W (sFldP at_ f g fv fo fp)) :=
  ps_of (ps_asg q (pg_tup (n := 2) hc (pgs_cons (pg_atr ho) (pgs_cons (pg_atr hp) pgs_nil))) hs hw rfl) fun D σ H ρ τ h R T x => tD.st R T x fun w h1 ρ1 H1 v e1 R1 T1 r1 x1 => by
    have x1 : WpS X.K ca W ρ1 H1 D (match (generalizing := false) w with
      | .tup [u, v] => sFldPk at_ f g fo fp τ u v h1
      | _ => .bad) := x1
    split at x1
    · rename_i u v' x1'
      rw [RV.tup_] at r1
      obtain ⟨a, vs, rfl, st, rs⟩ := r1
      obtain ⟨v1, t1, rfl, q1, rs⟩ := rs.inv
      obtain ⟨v2, t2, rfl, q2, rs⟩ := rs.inv
      rw [rs.inv0] at st
      refine ⟨a, [v1, v2], rfl, st.1, rfl, v1, [v2], rfl, ?_⟩
      refine tD.st R1 T1 (show WpS X.K ca W ρ1 H1 D ((fo τ h1).st τ _) from x1') fun w2 h2 ρ2 H2 z2 e2 R2 T2 r2 x2 => ?_
      have x2 : WpS X.K ca W ρ2 H2 D (match setFS at_ f w2 u h2 with
        | some h => (fp τ h).st τ fun p h => match setFS at_ g p v' h with
          | some h => .nx τ h
          | none => .bad
        | none => .bad) := x2
      split at x2
      · rename_i h3 z
        obtain ⟨a', c, dx, us, rfl, g1, g2, g3, g4, g5, _⟩ := setF_sound R2 r2 (RV.ext R1 e2 u v1 q1) z
        refine ⟨a', ca c, dx, us, rfl, g1, (cf c g2).1, (cf c g2).2, g3, v2, [], rfl, ?_⟩
        have T3 := EnvR.ext R2 g4 T2
        refine tD.st g5 T3 (WpS.ext g4 x2) fun w4 h4 ρ4 H4 z4 e4 R4 T4 r4 x4 => ?_
        have x4 : WpS X.K ca W ρ4 H4 D (match setFS at_ g w4 v' h4 with
          | some h => .nx τ h
          | none => .bad) := x4
        split at x4
        · rename_i h5 z5
          obtain ⟨a5, c5, dx5, us5, rfl, k1, k2, k3, k4, k5, _⟩ := setF_sound R4 r4 (RV.ext R1 ((e2.trans g4).trans e4) v' v2 q2) z5
          exact ⟨a5, ca c5, dx5, us5, rfl, k1, (cg c5 k2).1, (cg c5 k2).2, k3, rfl, x4 ρ4 _ σ k4 k5 (EnvR.ext R4 k4 T4)⟩
        · exact x4.elim
      · exact x2.elim
    · exact x1.elim
/-- name op= e, of ints -/
def augI (op : Operator) (i j : Int) : Option Int := match op with
  | .Add => some (i + j)
  | .Sub => some (i - j)
  | _ => none
def augS (op : Operator) (x y : PV) : Option PV := match x, y with
  | .int i, .int j => (augI op i j).map .int
  | _, _ => none
def sAug (i : Nat) (op : Operator) (f : SE) : SS := fun τ h => match τ[i]? with
  | some (some x) => (f τ h).st τ fun y h => match augS op x y with
    | some z => .nx (τ.set i (some z)) h
    | none => .bad
  | _ => .bad
theorem augS_inv {op : Operator} {x y z : PV} (h : augS op x y = some z) : ∃ i j n, x = .int i ∧ y = .int j ∧ z = .int n ∧ ((op = .Add ∧ n = i + j) ∨ (op = .Sub ∧ n = i - j)) := by
  unfold augS at h
  split at h
  · rename_i i j
    unfold augI at h
    split at h
    · cases h; exact ⟨i, j, _, rfl, rfl, rfl, .inl ⟨rfl, rfl⟩⟩
    · cases h; exact ⟨i, j, _, rfl, rfl, rfl, .inr ⟨rfl, rfl⟩⟩
    · cases h
  · cases h
def ipA (op : Operator) : TIp := fun x y H Q => ∃ i j n, x = .int i ∧ y = .int j ∧ ((op = .Add ∧ n = i + j) ∨ (op = .Sub ∧ n = i - j)) ∧ Q (.int n) H
theorem ip_A {op : Operator} : PIp X op (ipA op) := by
  rintro pins s σ H x y v u Q I rx ry ⟨i, j, n, rfl, rfl, h, q⟩
  rcases h with ⟨rfl, rfl⟩ | ⟨rfl, rfl⟩
  · exact ip_add pins s σ H _ _ v u Q I rx ry ⟨i, j, rfl, rfl, q⟩
  · exact ip_sub pins s σ H _ _ v u Q I rx ry ⟨i, j, rfl, rfl, q⟩
theorem in_A {op : Operator} : InOp X op (ipA op) := fun pins s σ H x y u v Q I rx ry h => ip_A pins s σ H x y u v Q I rx ry h
theorem ps_sAug {x : Str} {e : Expr} {op : Operator} {f : SE} (hN : X.N.Nodup) (hi : X.N[i]? = some x) (hx : Loc X.env.scope x) (hf : X.fn x = true ∨ X.env.scope.names.lookup x = some .local) (q : PE X e (tD X.K ca W f)) : PS X (.AugAssign (.Name x py) op e spos) (tS X.K ca W (sAug i op f)) :=
  ps_of (ps_aug hN hi hx q ip_A hf) fun D σ H ρ τ h R T x => by
    have x : WpS X.K ca W ρ H D (match τ[i]? with
      | some (some x) => (f τ h).st τ fun y h => match augS op x y with
        | some z => .nx (τ.set i (some z)) h
        | none => .bad
      | _ => .bad) := x
    split at x
    · rename_i w e
      obtain ⟨v, e1, r⟩ := T.2 i w e
      refine ⟨v, e1, tD.st R T x fun w2 h1 ρ1 H1 v2 e2 R1 T1 r2 x1 => ?_⟩
      have x1 : WpS X.K ca W ρ1 H1 D (match augS op w w2 with
        | some z => .nx (τ.set i (some z)) h1
        | none => .bad) := x1
      split at x1
      · rename_i z qz
        obtain ⟨a, b, n, rfl, rfl, rfl, k⟩ := augS_inv qz
        rw [RV.int_] at r r2
        exact ⟨a, b, n, r, r2, k, x1 ρ1 H1 _ (Ext.refl _ _) R1 (T1.set ((RV.int_ _ _).mpr rfl) i)⟩
      · exact x1.elim
    · exact x.elim
def clsS (h : Hh) (o : PV) : Option Nat := match o with
  | .obj p => match h.get p with
    | some (.ins c _) => some c
    | _ => none
  | _ => none
/-- o.f op= e -/
def sAugF (at_ : Nat → Str → Bool) (fl : Str) (op : Operator) (fo fv : SE) : SS := fun τ h => (fo τ h).st τ fun o h => match fldS at_ fl o h with
  | .ok x h => (fv τ h).st τ fun y h' => match augS op x y with
    | some z => if clsS h' o = clsS h o then (match setFS at_ fl o z h' with
      | some h => .nx τ h
      | none => .bad) else .bad
    | none => .bad
  | _ => .bad
theorem ps_sAugF {at_ : Nat → Str → Bool} {fl : Str} {o e : Expr} {op : Operator} {fo fv : SE} (cls : ∀ c, at_ c fl = true → Cls X.K (ca c) ∧ NoAttr X.K (ca c) fl) (ho : PE X o (tD X.K ca W fo)) (q : PE X e (tD X.K ca W fv)) :
    PS X (.AugAssign (.Attribute o fl py) op e spos) (tS X.K ca W (sAugF at_ fl op fo fv)) :=
  ps_of (ps_fldaug ho q in_A) fun D σ H ρ τ h R T x => tD.st R T x fun w h1 ρ1 H1 v e1 R1 T1 r x1 => by
    have x1 : WpS X.K ca W ρ1 H1 D (match fldS at_ fl w h1 with
      | .ok x h => (fv τ h).st τ fun y h' => match augS op x y with
        | some z => if clsS h' w = clsS h w then (match setFS at_ fl w z h' with
          | some h => .nx τ h
          | none => .bad) else .bad
        | none => .bad
      | _ => .bad) := x1
    cases zz : fldS at_ fl w h1 with
    | exc _ _ _ => rw [zz] at x1; exact x1.elim
    | bad => rw [zz] at x1; exact x1.elim
    | ok xw h2 =>
      rw [zz] at x1
      cases w with
      | obj j =>
        rw [RV.obj_] at r
        obtain ⟨a, ha, rfl⟩ := r
        have zz : (match h1.get j with
          | some (.ins c fs) => if at_ c fl = true then (match fs.lookup fl with
            | some w => Res.ok w h1
            | none => .bad) else .bad
          | _ => .bad) = .ok xw h2 := zz
        split at zz
        · rename_i c fs qg
          obtain ⟨a', u, k1, k2, dx, vs, rfl, rf⟩ := R1.obj qg
          rw [ha] at k1; cases k1
          split at zz
          · rename_i at1
            rcases RFs.lookup fl rf with ⟨z1, _⟩ | ⟨w', v', z1, z2, rv⟩
            · rw [z1] at zz; cases zz
            · rw [z1] at zz
              have zz : Res.ok w' h1 = .ok xw h2 := zz
              cases zz
              refine ⟨a, ca c, dx, vs, v', rfl, k2, (cls c at1).1, (cls c at1).2, z2, ?_⟩
              refine tD.st R1 T1 x1 fun w2 h2 ρ2 H2 v2 e2 R2 T2 r2 x2 => ?_
              have x2 : WpS X.K ca W ρ2 H2 D (match augS op xw w2 with
                | some z => if clsS h2 (.obj j) = clsS h1 (.obj j) then (match setFS at_ fl (.obj j) z h2 with
                  | some h => .nx τ h
                  | none => .bad) else .bad
                | none => .bad) := x2
              split at x2
              · rename_i z qz
                obtain ⟨p, q, n, rfl, rfl, rfl, k⟩ := augS_inv qz
                rw [RV.int_] at rv r2
                refine ⟨p, q, n, rv, r2, k, ?_⟩
                by_cases ecl : clsS h2 (.obj j) = clsS h1 (.obj j)
                rotate_left
                · rw [if_neg ecl] at x2; exact x2.elim
                rw [if_pos ecl] at x2
                split at x2
                · rename_i h3 q3
                  obtain ⟨a3, c3, dx3, vs3, e3, g1, g2, g3, g4, g5, g6⟩ := setF_sound (v := .int n) R2 ((RV.obj_ _ _).mpr ⟨a, e2.at_ ha, rfl⟩) ((RV.int_ _ _).mpr rfl) q3
                  cases e3
                  have ec : c3 = c := by
                    obtain ⟨p6, fs6, e6, e7⟩ := g6
                    cases e6
                    unfold clsS at ecl
                    simp only [qg, e7] at ecl
                    exact Option.some.inj ecl
                  subst ec
                  exact ⟨dx3, vs3, g1, g3, x2 ρ2 _ σ g4 g5 (EnvR.ext R2 g4 T2)⟩
                · exact x2.elim
              · exact x2.elim
          · cases zz
        · cases zz
      | _ => cases zz
end
end DD
set_option Elab.async false
set_option linter.all false
set_option maxRecDepth 100000
set_option maxHeartbeats 4000000
/-! DV: the reading of statements. -/
namespace DD
open PySem PySem.Spec PyProof.Rows L2
variable [Ups]

/-! ### which pairs are stored from the right -/
def blockK (sc : Scope) : ScopeKind := if sc.kind.isAnnotationScope then .function else sc.kind
def swNames (sc : Scope) (line : Nat) (ts : List Expr) : List Str := ts.filterMap fun
  | .Name id pos => if sc.names.lookup id == some .local && pos.line == line then some id else none
  | _ => none
/-- no name twice, said so that the kernel runs it -/
def nodB : List Str → Bool
  | [] => true
  | x :: xs => xs.all (fun y => !(y == x)) && nodB xs
theorem nodB_ok : ∀ {l : List Str}, nodB l = true → l.eraseDups = l
  | [], _ => by simp
  | x :: xs, h => by
    have h : (xs.all (fun y => !(y == x)) && nodB xs) = true := h
    rw [Bool.and_eq_true] at h
    rw [List.eraseDups_cons, List.filter_eq_self.mpr (fun y hy => (List.all_eq_true.mp h.1) y hy), nodB_ok h.2]
def swB (sc : Scope) (ts vs : List Expr) : Option (Option (List Str)) :=
  if (!(ts.length == 2 || ts.length == 3) || vs.length != ts.length || blockK sc != .function) = true then some none
  else if (vs.any fun | .Starred .. => true | _ => false) = true then some none
  else if ((swNames sc ((ts.head?.map (·.pos.line)).getD 0) ts).length != ts.length) = true then some none
  else if nodB (swNames sc ((ts.head?.map (·.pos.line)).getD 0) ts) = false then none
  else if (vs.all (foldedForSure 8)) = true then some none
  else if (vs.all (constantsAlone 8)) = true then none
  else some (some (swNames sc ((ts.head?.map (·.pos.line)).getD 0) ts))
theorem sw_eq (ts : List Expr) (a : Nat) (p : Pos) (vs : List Expr) (b : Nat) (q : Pos) (env : Env) (r : Option (List Str)) (h : swB env.scope ts vs = some r) : swappedStores [.Tuple ts a p] (.Tuple vs b q) env = pure r := by
  unfold swB at h
  unfold swappedStores
  show (if (!(ts.length == 2 || ts.length == 3) || vs.length != ts.length || env.blockKind != .function) = true then pure none else _) = pure r
  have e : env.blockKind = blockK env.scope := rfl
  rw [e]
  split at h
  · rename_i c; rw [if_pos c]; cases h; rfl
  · rename_i c; rw [if_neg c]
    show (if (vs.any fun | .Starred .. => true | _ => false) = true then pure none else _) = pure r
    split at h
    · rename_i c2; rw [if_pos c2]; cases h; rfl
    · rename_i c2; rw [if_neg c2]
      show (if ((swNames env.scope ((ts.head?.map (·.pos.line)).getD 0) ts).length != ts.length || (swNames env.scope ((ts.head?.map (·.pos.line)).getD 0) ts).eraseDups.length != (swNames env.scope ((ts.head?.map (·.pos.line)).getD 0) ts).length) = true then pure none else _) = pure r
      split at h
      · rename_i c3; rw [if_pos (by rw [c3]; rfl)]; cases h; rfl
      · rename_i c3
        split at h
        · cases h
        rename_i c3'
        rw [if_neg (by rw [nodB_ok (by simpa using c3'), Bool.eq_false_iff.mpr c3]; simp)]
        show (if (vs.all (foldedForSure 8)) = true then pure none else _) = pure r
        split at h
        · rename_i c4; rw [if_pos c4]; cases h; rfl
        · rename_i c4; rw [if_neg c4]
          show (if (vs.all (constantsAlone 8)) = true then _ else _) = pure r
          split at h
          · cases h
          · rename_i c5; rw [if_neg c5]; cases h; rfl
def notTup : Expr → Bool
  | .Tuple .. => false
  | _ => true
theorem sw_none {tg e : Expr} {env : Env} (h : notTup e = true) : swappedStores [tg] e env = pure none := by
  cases e <;> first | (cases h; done) | (cases tg <;> rfl)
def isName : Expr → Bool
  | .Name .. => true
  | _ => false
def isSeqT : Expr → Bool
  | .Tuple .. => true
  | .List .. => true
  | _ => false
theorem sw_none2 {tg e : Expr} {env : Env} (h : isSeqT tg = false) : swappedStores [tg] e env = pure none := by
  cases tg <;> first | (cases h; done) | (cases e <;> rfl)
theorem swaps_tg {e tg : Expr} {l : Nat} {env : Env} (h : isName tg = false) : swapsWith e (some tg) l env = pure false := by
  cases tg <;> first | (cases h; done) | (cases e <;> rfl)
/-! ### the reading -/
def sForK (n : Nat) (p : Pat) (b : SS) : IK → SS
  | .pl f => sFor n f p b
  | .wk any vw f => sForA n any vw f p b
def stB (sc : Scope) (fb : Str → Bool) (N : List Str) (x : Str) : Option Nat := match slotOf N x with
  | some i => match sc.names.lookup x with
    | some .local => some i
    | some .cell => if fb x = true then some i else none
    | _ => none
  | none => none
/-- is the new list stored while the block still stands -/
def swC (sc : Scope) (x : Str) (py pos : Pos) (scope : Scope) : Bool :=
  decide (sc.kind = .function) && decide (sc.names.lookup x = some .local) && (py.line == pos.line) && !(scope.names.any fun (n, k) => n == x && (k == .local || k == .cell))
/-- .. or not -/
def swF (sc : Scope) (x : Str) (py pos : Pos) (scope : Scope) : Bool :=
  !(blockK sc == .function && sc.names.lookup x == some .local && py.line == pos.line && !(scope.names.any fun (n, k) => n == x && (k == .local || k == .cell)))
theorem swF_l {env : Env} {x : Str} {py pos : Pos} {scope : Scope} {elt : Expr} {gs : List Comprehension} {l : Nat} (h : swF env.scope x py pos scope = true) : swapsWith (.ListComp elt gs scope pos) (some (.Name x py)) l env = pure false := by
  unfold swF at h
  rw [Bool.not_eq_true'] at h
  exact congrArg pure h
theorem swF_d {env : Env} {x : Str} {py pos : Pos} {scope : Scope} {kx vx : Expr} {gs : List Comprehension} {l : Nat} (h : swF env.scope x py pos scope = true) : swapsWith (.DictComp kx vx gs scope pos) (some (.Name x py)) l env = pure false := by
  unfold swF at h
  rw [Bool.not_eq_true'] at h
  exact congrArg pure h
def dnAsgN (P : Pg) (sc : Scope) (fb : Str → Bool) (D : Dn) (x : Str) (py : Pos) (e : Expr) : SS := match stB sc fb P.N x with
  | none => sBad
  | some i => match e with
    | .ListComp _ _ scope pos => if swC sc x py pos scope = true then sAsg' (D.e e) (gN i) else if swF sc x py pos scope = true then sAsg' (D.e e) (gN i) else sBad
    | .DictComp _ _ _ scope pos => if swC sc x py pos scope = true then sAsg' (D.e e) (gN i) else if swF sc x py pos scope = true then sAsg' (D.e e) (gN i) else sBad
    | .SetComp .. => sBad
    | e => sAsg' (D.e e) (gN i)
def twoN : List Expr → Option (Str × Pos × Str × Pos)
  | [.Name x px, .Name y py] => some (x, px, y, py)
  | _ => none
def threeN : List Expr → Option (Str × Pos × Str × Pos × Str × Pos)
  | [.Name x px, .Name y py, .Name z pz] => some (x, px, y, py, z, pz)
  | _ => none
def locB (sc : Scope) (N : List Str) (x : Str) : Option Nat := if sc.names.lookup x = some .local then slotOf N x else none
def dnPar (P : Pg) (sc : Scope) (D : Dn) (ts vs : List Expr) : SS := match ts, vs with
  | [.Name x _, .Name y _], [a, b] => match locB sc P.N x, locB sc P.N y with
    | some i, some j => if i ≠ j ∧ [a, b].all notStar = true then sPar i j (evs ([a, b].map D.e)) else sBad
    | _, _ => sBad
  | [.Name x _, .Name y _, .Name z _], [a, b, c] => match locB sc P.N x, locB sc P.N y, locB sc P.N z with
    | some i, some j, some l => if i ≠ j ∧ i ≠ l ∧ j ≠ l ∧ [a, b, c].all notStar = true then sPar3 i j l (evs ([a, b, c].map D.e)) else sBad
    | _, _, _ => sBad
  | _, _ => sBad
def namesOf : List Expr → List Str
  | .Name x _ :: r => x :: namesOf r
  | _ :: r => namesOf r
  | [] => []
def twoA : List Expr → Option (Expr × Str × Expr × Str)
  | [.Attribute o f _, .Attribute p g _] => some (o, f, p, g)
  | _ => none
theorem twoA_ok {ts : List Expr} {o p : Expr} {f g : Str} (h : twoA ts = some (o, f, p, g)) : ∃ p1 p2, ts = [.Attribute o f p1, .Attribute p g p2] := by
  unfold twoA at h
  split at h
  · cases h; exact ⟨_, _, rfl⟩
  · cases h
def dnAsgT0 (P : Pg) (sc : Scope) (fb : Str → Bool) (D : Dn) (ts : List Expr) (k : Nat) (pt : Pos) (e : Expr) : SS := match e with
  | .Tuple vs _ _ => match swB sc ts vs with
    | some none => match patOf sc fb P.N 9 (.Tuple ts k pt) with
      | some p => sAsgP (D.e e) p
      | none => sBad
    | some (some nm) => if nm = namesOf ts then dnPar P sc D ts vs else sBad
    | none => sBad
  | e => match patOf sc fb P.N 9 (.Tuple ts k pt) with
    | some p => sAsgP (D.e e) p
    | none => sBad
def dnAsgT (P : Pg) (sc : Scope) (fb : Str → Bool) (D : Dn) (ts : List Expr) (k : Nat) (pt : Pos) (e : Expr) : SS := match twoA ts, e with
  | some (o, f, p, g), .Tuple vs k2 p2 => if swB sc ts vs = some none then sFldP P.at_ f g (D.e (.Tuple vs k2 p2)) (D.e o) (D.e p) else sBad
  | _, e => dnAsgT0 P sc fb D ts k pt e
def dnRaise (P : Pg) (sc : Scope) (D : Dn) (e : Expr) : SS := match callName e with
  | some (x, es, _, _) => if es.all notStar = true ∧ es.isEmpty = false ∧ glB sc x = true ∧ (slotOf P.N x).isNone = true then (match P.gl x with
    | .exc cc nm => sRaise (excF cc nm (evs (es.map D.e)))
    | _ => sBad) else sBad
  | none => sBad
def dnS (P : Pg) (sc : Scope) (fb : Str → Bool) (D : Dn) (rec : List Stmt → SS) : Stmt → SS
  | .Expr e _ => match e with
    | .Constant (.str _) _ _ => sNil
    | e => if noComp e = true then sDrop (D.e e) else sBad
  | .Pass _ => sNil
  | .Break _ => sBrk
  | .Continue _ => sCnt
  | .Return v _ => match v with
    | some e => sRet (D.e e)
    | none => sRetN
  | .If c a b _ => sIf (D.t c) (rec a) (rec b)
  | .While c b o _ => match o with
    | [] => sWhile P.fu (D.t c) (rec b)
    | _ => sBad
  | .For tg it b o _ => match o with
    | [] => if notSet it = true then (match patOf sc fb P.N 9 tg with
      | some p => sForK P.fu p (rec b) (ikOf P sc D tg it)
      | none => sBad) else sBad
    | _ => sBad
  | .Assign tgs e _ => match tgs with
    | [.Name x py] => dnAsgN P sc fb D x py e
    | [.Attribute o f _] => sFld' P.at_ f (D.e e) (D.e o)
    | [.Subscript o i _] => if notSl i = true then sAsg' (D.e e) (gSubS (D.e o) (D.e i)) else sBad
    | [.Tuple ts k pt] => dnAsgT P sc fb D ts k pt e
    | _ => sBad
  | .AugAssign tg op e _ => match tg with
    | .Name x _ => match stB sc fb P.N x with
      | some i => sAug i op (D.e e)
      | none => sBad
    | .Attribute o f _ => sAugF P.at_ f op (D.e o) (D.e e)
    | _ => sBad
  | .Raise e c _ => match e, c with
    | some e, none => dnRaise P sc D e
    | _, _ => sBad
  | .Try b hds o f _ => match o, f with
    | [], [] => match hdOf P.gl P.xf sc P.N hds with
      | some (k :: hs) => sTry P.ex (k :: hs) (rec b)
      | _ => sBad
    | _, _ => sBad
  | _ => sBad
def dnSs (P : Pg) (sc : Scope) (fb : Str → Bool) (D : Dn) : Nat → List Stmt → SS
  | 0, _ => sBad
  | n + 1, ss => go (dnS P sc fb D (dnSs P sc fb D n)) ss
where
  go (f : Stmt → SS) : List Stmt → SS
  | [] => sNil
  | s :: ss => sSeq (f s) (go f ss)
/-! ### soundness -/
/-- a statement's context -/
structure Gs (X : Cx) (ca : Nat → Addr) (W : WX) (P : Pg) (sc : Scope) (fb : Str → Bool) : Prop extends Gd X ca W P sc fb where
  po : PassesOwn (model X.prog X.w) X.A X.env X.xe
  stk : X.stack = X.env :: X.outer
  frm : X.env.frame = some X.env.locals
/-- exceptions made -/
def ExcK (X : Cx) (ca : Nat → Addr) (P : Pg) (k : Nat) : Prop := ∀ (Y : Cx) (W : WX), Y.prog = X.prog → Y.w = X.w → Y.K = X.K → Y.mg = X.mg → Y.base = X.base → COk Y W → Room (k + 1) Y.A →
  ∀ x cc nm, P.gl x = .exc cc nm → Gl Y x → (x == ("__debug__" : Str)) = false → ∀ es fl p pos, es ≠ [] → Args Y ca W es fl → PMk Y (.Call (.Name x p) es [] pos) (tR Y.K ca W (excF cc nm fl))
section
variable {X : Cx} {ca fa : Nat → Addr} {W : WX} {P : Pg} {sc : Scope} {fb : Str → Bool} {k : Nat} {D : Dn}
theorem stB_ok (G : Gd X ca W P sc fb) {x : Str} {i : Nat} (h : stB sc fb P.N x = some i) : X.N[i]? = some x ∧ Loc X.env.scope x ∧ (X.fn x = true ∨ X.env.scope.names.lookup x = some .local) := by
  unfold stB at h
  split at h
  · rename_i j q
    split at h
    · rename_i l
      cases h
      exact ⟨by rw [G.N]; exact slotOf_ok q, .inl (by rw [G.sc]; exact l), .inr (by rw [G.sc]; exact l)⟩
    · rename_i l
      split at h
      · rename_i f
        cases h
        exact ⟨by rw [G.N]; exact slotOf_ok q, .inr (by rw [G.sc]; exact l), .inl (G.fb x f)⟩
      · cases h
    · cases h
  · cases h
theorem locB_ok (G : Gd X ca W P sc fb) {x : Str} {i : Nat} (h : locB sc P.N x = some i) : X.N[i]? = some x ∧ X.env.scope.names.lookup x = some .local := by
  unfold locB at h
  split at h
  · rename_i l; exact ⟨by rw [G.N]; exact slotOf_ok h, by rw [G.sc]; exact l⟩
  · cases h
theorem swC_ok (G : Gd X ca W P sc fb) {x : Str} {py pos : Pos} {scope : Scope} (h : swC sc x py pos scope = true) : X.env.scope.kind = .function ∧ X.env.scope.names.lookup x = some .local ∧ (py.line == pos.line) = true ∧ (scope.names.any fun (n, k) => n == x && (k == .local || k == .cell)) = false := by
  unfold swC at h
  rw [Bool.and_eq_true, Bool.and_eq_true, Bool.and_eq_true] at h
  obtain ⟨⟨⟨a, b⟩, c⟩, d⟩ := h
  exact ⟨by rw [G.sc]; exact of_decide_eq_true a, by rw [G.sc]; exact of_decide_eq_true b, c, by simpa using d⟩
theorem raise_ok (G : Gd X ca W P sc fb) (E : ExcK X ca P k) (hr : Room (k + 1) X.A) (HE : ∀ e, PE X e (tD X.K ca W (D.e e))) (e : Expr) (pos : Pos) : PS X (.Raise (some e) none pos) (tS X.K ca W (dnRaise P sc D e)) := by
  unfold dnRaise
  split
  · rename_i x es p q qq
    have := callName_ok qq
    subst this
    split
    · rename_i h
      split
      · rename_i cc nm hx
        obtain ⟨g1, g2, _⟩ := gl_ok G h.2.2.1
        exact ps_sRaise G.c (E X W rfl rfl rfl rfl rfl G.c hr x cc nm hx g1 g2 es _ _ _ (fun z => by rw [z] at h; cases h.2.1) (Args.of HE h.1))
      · exact ps_sBad
    · exact ps_sBad
  · exact ps_sBad
theorem par_ok (G : Gd X ca W P sc fb) (HE : ∀ e, PE X e (tD X.K ca W (D.e e))) {ts vs : List Expr} {k1 k2 : Nat} {p1 p2 pos : Pos} (h : swB sc ts vs = some (some (namesOf ts))) : PS X (.Assign [.Tuple ts k1 p1] (.Tuple vs k2 p2) pos) (tS X.K ca W (dnPar P sc D ts vs)) := by
  unfold dnPar
  split
  · rename_i x px y py a b
    split
    · rename_i i j q1 q2
      split
      · rename_i c
        obtain ⟨a1, a2⟩ := locB_ok G q1
        obtain ⟨b1, b2⟩ := locB_ok G q2
        exact ps_sPar G.c.calm G.c.nd a1 b1 c.1 a2 b2 (args_ok HE c.2) (sw_eq _ _ _ _ _ _ _ _ (by rw [G.sc]; exact h))
      · exact ps_sBad
    · exact ps_sBad
  · rename_i x px y py z pz a b c'
    split
    · rename_i i j l q1 q2 q3
      split
      · rename_i c
        obtain ⟨a1, a2⟩ := locB_ok G q1
        obtain ⟨b1, b2⟩ := locB_ok G q2
        obtain ⟨c1, c2⟩ := locB_ok G q3
        exact ps_sPar3 G.c.calm G.c.nd a1 b1 c1 c.1 c.2.1 c.2.2.1 a2 b2 c2 (args_ok HE c.2.2.2) (sw_eq _ _ _ _ _ _ _ _ (by rw [G.sc]; exact h))
      · exact ps_sBad
    · exact ps_sBad
  · exact ps_sBad
theorem asgT0_ok (G : Gd X ca W P sc fb) (HE : ∀ e, PE X e (tD X.K ca W (D.e e))) {ts : List Expr} {k1 : Nat} {pt pos : Pos} (e : Expr) : PS X (.Assign [.Tuple ts k1 pt] e pos) (tS X.K ca W (dnAsgT0 P sc fb D ts k1 pt e)) := by
  have plain : swappedStores [.Tuple ts k1 pt] e X.env = pure none → ∀ p, patOf sc fb P.N 9 (.Tuple ts k1 pt) = some p → PS X (.Assign [.Tuple ts k1 pt] e pos) (tS X.K ca W (sAsgP (D.e e) p)) := fun hw p hp =>
    ps_sAsgP (HE e) (pg_pat G 9 _ _ hp) (show swapsWith e (some (.Tuple ts k1 pt)) pos.line X.env = pure false from swaps_tg rfl) hw rfl
  unfold dnAsgT0
  split
  · rename_i vs k2 p2
    split
    · rename_i q
      split
      · rename_i p hp
        exact plain (sw_eq _ _ _ _ _ _ _ _ (by rw [G.sc]; exact q)) p hp
      · exact ps_sBad
    · rename_i nm q
      split
      · rename_i c
        subst c
        exact par_ok G HE q
      · exact ps_sBad
    · exact ps_sBad
  · rename_i e' ne
    split
    · rename_i p hp
      refine plain (sw_none ?_) p hp
      cases e <;> first | rfl | exact absurd rfl (ne _ _ _)
    · exact ps_sBad
theorem asgT_ok (G : Gd X ca W P sc fb) (F : Fac X ca fa P k) (HE : ∀ e, PE X e (tD X.K ca W (D.e e))) {ts : List Expr} {k1 : Nat} {pt pos : Pos} (e : Expr) : PS X (.Assign [.Tuple ts k1 pt] e pos) (tS X.K ca W (dnAsgT P sc fb D ts k1 pt e)) := by
  unfold dnAsgT
  split
  · rename_i o f p g vs k2 p2 q
    obtain ⟨p1, p2', rfl⟩ := twoA_ok q
    split
    · rename_i hs
      exact ps_sFldP (fun c z => F.at_ c _ z) (fun c z => F.at_ c _ z) G.c.calm (HE o) (HE p) (HE _) (show swapsWith (.Tuple vs k2 p2) (some (.Tuple [.Attribute o f p1, .Attribute p g p2'] k1 pt)) pos.line X.env = pure false from swaps_tg rfl) (sw_eq _ _ _ _ _ _ _ _ (by rw [G.sc]; exact hs))
    · exact ps_sBad
  · exact asgT0_ok G HE _
/-- a comprehension's value stored at once -/
theorem compS_ok (n : Nat) (G : Gd X ca W P sc fb) (F : Fac X ca fa P k) (hr : Room (k + 1) X.A) {x : Str} {i : Nat} {py pos : Pos} {scope : Scope} (hs : swC sc x py pos scope = true) (hi : X.N[i]? = some x) :
    (∀ (elt : Expr) (gens : List Comprehension) (spos : Pos), PS X (.Assign [.Name x py] (.ListComp elt gens scope pos) spos) (tS X.K ca W (sAsg' ((dn P n sc fb).e (.ListComp elt gens scope pos)) (gN i)))) ∧
    ∀ (kx vx : Expr) (gens : List Comprehension) (spos : Pos), PS X (.Assign [.Name x py] (.DictComp kx vx gens scope pos) spos) (tS X.K ca W (sAsg' ((dn P n sc fb).e (.DictComp kx vx gens scope pos)) (gN i))) := by
  obtain ⟨s1, s2, s3, s4⟩ := swC_ok G hs
  have bad : ∀ st, PS X st (tS X.K ca W (sAsg' eBad (gN i))) := fun st => ⟨fun _ _ _ _ _ _ ⟨_, _, _, _, _, x⟩ => x.elim⟩
  cases n with
  | zero => exact ⟨fun _ _ _ => bad _, fun _ _ _ _ => bad _⟩
  | succ n =>
    obtain ⟨HE, HT⟩ := dn_ok (ca := ca) (fa := fa) (P := P) (k := k) n sc fb X W G F hr
    have sub : ∀ (s : Shared) (H : Hp) (C : Addr) (cl : List (Str × Addr)) (fp : List Addr), (∀ e, PE (X.blk s H scope (compEnvC scope cl C X.env) fp) e (tD X.K ca W0 ((dn P n (relS scope sc) (fbC scope)).e e))) ∧
        ∀ e, PT (X.blk s H scope (compEnvC scope cl C X.env) fp) e (tDT X.K ca W0 ((dn P n (relS scope sc) (fbC scope)).t e)) := fun s H C cl fp =>
      dn_ok (ca := ca) (fa := fa) (P := P) (k := k) n (relS scope sc) (fbC scope) (X.blk s H scope (compEnvC scope cl C X.env) fp) W0 (G.blk s H scope C cl fp) (F.to rfl rfl rfl rfl rfl) hr
    refine ⟨fun elt gens spos => ?_, fun kx vx gens spos => ?_⟩
    · show PS X _ (tS X.K ca W (sAsg' (dnE P sc (dn P n sc fb) (dn P n) (fun s => dn P.lam n s fun _ => false) (.ListComp elt gens scope pos)) (gN i)))
      simp only [dnE]
      cases h : compOf P sc scope gens with
      | none => exact bad _
      | some c =>
        obtain ⟨rfl, h2, h3, h4, h5⟩ := comp_inv h
        dsimp only
        have ok : BlkOk X.N X.env.scope scope (ownOf P.N scope) := by rw [G.N, G.sc]; exact blkOk_by h2
        have ik := ik_ok G F HE c.tg c.iter
        cases z : ikOf P sc (dn P n sc fb) c.tg c.iter with
        | pl f =>
          rw [z] at ik
          exact ps_eLc P.fu G.c.calm G.c.nd hi s2 (sw_true s1 s2 s3 s4) ik ok h5 (fun s H C cl fp => pg_pat (G.blk s H scope C cl fp) 9 _ _ h4) (fun s H C cl fp => ifs_ok (sub s H C cl fp).2) (fun s H C cl fp => (sub s H C cl fp).1 elt) (folded h3)
        | wk any vw f =>
          rw [z] at ik
          exact ps_eLcA P.fu G.c.calm G.c.nd hi s2 (sw_true s1 s2 s3 s4) ik ok h5 (fun s H C cl fp => pg_pat (G.blk s H scope C cl fp) 9 _ _ h4) (fun s H C cl fp => ifs_ok (sub s H C cl fp).2) (fun s H C cl fp => (sub s H C cl fp).1 elt) (folded h3)
    · show PS X _ (tS X.K ca W (sAsg' (dnE P sc (dn P n sc fb) (dn P n) (fun s => dn P.lam n s fun _ => false) (.DictComp kx vx gens scope pos)) (gN i)))
      simp only [dnE]
      cases h : compOf P sc scope gens with
      | none => exact bad _
      | some c =>
        obtain ⟨rfl, h2, h3, h4, h5⟩ := comp_inv h
        dsimp only
        have ok : BlkOk X.N X.env.scope scope (ownOf P.N scope) := by rw [G.N, G.sc]; exact blkOk_by h2
        have ik := ik_ok G F HE c.tg c.iter
        cases z : ikOf P sc (dn P n sc fb) c.tg c.iter with
        | pl f =>
          rw [z] at ik
          exact ps_eDc P.fu G.c.calm G.c.nd hi s2 (swD_true s1 s2 s3 s4) ik ok h5 (fun s H C cl fp => pg_pat (G.blk s H scope C cl fp) 9 _ _ h4) (fun s H C cl fp => ifs_ok (sub s H C cl fp).2) (fun s H C cl fp => (sub s H C cl fp).1 kx) (fun s H C cl fp => (sub s H C cl fp).1 vx) (folded h3)
        | wk any vw f =>
          rw [z] at ik
          exact ps_eDcA P.fu G.c.calm G.c.nd hi s2 (swD_true s1 s2 s3 s4) ik ok h5 (fun s H C cl fp => pg_pat (G.blk s H scope C cl fp) 9 _ _ h4) (fun s H C cl fp => ifs_ok (sub s H C cl fp).2) (fun s H C cl fp => (sub s H C cl fp).1 kx) (fun s H C cl fp => (sub s H C cl fp).1 vx) (folded h3)
theorem asgN_ok (n : Nat) (G : Gd X ca W P sc fb) (F : Fac X ca fa P k) (hr : Room (k + 1) X.A) (x : Str) (py pos : Pos) (e : Expr) : PS X (.Assign [.Name x py] e pos) (tS X.K ca W (dnAsgN P sc fb (dn P n sc fb) x py e)) := by
  obtain ⟨HE, HT⟩ := dn_ok (ca := ca) (fa := fa) (P := P) (k := k) n sc fb X W G F hr
  unfold dnAsgN
  cases h : stB sc fb P.N x with
  | none => exact ps_sBad
  | some i =>
    obtain ⟨h1, h2, h3⟩ := stB_ok G h
    cases e with
    | ListComp elt gens scope p =>
      show PS X _ (tS X.K ca W (if swC sc x py p scope = true then sAsg' ((dn P n sc fb).e (.ListComp elt gens scope p)) (gN i) else if swF sc x py p scope = true then sAsg' ((dn P n sc fb).e (.ListComp elt gens scope p)) (gN i) else sBad))
      split
      · rename_i c; exact (compS_ok n G F hr c h1).1 elt gens pos
      · split
        · rename_i c; exact ps_sSet G.c.nd h1 h2 h3 (HE _) (swF_l (by rw [G.sc]; exact c))
        · exact ps_sBad
    | DictComp kx vx gens scope p =>
      show PS X _ (tS X.K ca W (if swC sc x py p scope = true then sAsg' ((dn P n sc fb).e (.DictComp kx vx gens scope p)) (gN i) else if swF sc x py p scope = true then sAsg' ((dn P n sc fb).e (.DictComp kx vx gens scope p)) (gN i) else sBad))
      split
      · rename_i c; exact (compS_ok n G F hr c h1).2 kx vx gens pos
      · split
        · rename_i c; exact ps_sSet G.c.nd h1 h2 h3 (HE _) (swF_d (by rw [G.sc]; exact c))
        · exact ps_sBad
    | SetComp _ _ _ _ => exact ps_sBad
    | _ => exact ps_sSet G.c.nd h1 h2 h3 (HE _) (swaps_no rfl)
theorem dnS_ok (n : Nat) (G : Gs X ca W P sc fb) (F : Fac X ca fa P k) (E : ExcK X ca P k) (hr : Room (k + 1) X.A) {rec : List Stmt → SS} (HR : ∀ ss, PSs X ss (tS X.K ca W (rec ss)))
    (HT2 : ∀ (W' : WX) (pn : List (Addr × Obj)) (xe : Value → Shared → Prop), Takes (X.tr pn xe) W' → PassesOwn (model X.prog X.w) X.A X.env xe → ∀ ss, PSs (X.tr pn xe) ss (tS X.K ca W' (rec ss))) (s : Stmt) : PS X s (tS X.K ca W (dnS P sc fb (dn P n sc fb) rec s)) := by
  obtain ⟨HE, HT⟩ := dn_ok (ca := ca) (fa := fa) (P := P) (k := k) n sc fb X W G.toGd F hr
  cases s with
  | Expr e pos =>
    have gen : noComp e = true → PS X (.Expr e pos) (tS X.K ca W (sDrop ((dn P n sc fb).e e))) := fun h => ps_sDrop (HE e) (swaps_no h)
    simp only [dnS]
    split
    · exact ps_sDoc
    · split
      · rename_i h; exact gen h
      · exact ps_sBad
  | Pass pos => exact ps_sPass
  | Break pos => exact ps_sBrk
  | Continue pos => exact ps_sCnt
  | Return v pos =>
    cases v with
    | none => exact ps_sRetN
    | some e => exact ps_sRet (HE e)
  | If c a b pos => exact ps_sIf (HT c) (HR a) (HR b)
  | While c b o pos =>
    cases o with
    | nil => exact ps_sWhile P.fu G.po (HT c) (HR b)
    | cons _ _ => exact ps_sBad
  | For tg it b o pos =>
    cases o with
    | cons _ _ => exact ps_sBad
    | nil =>
      simp only [dnS]
      split
      · rename_i h
        split
        · rename_i p hp
          have ik := ik_ok G.toGd F HE tg it
          cases z : ikOf P sc (dn P n sc fb) tg it with
          | pl f => rw [z] at ik; exact ps_sFor P.fu G.po G.c.calm ik (pg_pat G.toGd 9 _ _ hp) (HR b) (folded h)
          | wk any vw f => rw [z] at ik; exact ps_sForA P.fu G.po G.c.calm ik (pg_pat G.toGd 9 _ _ hp) (HR b) (folded h)
        · exact ps_sBad
      · exact ps_sBad
  | Assign tgs e pos =>
    simp only [dnS]
    split
    · exact asgN_ok n G.toGd F hr _ _ pos e
    · exact ps_sFld' (fun c q => F.at_ c _ q) (HE _) (HE e) (swaps_tg rfl)
    · rename_i o i p
      split
      · rename_i h
        exact ps_sAsg (HE e) (pg_gSub G.c h (HE o) (HE i)) (show swapsWith e (some (.Subscript o i p)) pos.line X.env = pure false from swaps_tg rfl) (sw_none2 rfl) rfl
      · exact ps_sBad
    · exact asgT_ok G.toGd F HE e
    · exact ps_sBad
  | AugAssign tg op e pos =>
    simp only [dnS]
    split
    · split
      · rename_i i h
        obtain ⟨h1, h2, h3⟩ := stB_ok G.toGd h
        exact ps_sAug G.c.nd h1 h2 h3 (HE e)
      · exact ps_sBad
    · exact ps_sAugF (fun c q => F.at_ c _ q) (HE _) (HE e)
    · exact ps_sBad
  | Raise e c pos =>
    simp only [dnS]
    split
    · exact raise_ok G.toGd E hr HE _ pos
    · exact ps_sBad
  | Try b hds o f pos =>
    simp only [dnS]
    split
    · split
      · rename_i k hs h
        cases hds with
        | nil => cases h
        | cons h₀ hds =>
          exact ps_sTry G.c.nd G.sc G.stk G.frm G.c.tk F.exf (by rw [G.N]; exact h) fun W' pn xe tk po => HT2 W' pn xe tk po b
      · exact ps_sBad
    · exact ps_sBad
  | _ => exact ps_sBad
theorem Gs.tr (G : Gs X ca W P sc fb) {W' : WX} {pn : List (Addr × Obj)} {xe : Value → Shared → Prop} (tk : Takes (X.tr pn xe) W') (po : PassesOwn (model X.prog X.w) X.A X.env xe) : Gs (X.tr pn xe) ca W' P sc fb where
  c := ⟨G.c.nd, G.c.calm, G.c.hu, tk⟩
  sc := G.sc
  N := G.N
  fb := G.fb
  tab := G.tab
  po := po
  stk := G.stk
  frm := G.frm
end
theorem dnSs_ok {ca fa : Nat → Addr} {P : Pg} {sc : Scope} {fb : Str → Bool} {k : Nat} (n : Nat) : ∀ (m : Nat) (X : Cx) (W : WX), Fac X ca fa P k → ExcK X ca P k → Room (k + 1) X.A → Gs X ca W P sc fb → ∀ (ss : List Stmt), PSs X ss (tS X.K ca W (dnSs P sc fb (dn P n sc fb) m ss)) := by
  intro m
  induction m with
  | zero => intro X W F E hr G ss; exact pss_sBad
  | succ m ih =>
    intro X W F E hr G ss
    show PSs X ss (tS X.K ca W (dnSs.go (dnS P sc fb (dn P n sc fb) (dnSs P sc fb (dn P n sc fb) m)) ss))
    induction ss with
    | nil => exact pss_sNil
    | cons s ss ih2 => exact pss_sSeq (dnS_ok n G F E hr (ih X W F E hr G) (fun W' pn xe tk po => ih (X.tr pn xe) W' (F.to rfl rfl rfl rfl rfl) E hr (G.tr tk po)) s) ih2
end DD
set_option Elab.async false
set_option linter.all false
set_option maxRecDepth 100000
set_option maxHeartbeats 4000000
/-! DW: functions. -/
namespace DD
open PySem PySem.Spec PyProof.Rows L2

structure Fn0 where
  N : List Str
  ps : List Str
  sc : Scope
  body : List Stmt
  tab : Option Nat := none
/-- the module's names, methods, attributes, functions -/
structure Bs where
  gl : Str → Gn
  mt : Nat → Str → Option (Nat × Nat)
  at_ : Nat → Str → Bool
  fu : Nat
  T : Nat → Option Fn0
  ex : Nat → Nat → Option Bool := fun _ _ => none
  xf : Nat → Str → Bool := fun _ _ => false
def startP (N : List Str) (ws : List PV) : Env' := ws.map some ++ List.replicate (N.length - ws.length) none
def runF (s : SS) (N : List Str) (ws : List PV) (h : Hh) : Res PV := match s (startP N ws) h with
  | .nx _ h => .ok .non h
  | .rt w h => .ok w h
  | .exc c fs _ h => .exc c fs h
  | _ => .bad
def Bs.pg (B : Bs) (f : Fn0) (C Cl : CT) : Pg := ⟨f.N, B.gl, B.mt, B.at_, C, B.fu, Cl, B.ex, B.xf, f.tab⟩
/-- the body of a function, read -/
def Bs.sem (B : Bs) (f : Fn0) (C Cl : CT) : SS := dnSs (B.pg f C Cl) f.sc (fun _ => true) (dn (B.pg f C Cl) 40 f.sc (fun _ => true)) 40 f.body
def badC : CT := fun _ _ _ => .bad
def Bs.step (B : Bs) (C Cl : CT) : CT := fun id ws h => match B.T id with
  | some f => runF (B.sem f C Cl) f.N ws h
  | none => .bad
def Bs.call (B : Bs) : Nat → CT
  | 0 => badC
  | 1 => B.step badC badC
  | n + 2 => B.step (B.call (n + 1)) (B.call n)
/-- what is known of the program -/
structure Sta (P : Program) (w : World) (K : PySem.W.Frag) (mg : Str → Option Value) (base : Heap) (ca fa : Nat → Addr) (B : Bs) : Prop where
  fn : ∀ x id n, B.gl x = .fn id n → mg x = some (.ref (fa id)) ∧ ∃ f, B.T id = some f ∧ f.ps.length = n
  mkc : ∀ x cc id n, B.gl x = .mk cc id n → mg x = some (.ref (ca cc)) ∧ (∃ f, B.T id = some f ∧ f.ps.length = n) ∧ Mk K (ca cc) (fa id)
  tabk : ∀ x kvs, B.gl x = .tab kvs → ∀ [Ups], TabIs K w mg x kvs
  con : ∀ x w, B.gl x = .con w → ∃ u v, mg x = some u ∧ RelV v u ∧ ∀ [Ups] ρ H, RV K ρ H w v
  blt : ∀ x, B.gl x = .blt → mg x = none
  mt : ∀ c m id n, B.mt c m = some (id, n) → (∃ f, B.T id = some f ∧ f.ps.length = n) ∧ Cls K (ca c) ∧ PySem.W.findIn K (.ref (ca c)) m = some (some (.ref (fa id)))
  at_ : ∀ c f, B.at_ c f = true → Cls K (ca c) ∧ NoAttr K (ca c) f
  T : ∀ id f, B.T id = some f → ∃ (x qual : Str) (st : Stmt) (oc : Value) (od : Option Addr) (kV doc pm : Value) (an : Option Addr) (cdv ct : Value) (osl : Array (Option Value)),
    K.lookup (fa id) = some ⟨oc, od, .func (PySem.W.fnOf x qual (defArgs st) (defBody st) (defScope st) .none kV doc pm an cdv ct), osl⟩ ∧ PySem.W.codeIn K cdv qual = true ∧ defScope st = f.sc ∧ defBody st = f.body ∧ FnScope f.N f.ps f.sc ∧
    Binds K (PySem.W.fnOf x qual (defArgs st) (defBody st) (defScope st) .none kV doc pm an cdv ct) f.ps [] ∧ PySem.W.isFn K (.ref (fa id)) = true ∧ PySem.W.keepIn K (.ref (fa id)) = true ∧
    ∀ i, f.tab = some i → ∃ c : Addr, cdv = .ref c ∧ (i, qual) ∈ lamDefs ∧ ca i ≠ 0 ∧ (∀ p ∈ tabsOf ca, p.1 = ca i → p.2 = qual ++ ".<locals>." ++ "<lambda>") ∧ LamX.TabB base mg c (ca i)
  exc : ∀ x cc nm, B.gl x = .exc cc nm → mg x = some (.ref (ca cc)) ∧ ExcOf P K (ca cc) nm
  exf : ExF K mg ca B.gl B.ex B.xf
  told : ∀ x n hs, B.gl x = .told n hs → ToldK P K mg B.gl B.xf x n hs
section
variable {P : Program} {w : World} {K : PySem.W.Frag} {mg : Str → Option Value} {base : Heap} {ca fa : Nat → Addr} {B : Bs}
theorem start_rel [Ups] {ρ : List Addr} {H : Hp} {ws : List PV} {vs : List V} {N : List Str} (r : RVs K ρ H ws vs) : EnvR K ρ H (startP N ws) (L2.start N vs) := by
  have l := r.length
  refine ⟨by simp [startP, L2.start, l], fun i x e => ?_⟩
  unfold startP at e
  unfold L2.start
  by_cases h : i < ws.length
  · rw [List.getElem?_append_left (by simpa using h), List.getElem?_map] at e
    rw [List.getElem?_append_left (by simp; omega), List.getElem?_map]
    cases q : ws[i]? with
    | none => rw [q] at e; cases e
    | some y =>
      rw [q] at e; cases e
      obtain ⟨v, hv, rv⟩ := r.get q
      exact ⟨v, by rw [hv]; rfl, rv⟩
  · rw [List.getElem?_append_right (by simp; omega)] at e
    rw [List.getElem?_replicate] at e
    split at e <;> cases e
theorem fnk_of [Ups] (X : Cx) (h1 : X.prog = P) (h2 : X.w = w) (h3 : X.K = K) (h4 : X.mg = mg) (h5 : X.base = base) {C : CT} {id n k : Nat} {f : Fn0} (S : Sta P w K mg base ca fa B) (hT : B.T id = some f) (hn : f.ps.length = n)
    (h : ∃ fd, FnOk P w K mg base (L2.CX P w) k (fa id) fd f.ps (spC K ca n (C id)) ∧ Binds K fd f.ps []) : FnK X k ca fa C id n := by
  subst h1 h2 h3 h4 h5
  obtain ⟨fd, a, b⟩ := h
  obtain ⟨_, _, _, _, _, _, _, _, _, _, _, _, _, _, _, _, _, _, c, d, _⟩ := S.T id f hT
  exact ⟨⟨fd, f.ps, hn, a, b⟩, c, d⟩
/-- one function keeps what is said of it -/
def FnGood (P : Program) (w : World) (K : PySem.W.Frag) (mg : Str → Option Value) (base : Heap) (ca fa : Nat → Addr) (U : Ups) (k id : Nat) (f : Fn0) (F : List PV → Hh → Res PV) : Prop :=
  ∃ fd, (∃ oc od osl, K.lookup (fa id) = some ⟨oc, od, .func fd, osl⟩) ∧ FnOk P w K mg base (L2.CX P w) k (fa id) fd f.ps (spC K ca f.ps.length F) ∧ Binds K fd f.ps []
/-- a table of what functions give, kept by the functions where the unknown ones are as G says -/
def CtOk (P : Program) (w : World) (K : PySem.W.Frag) (mg : Str → Option Value) (base : Heap) (ca fa : Nat → Addr) (B : Bs) (G : Ups → Prop) (C : CT) (k : Nat) : Prop :=
  ∀ U, G U → ∀ (id : Nat) (f : Fn0), B.T id = some f → FnGood P w K mg base ca fa U k id f (C id)
theorem ctok_bad (S : Sta P w K mg base ca fa B) (G : Ups → Prop) (k : Nat) : CtOk P w K mg base ca fa B G badC k := fun U hU id f hT => by
  obtain ⟨x, qual, st, oc, od, kV, doc, pm, an, cdv, ct, osl, lk, hcd, e1, e2, S1, b1, _, _, _⟩ := S.T id f hT
  refine ⟨_, ⟨_, _, _, lk⟩, ⟨fun vs H Q E h => h.1, fun A outer s H args us vs Q E hr he hb hv h => ?_⟩, b1⟩
  obtain ⟨_, ρ, ws, hh, _, _, x⟩ := h
  exact x.elim
theorem fac0_of [U : Ups] (S : Sta P w K mg base ca fa B) {C : CT} {k : Nat} {G : Ups → Prop} (hC : CtOk P w K mg base ca fa B G C k) (hU : G U) (X : Cx) (k1 : X.prog = P) (k2 : X.w = w) (k3 : X.K = K) (k4 : X.mg = mg) (k5 : X.base = base) {Q : Pg} (q1 : ∀ x g, Q.gl x = g → g = .no ∨ B.gl x = g) (q2 : Q.mt = B.mt) (q3 : Q.at_ = B.at_) (q4 : Q.C = C)
    (q5 : Q.ex = B.ex) (q6 : Q.xf = B.xf) : Fac0 X ca fa Q k := by
  have gl : ∀ {x g}, Q.gl x = g → g ≠ .no → B.gl x = g := fun h n => (q1 _ _ h).resolve_left n
  refine { fn := fun y i m e => ?_, mkc := fun y cc i m e => ?_, con := fun y v e => ?_, blt := fun y e => ?_, tabk := fun y kvs e => by rw [k2, k3, k4]; exact S.tabk y kvs (gl e (fun z => by cases z)), mt := fun c m i j e => ?_, at_ := fun c g e => ?_, exf := ?_ }
  · obtain ⟨a, f', b, c⟩ := S.fn y i m (gl e (fun z => by cases z))
    rw [q4]
    exact ⟨by rw [k4]; exact a, fnk_of X k1 k2 k3 k4 k5 S b c (by obtain ⟨fd, _, z⟩ := hC U hU i f' b; rw [← c]; exact ⟨fd, z⟩)⟩
  · obtain ⟨a, ⟨f', b, c⟩, d⟩ := S.mkc y cc i m (gl e (fun z => by cases z))
    rw [q4]
    exact ⟨by rw [k4]; exact a, fnk_of X k1 k2 k3 k4 k5 S b c (by obtain ⟨fd, _, z⟩ := hC U hU i f' b; rw [← c]; exact ⟨fd, z⟩), by rw [k3]; exact d⟩
  · rw [k3, k4]
    obtain ⟨u, v', h1, h2, h3⟩ := S.con y v (gl e (fun z => by cases z))
    exact ⟨u, v', h1, h2, fun ρ H => h3 ρ H⟩
  · rw [k4]; exact S.blt y (gl e (fun z => by cases z))
  · rw [q2] at e
    obtain ⟨⟨f', b, c'⟩, d⟩ := S.mt c m i j e
    rw [q4]
    exact ⟨fnk_of X k1 k2 k3 k4 k5 S b c' (by obtain ⟨fd, _, z⟩ := hC U hU i f' b; rw [← c']; exact ⟨fd, z⟩), by rw [k3]; exact d⟩
  · rw [q3] at e; rw [k3]; exact S.at_ c g e
  · rw [k3, k4, q5, q6]
    exact ⟨fun x cc nm h => S.exf.mgx x cc nm (gl h (fun z => by cases z)), S.exf.exm, S.exf.xf⟩
/-- what is wished of an exception that leaves a function -/
def XE (K : PySem.W.Frag) (ca : Nat → Addr) (U : Ups) (E : XK) : WX' := fun c fs _ ρ H => ∀ d, ExD K ρ H fs d → E (.ref (ca c)) d H
/-- what is wished behind a function, at some heap -/
def Wf (K : PySem.W.Frag) (ca : Nat → Addr) (U : Ups) (ρ : List Addr) (H : Hp) (Q : VK) (E : XK) (r : Res PV) : Prop := WpQ K ca (XE K ca U E) ρ H Q r
/-- one function's body, its callees kept; it may be run at any own heap that fits -/
theorem step_ok (S : Sta P w K mg base ca fa B) {U : Ups} {k id : Nat} {f : Fn0} (hT : B.T id = some f) {F : List PV → Hh → Res PV}
    (hF : ∀ ws h ρ H vs Q (E : XK), Rel K ca ρ h H → RVs K ρ H ws vs → Wf K ca U ρ H Q E (F ws h) →
      ∃ (U' : Ups) (G : Ups → Prop) (C Cl : CT), G U' ∧ CtOk P w K mg base ca fa B G C k ∧ ((∀ x n hs, B.gl x ≠ .told n hs) ∨ ∃ k', k = k' + 2 ∧ CtOk P w K mg base ca fa B G Cl k') ∧
      ∃ ρ' ws' h', Rel K ca ρ' h' H ∧ RVs K ρ' H ws' vs ∧ Wf K ca U' ρ' H Q E (runF (B.sem f C Cl) f.N ws' h')) :
    FnGood P w K mg base ca fa U (k + 2) id f F := by
  obtain ⟨x, qual, st, oc, od, kV, doc, pm, an, cdv, ct, osl, lk, hcd, e1, e2, S1, b1, _, _, tb⟩ := S.T id f hT
  refine ⟨_, ⟨_, _, _, lk⟩, ?_, b1⟩
  have S1' : FnScope f.N f.ps (defScope st) := by rw [e1]; exact S1
  refine fn_of (k := k + 1) lk hcd S1' (fun vs H Q E h => h.1) fun A outer s H vs Q E hr h => ?_
  obtain ⟨hl', ρ0, ws0, hh0, R0, rw0, x0⟩ := h
  obtain ⟨U', Gu, C, Cl, hU, hC, hl, ρ, ws, hh, R, rw_, hx⟩ := hF ws0 hh0 ρ0 H vs Q E R0 rw0 x0
  clear rw0 R0 x0
  have hx : WpQ K ca (XE K ca U' E) ρ H Q (runF (B.sem f C Cl) f.N ws hh) := hx
  generalize hX : cxOf (L2.CX P w) P w K mg base f.N qual (defScope st) (fa id) cdv A outer s H E = X
  have k1 : X.prog = P := by rw [← hX]; rfl
  have k2 : X.w = w := by rw [← hX]; rfl
  have k3 : X.K = K := by rw [← hX]; rfl
  have k4 : X.mg = mg := by rw [← hX]; rfl
  have k5 : X.base = base := by rw [← hX]; rfl
  have kA : X.A = A.deeper (envOfC qual (defScope st) s.heap.objs.size (fa id) cdv) := by rw [← hX]; rfl
  have hr' : Room (k + 1) X.A := by rw [kA]; exact hr
  have tk : Takes X (fun cls d _ H => E cls d H) := by rw [← hX]; exact takes_of (E := E) rfl rfl rfl rfl
  have po : PassesOwn (model X.prog X.w) X.A X.env X.xe := by rw [← hX]; exact passes_of rfl
  have G : Gs X ca (fun cls d _ H => E cls d H) (B.pg f C Cl) f.sc (fun _ => true) := by
    refine { c := ⟨?_, ?_, ?_, tk⟩, sc := ?_, N := ?_, fb := ?_, tab := ?_, po := po, stk := ?_, frm := ?_ }
    · rw [← hX]; exact S1.nd
    · rw [← hX]; rfl
    · have := hr'.un; omega
    · rw [← hX]; exact e1
    · rw [← hX]; rfl
    · intro y _; rw [← hX]; rfl
    · intro i hi
      obtain ⟨c, t1, t2, t3, t4, t5⟩ := tb i hi
      exact ⟨qual, c, t2, t3, t4, by rw [← hX]; rfl, by rw [← hX]; exact t1, by rw [k4, k5]; exact t5⟩
    · rw [← hX]; rfl
    · rw [← hX]; rfl
  have Fa : @Fac U' X ca fa (B.pg f C Cl) k := {
    toFac0 := fac0_of (U := U') S hC hU X k1 k2 k3 k4 k5 (fun x g h => .inr h) rfl rfl rfl rfl rfl
    told := fun x n hs h => by
      refine ⟨by rw [k1, k3, k4]; exact S.told x n hs h, ?_⟩
      rcases hl with z | ⟨k', ek, hCl⟩
      · exact absurd h (z x n hs)
      · refine ⟨k', ek, fac0_of (U := U') S hCl hU X k1 k2 k3 k4 k5 (fun x g h => ?_) rfl rfl rfl rfl rfl⟩
        have h : (match B.gl x with
          | .told _ _ => Gn.no
          | g => g) = g := h
        cases e : B.gl x <;> rw [e] at h <;> first | exact .inr h | exact .inl h.symm }
  have Ex : @ExcK U' X ca (B.pg f C Cl) k := fun Y W a1 a2 a3 a4 a5 cok hrY x cc nm hx hg hdb es fl p pos hne Ar => by
    obtain ⟨m1, m2⟩ := S.exc x cc nm hx
    exact exc_mk (by rw [a1, a3, k1, k3]; exact m2) (by rw [a4, k4]; exact m1) (hrY.mono (Nat.succ_le_succ (Nat.zero_le _))) hg hdb hne Ar
  have main := dnSs_ok (ca := ca) (fa := fa) (P := B.pg f C Cl) (k := k) 40 40 X _ Fa Ex hr' G f.body
  refine ⟨tS X.K ca (fun cls d _ H => E cls d H) (B.sem f C Cl), by rw [e2]; exact main, ρ, startP f.N ws, hh, by rw [k3]; exact R, by rw [k3]; exact start_rel rw_, ?_⟩
  rw [k3]
  have hx : WpQ K ca (XE K ca U' E) ρ H Q (match B.sem f C Cl (startP f.N ws) hh with
    | .nx _ h => .ok .non h
    | .rt w h => .ok w h
    | .exc c fs _ h => .exc c fs h
    | _ => .bad) := hx
  show WpS K ca _ ρ H _ (B.sem f C Cl (startP f.N ws) hh)
  cases z : B.sem f C Cl (startP f.N ws) hh with
  | nx τ h => rw [z] at hx; exact fun ρ' H' σ' e R' T' => hx ρ' H' .non e R' ((RV.non_ _).mpr rfl)
  | rt v h => rw [z] at hx; exact fun ρ' H' u e R' q => hx ρ' H' u e R' q
  | bk τ h => rw [z] at hx; exact hx.elim
  | ct τ h => rw [z] at hx; exact hx.elim
  | exc c fs τ h => rw [z] at hx; exact fun ρ' H' σ' e R' T' => hx ρ' H' e R'
  | bad => rw [z] at hx; exact hx.elim
/-- the program's own tables -/
theorem ctok_step (S : Sta P w K mg base ca fa B) {G : Ups → Prop} {C Cl : CT} {k : Nat} (hC : CtOk P w K mg base ca fa B G C k) (hl : (∀ x n hs, B.gl x ≠ .told n hs) ∨ ∃ k', k = k' + 2 ∧ CtOk P w K mg base ca fa B G Cl k') : CtOk P w K mg base ca fa B G (B.step C Cl) (k + 2) := fun U hU id f hT =>
  step_ok S hT fun ws h ρ H vs Q E R r x => ⟨U, G, C, Cl, hU, hC, hl, ρ, ws, h, R, r, by
    have e : B.step C Cl id ws h = runF (B.sem f C Cl) f.N ws h := by
      unfold Bs.step
      rw [hT]
    rw [← e]
    exact x⟩
theorem ctok_call (S : Sta P w K mg base ca fa B) (G : Ups → Prop) : ∀ n, CtOk P w K mg base ca fa B G (B.call n) (2 * n + 2) ∧ CtOk P w K mg base ca fa B G (B.call (n + 1)) (2 * (n + 1) + 2)
  | 0 => ⟨ctok_bad S G _, ctok_step S (ctok_bad S G 2) (.inr ⟨0, rfl, ctok_bad S G 0⟩)⟩
  | n + 1 => ⟨(ctok_call S G n).2, ctok_step S (ctok_call S G n).2 (.inr ⟨2 * n + 2, rfl, (ctok_call S G n).1⟩)⟩
end
end DD
set_option Elab.async false
set_option linter.all false
set_option maxRecDepth 100000
set_option maxHeartbeats 4000000
/-! EA: an own run carried from one own heap to another: things renumbered, what is left over dropped. -/
namespace DD
open PySem PySem.Spec PyProof.Rows L2

section
variable (Φ : Nat → Nat → Prop)
mutual
/-- the same value, things renumbered -/
def Rn : PV → PV → Prop
  | .non, w => w = .non
  | .bl b, w => w = .bl b
  | .int i, w => w = .int i
  | .str x, w => w = .str x
  | .unk n, w => w = .unk n
  | .obj i, w => ∃ j, Φ i j ∧ w = .obj j
  | .tup xs, w => ∃ ys, w = .tup ys ∧ Rns xs ys
  | .exn _ _, _ => False
def Rns : List PV → List PV → Prop
  | [], ys => ys = []
  | x :: xs, ys => ∃ y t, ys = y :: t ∧ Rn x y ∧ Rns xs t
end
def RnF {κ : Type} : List (κ × PV) → List (κ × PV) → Prop
  | [], ys => ys = []
  | (k, x) :: xs, ys => ∃ y t, ys = (k, y) :: t ∧ Rn Φ x y ∧ RnF xs t
def RnO : Ob → Ob → Prop
  | .lst xs, o => ∃ ys, o = .lst ys ∧ Rns Φ xs ys
  | .dct xs, o => ∃ ys, o = .dct ys ∧ RnF Φ xs ys
  | .ins c xs, o => ∃ ys, o = .ins c ys ∧ RnF Φ xs ys
  | .frz u, o => ∃ v, o = .frz v ∧ RnO u v
end
mutual
def pureB : PV → Bool
  | .obj _ => false
  | .exn _ _ => false
  | .tup xs => puresB xs
  | _ => true
def puresB : List PV → Bool
  | [] => true
  | x :: xs => pureB x && puresB xs
end
def pureF {κ : Type} : List (κ × PV) → Bool
  | [] => true
  | (_, x) :: xs => pureB x && pureF xs
section
variable {Φ Ψ : Nat → Nat → Prop}
mutual
theorem Rn.pure : ∀ {w : PV}, pureB w = true → Rn Φ w w
  | .non, _ => by simp [Rn]
  | .bl _, _ => by simp [Rn]
  | .int _, _ => by simp [Rn]
  | .str _, _ => by simp [Rn]
  | .unk _, _ => by simp [Rn]
  | .obj _, h => by simp [pureB] at h
  | .exn _ _, h => by simp [pureB] at h
  | .tup xs, h => by
    unfold Rn
    exact ⟨xs, rfl, Rns.pure (by simpa [pureB] using h)⟩
theorem Rns.pure : ∀ {ws : List PV}, puresB ws = true → Rns Φ ws ws
  | [], _ => by unfold Rns; rfl
  | x :: xs, h => by
    have h : (pureB x && puresB xs) = true := by simpa [puresB] using h
    rw [Bool.and_eq_true] at h
    unfold Rns
    exact ⟨x, xs, rfl, Rn.pure h.1, Rns.pure h.2⟩
end
theorem RnF.pure {κ : Type} : ∀ {ws : List (κ × PV)}, pureF ws = true → RnF Φ ws ws
  | [], _ => rfl
  | (k, x) :: xs, h => by
    have h : (pureB x && pureF xs) = true := h
    rw [Bool.and_eq_true] at h
    exact ⟨x, xs, rfl, Rn.pure h.1, RnF.pure h.2⟩
mutual
theorem Rn.mono (m : ∀ i j, Φ i j → Ψ i j) : ∀ {w w1 : PV}, Rn Φ w w1 → Rn Ψ w w1
  | .non, _, h => by simpa [Rn] using h
  | .bl _, _, h => by simpa [Rn] using h
  | .int _, _, h => by simpa [Rn] using h
  | .str _, _, h => by simpa [Rn] using h
  | .unk _, _, h => by simpa [Rn] using h
  | .obj i, _, h => by
    unfold Rn at h ⊢
    obtain ⟨j, a, b⟩ := h
    exact ⟨j, m i j a, b⟩
  | .exn _ _, _, h => by simp [Rn] at h
  | .tup xs, _, h => by
    unfold Rn at h ⊢
    obtain ⟨ys, a, b⟩ := h
    exact ⟨ys, a, Rns.mono m b⟩
theorem Rns.mono (m : ∀ i j, Φ i j → Ψ i j) : ∀ {w w1 : List PV}, Rns Φ w w1 → Rns Ψ w w1
  | [], _, h => by simpa [Rns] using h
  | x :: xs, _, h => by
    unfold Rns at h ⊢
    obtain ⟨y, t, a, b, c⟩ := h
    exact ⟨y, t, a, Rn.mono m b, Rns.mono m c⟩
end
theorem RnF.mono {κ : Type} (m : ∀ i j, Φ i j → Ψ i j) : ∀ {w w1 : List (κ × PV)}, RnF Φ w w1 → RnF Ψ w w1
  | [], _, h => h
  | (k, x) :: xs, _, ⟨y, t, a, b, c⟩ => ⟨y, t, a, Rn.mono m b, RnF.mono m c⟩
theorem RnO.mono (m : ∀ i j, Φ i j → Ψ i j) : ∀ {w w1 : Ob}, RnO Φ w w1 → RnO Ψ w w1
  | .lst _, _, ⟨ys, a, b⟩ => ⟨ys, a, Rns.mono m b⟩
  | .dct _, _, ⟨ys, a, b⟩ => ⟨ys, a, RnF.mono m b⟩
  | .ins _ _, _, ⟨ys, a, b⟩ => ⟨ys, a, RnF.mono m b⟩
  | .frz _, _, ⟨v, a, b⟩ => ⟨v, a, RnO.mono m b⟩
end
section
variable [Ups] {K : PySem.W.Frag} {ca : Nat → Addr} {Φ : Nat → Nat → Prop} {ρ ρ' : List Addr} {H : Hp}
mutual
theorem Rn.rv (m : ∀ i j, Φ i j → ∀ a, ρ'[i]? = some a ↔ ρ[j]? = some a) : ∀ {w w1 : PV}, Rn Φ w w1 → ∀ v, RV K ρ' H w v ↔ RV K ρ H w1 v
  | .non, _, h, v => by unfold Rn at h; subst h; simp only [RV.non_]
  | .bl _, _, h, v => by unfold Rn at h; subst h; simp only [RV.bl_]
  | .int _, _, h, v => by unfold Rn at h; subst h; simp only [RV.int_]
  | .str _, _, h, v => by unfold Rn at h; subst h; simp only [RV.str_]
  | .unk _, _, h, v => by unfold Rn at h; subst h; simp only [RV.unk_]
  | .obj i, _, h, v => by
    unfold Rn at h
    obtain ⟨j, a, rfl⟩ := h
    rw [RV.obj_, RV.obj_]
    exact ⟨fun ⟨x, y, z⟩ => ⟨x, (m i j a x).mp y, z⟩, fun ⟨x, y, z⟩ => ⟨x, (m i j a x).mpr y, z⟩⟩
  | .exn _ _, _, h, _ => by simp [Rn] at h
  | .tup xs, _, h, v => by
    unfold Rn at h
    obtain ⟨ys, rfl, h⟩ := h
    rw [RV.tup_, RV.tup_]
    exact ⟨fun ⟨x, y, z, s, t⟩ => ⟨x, y, z, s, (Rns.rv m h y).mp t⟩, fun ⟨x, y, z, s, t⟩ => ⟨x, y, z, s, (Rns.rv m h y).mpr t⟩⟩
theorem Rns.rv (m : ∀ i j, Φ i j → ∀ a, ρ'[i]? = some a ↔ ρ[j]? = some a) : ∀ {w w1 : List PV}, Rns Φ w w1 → ∀ v, RVs K ρ' H w v ↔ RVs K ρ H w1 v
  | [], _, h, v => by unfold Rns at h; subst h; unfold RVs; exact Iff.rfl
  | x :: xs, _, h, v => by
    unfold Rns at h
    obtain ⟨y, t, rfl, h1, h2⟩ := h
    constructor
    · intro r
      obtain ⟨v1, vs, rfl, a, b⟩ := r.inv
      exact .cons ((Rn.rv m h1 v1).mp a) ((Rns.rv m h2 vs).mp b)
    · intro r
      obtain ⟨v1, vs, rfl, a, b⟩ := r.inv
      exact .cons ((Rn.rv m h1 v1).mpr a) ((Rns.rv m h2 vs).mpr b)
end
theorem RnF.rv {κ : Type} (m : ∀ i j, Φ i j → ∀ a, ρ'[i]? = some a ↔ ρ[j]? = some a) : ∀ {w w1 : List (κ × PV)}, RnF Φ w w1 → ∀ v, RFs K ρ' H w v ↔ RFs K ρ H w1 v
  | [], _, h, v => by
    have h := (show _ = [] from h)
    subst h
    exact Iff.rfl
  | (k, x) :: xs, _, ⟨y, t, e, h1, h2⟩, v => by
    subst e
    exact ⟨fun ⟨v1, vs, e, a, b⟩ => ⟨v1, vs, e, (Rn.rv m h1 v1).mp a, (RnF.rv m h2 vs).mp b⟩, fun ⟨v1, vs, e, a, b⟩ => ⟨v1, vs, e, (Rn.rv m h1 v1).mpr a, (RnF.rv m h2 vs).mpr b⟩⟩
theorem RnO.rv (m : ∀ i j, Φ i j → ∀ a, ρ'[i]? = some a ↔ ρ[j]? = some a) : ∀ {w w1 : Ob}, RnO Φ w w1 → ∀ u, RO K ρ' H ca w u ↔ RO K ρ H ca w1 u
  | .lst _, _, ⟨ys, e, b⟩, u => by subst e; exact ⟨fun ⟨v, e, z⟩ => ⟨v, e, (Rns.rv m b v).mp z⟩, fun ⟨v, e, z⟩ => ⟨v, e, (Rns.rv m b v).mpr z⟩⟩
  | .dct _, _, ⟨ys, e, b⟩, u => by subst e; exact ⟨fun ⟨v, e, z⟩ => ⟨v, e, (RnF.rv m b v).mp z⟩, fun ⟨v, e, z⟩ => ⟨v, e, (RnF.rv m b v).mpr z⟩⟩
  | .ins _ _, _, ⟨ys, e, b⟩, u => by subst e; exact ⟨fun ⟨d, v, e, z⟩ => ⟨d, v, e, (RnF.rv m b v).mp z⟩, fun ⟨d, v, e, z⟩ => ⟨d, v, e, (RnF.rv m b v).mpr z⟩⟩
  | .frz _, _, ⟨v, e, b⟩, u => by subst e; exact ⟨fun ⟨d, v, e, z, q⟩ => ⟨d, v, e, (RnO.rv m b v).mp z, q⟩, fun ⟨d, v, e, z, q⟩ => ⟨d, v, e, (RnO.rv m b v).mpr z, q⟩⟩
end
/-! ### heaps of a few things -/
def mkH (os : List Ob) : Hh := os.foldl Hh.push Hh.nil
theorem foldH : ∀ (os : List Ob) (h : Hh), (os.foldl Hh.push h).n = h.n + os.length ∧ ∀ i, (os.foldl Hh.push h).get i = if i < h.n then h.get i else os[i - h.n]?
  | [], h => ⟨rfl, fun i => by
    show h.get i = _
    by_cases q : i < h.n
    · rw [if_pos q]
    · rw [if_neg q, Hh.get_ge (Nat.le_of_not_lt q)]; simp⟩
  | o :: os, h => by
    obtain ⟨a, b⟩ := foldH os (h.push o)
    refine ⟨by show (os.foldl Hh.push (h.push o)).n = _; rw [a, Hh.n_push, List.length_cons]; omega, fun i => ?_⟩
    show (os.foldl Hh.push (h.push o)).get i = _
    rw [b, Hh.n_push, Hh.get_push]
    by_cases q : i < h.n
    · rw [if_pos (by omega), if_neg (by omega), if_pos q]
    · rw [if_neg q]
      by_cases e : i = h.n
      · subst e
        rw [if_pos (by omega), if_pos rfl]
        simp
      · rw [if_neg (by omega)]
        have : i - h.n = (i - (h.n + 1)) + 1 := by omega
        rw [this, List.getElem?_cons_succ]
theorem mkH_n (os : List Ob) : (mkH os).n = os.length := by
  have := (foldH os Hh.nil).1
  show (os.foldl Hh.push Hh.nil).n = _
  rw [this]
  show 0 + _ = _
  omega
theorem mkH_get (os : List Ob) (i : Nat) : (mkH os).get i = os[i]? := by
  have := (foldH os Hh.nil).2 i
  show (os.foldl Hh.push Hh.nil).get i = _
  rw [this, if_neg (show ¬ i < Hh.nil.n from Nat.not_lt_zero i)]
  rfl
section
variable [U : Ups] {K : PySem.W.Frag} {ca : Nat → Addr} {ρ ρ1 : List Addr} {h h1 h2 : Hh} {H H1 : Hp}
/-- some of our things -/
def subR (ρ : List Addr) (φ : List Nat) : List Addr := φ.map fun j => ρ.getD j 0
theorem subR_at {φ : List Nat} (R : Rel K ca ρ h H) (lt : ∀ j ∈ φ, j < h.n) {i j : Nat} (e : φ[i]? = some j) (a : Addr) : (subR ρ φ)[i]? = some a ↔ ρ[j]? = some a := by
  have hj : j < ρ.length := by rw [R.len]; exact lt j (List.mem_of_getElem? e)
  unfold subR
  rw [List.getElem?_map, e]
  simp [List.getD, hj]
theorem subR_len (φ : List Nat) : (subR ρ φ).length = φ.length := by simp [subR]
theorem subR_mem {φ : List Nat} (R : Rel K ca ρ h H) (lt : ∀ j ∈ φ, j < h.n) {a : Addr} (m : a ∈ subR ρ φ) : ∃ j ∈ φ, ρ[j]? = some a := by
  obtain ⟨i, hi⟩ := List.getElem?_of_mem m
  have hl := (List.getElem?_eq_some_iff.mp hi).1
  rw [subR_len] at hl
  have e : φ[i]? = some φ[i] := by simp [hl]
  exact ⟨φ[i], List.getElem_mem hl, (subR_at R lt e a).mp hi⟩
theorem subR_nd : ∀ {φ : List Nat} (R : Rel K ca ρ h H) (lt : ∀ j ∈ φ, j < h.n), φ.Nodup → (subR ρ φ).Nodup
  | [], _, _, _ => List.nodup_nil
  | j :: φ, R, lt, nd => by
    rw [List.nodup_cons] at nd
    have lt' : ∀ j ∈ φ, j < h.n := fun k hk => lt k (List.mem_cons_of_mem _ hk)
    show (ρ.getD j 0 :: subR ρ φ).Nodup
    rw [List.nodup_cons]
    refine ⟨fun m => ?_, subR_nd R lt' nd.2⟩
    obtain ⟨k, hk, e⟩ := subR_mem R lt' m
    have hj : j < ρ.length := by rw [R.len]; exact lt j List.mem_cons_self
    have e2 : ρ[j]? = some (ρ.getD j 0) := by simp [List.getD, hj]
    have := nodup_at R.nd e2 e
    subst this
    exact nd.1 hk
/-- our things, renumbered -/
theorem Rel.sub {φ : List Nat} (R : Rel K ca ρ h H) (lt : ∀ j ∈ φ, j < h.n) (nd : φ.Nodup) {h' : Hh} (hn : h'.n = φ.length) (c : ∀ i j, φ[i]? = some j → ∃ o' o, h'.get i = some o' ∧ h.get j = some o ∧ RnO (fun i j => φ[i]? = some j) o' o) : Rel K ca (subR ρ φ) h' H := by
  refine ⟨by rw [subR_len, hn], subR_nd R lt nd, fun i a e => ?_, R.tb⟩
  have hl := (List.getElem?_eq_some_iff.mp e).1
  rw [subR_len] at hl
  have ej : φ[i]? = some φ[i] := by simp [hl]
  obtain ⟨o', o, g1, g2, r⟩ := c i _ ej
  obtain ⟨o2, u, g3, g4, ro⟩ := R.at_ _ a ((subR_at R lt ej a).mp e)
  rw [g2] at g3; cases g3
  exact ⟨o', u, g1, g4, (r.rv (fun i j e a => subR_at R lt e a) u).mpr ro⟩
/-- which is which behind a run -/
def Phi (n : Nat) (φ nw : List Nat) (i j : Nat) : Prop := φ[i]? = some j ∨ ∃ k, nw[k]? = some i ∧ j = n + k
structure Back (h : Hh) (φ nw : List Nat) (h2 h1 : Hh) : Prop where
  n1 : h1.n = h.n + nw.length
  nd : nw.Nodup
  ge : ∀ i ∈ nw, φ.length ≤ i ∧ i < h2.n
  c1 : ∀ i j, φ[i]? = some j → ∃ o' o, h2.get i = some o' ∧ h1.get j = some o ∧ RnO (Phi h.n φ nw) o' o
  c2 : ∀ j, j < h.n → j ∉ φ → h1.get j = h.get j
  c3 : ∀ k i, nw[k]? = some i → ∃ o' o, h2.get i = some o' ∧ h1.get (h.n + k) = some o ∧ RnO (Phi h.n φ nw) o' o
theorem Back.rel {φ nw : List Nat} (B : Back h φ nw h2 h1) (R : Rel K ca ρ h H) (lt : ∀ j ∈ φ, j < h.n) (nd : φ.Nodup) (E : Ext (subR ρ φ) H ρ1 H1) (R1 : Rel K ca ρ1 h2 H1) :
    ∃ ρ2, Ext ρ H ρ2 H1 ∧ Rel K ca ρ2 h1 H1 ∧ ∀ i j, Phi h.n φ nw i j → ∀ a, ρ1[i]? = some a ↔ ρ2[j]? = some a := by
  have E0 := E
  obtain ⟨⟨⟨m, em, fm⟩, keep, dom⟩, frz⟩ := E
  have lenR := R.len
  have ph : ∀ i j, Phi h.n φ nw i j → ∀ a, ρ1[i]? = some a ↔ (ρ ++ nw.map fun i => ρ1.getD i 0)[j]? = some a := by
    intro i j p a
    rcases p with p | ⟨k, p, rfl⟩
    · have hi : i < (subR ρ φ).length := by rw [subR_len]; exact (List.getElem?_eq_some_iff.mp p).1
      have hj : j < ρ.length := by rw [lenR]; exact lt j (List.mem_of_getElem? p)
      rw [em, List.getElem?_append_left hi, List.getElem?_append_left hj]
      exact subR_at R lt p a
    · have hi : i < ρ1.length := by rw [R1.len]; exact (B.ge i (List.mem_of_getElem? p)).2
      rw [List.getElem?_append_right (by omega), show h.n + k - ρ.length = k by omega, List.getElem?_map, p]
      simp [List.getD, hi]
  have newA : ∀ a ∈ nw.map (fun i => ρ1.getD i 0), ∃ i ∈ nw, ρ1[i]? = some a ∧ a ∈ m := by
    intro a ha
    obtain ⟨i, hi, rfl⟩ := List.mem_map.mp ha
    have hl : i < ρ1.length := by rw [R1.len]; exact (B.ge i hi).2
    have e : ρ1[i]? = some (ρ1.getD i 0) := by simp [List.getD, hl]
    refine ⟨i, hi, e, ?_⟩
    have hg := (B.ge i hi).1
    have e2 := e
    rw [em, List.getElem?_append_right (by rw [subR_len]; exact hg), ← em] at e2
    exact List.mem_of_getElem? e2
  have nin : ∀ a ∈ m, a ∉ ρ := by
    intro a ha hr
    obtain ⟨j, hj⟩ := List.getElem?_of_mem hr
    obtain ⟨o, u, _, hu, ro⟩ := R.at_ j a hj
    have := fm a ha
    rw [hu] at this
    exact this.not ro.kind.1
  have sub : ∀ a, a ∉ ρ → a ∉ subR ρ φ := fun a n z => by
    obtain ⟨j, _, e⟩ := subR_mem R lt z
    exact n (List.mem_of_getElem? e)
  have Ex : Ext ρ H (ρ ++ nw.map fun i => ρ1.getD i 0) H1 := ⟨⟨⟨_, rfl, fun a ha => by
    obtain ⟨_, _, _, q⟩ := newA a ha
    exact fm a q⟩, fun a o e n t => keep a o e (sub a n) t, dom⟩, frz⟩
  refine ⟨_, Ex, ⟨?_, ?_, fun j a e => ?_, R1.tb⟩, ph⟩
  · rw [List.length_append, List.length_map, lenR, B.n1]
  · rw [List.nodup_append]
    refine ⟨R.nd, ?_, fun a ha b hb z => ?_⟩
    · have gen : ∀ l : List Nat, l.Nodup → (∀ i ∈ l, i < ρ1.length) → (l.map fun i => ρ1.getD i 0).Nodup := by
        intro l
        induction l with
        | nil => intro _ _; exact List.nodup_nil
        | cons i l ih =>
          intro nl hl
          rw [List.nodup_cons] at nl
          rw [List.map_cons, List.nodup_cons]
          refine ⟨fun mm => ?_, ih nl.2 fun k hk => hl k (List.mem_cons_of_mem _ hk)⟩
          obtain ⟨k, hk, ek⟩ := List.mem_map.mp mm
          have e1 : ρ1[i]? = some (ρ1.getD i 0) := by simp [List.getD, hl i List.mem_cons_self]
          have e2 : ρ1[k]? = some (ρ1.getD i 0) := by rw [← ek]; simp [List.getD, hl k (List.mem_cons_of_mem _ hk)]
          have := nodup_at R1.nd e1 e2
          subst this
          exact nl.1 hk
      exact gen nw B.nd fun i hi => by rw [R1.len]; exact (B.ge i hi).2
    · subst z
      obtain ⟨_, _, _, q⟩ := newA a hb
      exact nin a q ha
  · by_cases hj : j < h.n
    · rw [List.getElem?_append_left (by omega)] at e
      by_cases hm : j ∈ φ
      · obtain ⟨i, hi⟩ := List.getElem?_of_mem hm
        obtain ⟨o', o, g1, g2, r⟩ := B.c1 i j hi
        have p : Phi h.n φ nw i j := .inl hi
        have e1 : ρ1[i]? = some a := (ph i j p a).mpr (by rw [List.getElem?_append_left (by omega)]; exact e)
        obtain ⟨o2, u, g3, g4, ro⟩ := R1.at_ i a e1
        rw [g1] at g3; cases g3
        exact ⟨o, u, g2, g4, (r.rv ph u).mp ro⟩
      · obtain ⟨o, u, g1, g2, ro⟩ := R.at_ j a e
        have na : a ∉ subR ρ φ := fun z => by
          obtain ⟨k, hk, ek⟩ := subR_mem R lt z
          have := nodup_at R.nd e ek
          subst this
          exact hm hk
        exact ⟨o, u, by rw [B.c2 j hj hm]; exact g1, keep a u g2 na ro.kind.1, RO.ext R Ex o u ro⟩
    · have hl := (List.getElem?_eq_some_iff.mp e).1
      rw [List.length_append, List.length_map, lenR] at hl
      have hk : j - h.n < nw.length := by omega
      have ek : nw[j - h.n]? = some nw[j - h.n] := by simp [hk]
      obtain ⟨o', o, g1, g2, r⟩ := B.c3 _ _ ek
      have p : Phi h.n φ nw nw[j - h.n] j := .inr ⟨j - h.n, ek, by omega⟩
      have e1 := (ph _ j p a).mpr e
      obtain ⟨o2, u, g3, g4, ro⟩ := R1.at_ _ a e1
      rw [g1] at g3; cases g3
      exact ⟨o, u, by rw [← g2]; congr 1; omega, g4, (r.rv ph u).mp ro⟩
/-- what a run gives, carried over -/
def RnR (h : Hh) (φ : List Nat) : Res PV → Res PV → Prop
  | .ok w' h2, r => ∃ nw w h1, r = .ok w h1 ∧ Back h φ nw h2 h1 ∧ Rn (Phi h.n φ nw) w' w
  | .exc c fs' h2, r => ∃ nw fs h1, r = .exc c fs h1 ∧ Back h φ nw h2 h1 ∧ RnF (Phi h.n φ nw) fs' fs
  | .bad, r => r = .bad
theorem RnR.wf {φ : List Nat} {r' r : Res PV} {Q : VK} {E : XK} (R : Rel K ca ρ h H) (lt : ∀ j ∈ φ, j < h.n) (nd : φ.Nodup) (q : RnR h φ r' r) (x : Wf K ca U ρ H Q E r) : Wf K ca U (subR ρ φ) H Q E r' := by
  cases r' with
  | bad =>
    have q : r = .bad := q
    subst q
    exact x.elim
  | ok w' h2 =>
    obtain ⟨nw, w, h1, rfl, B, rw'⟩ := q
    intro ρ1 H1 v E1 R1 rv
    obtain ⟨ρ2, E2, R2, ph⟩ := B.rel R lt nd E1 R1
    exact x ρ2 H1 v E2 R2 ((rw'.rv ph v).mp rv)
  | exc c fs' h2 =>
    obtain ⟨nw, fs, h1, rfl, B, rf⟩ := q
    intro ρ1 H1 E1 R1 d hd
    obtain ⟨ρ2, E2, R2, ph⟩ := B.rel R lt nd E1 R1
    refine x ρ2 H1 E2 R2 d ?_
    rcases hd with ⟨a, b⟩ | ⟨dd, vs, a, b, c⟩
    · subst a
      have rf := (show fs = [] from rf)
      exact .inl ⟨rf, b⟩
    · exact .inr ⟨dd, vs, a, b, (rf.rv ph vs).mp c⟩
end
end DD
set_option Elab.async false
set_option linter.all false
set_option maxRecDepth 100000
set_option maxHeartbeats 4000000
/-! EB: own heaps as lists; rules by which simp runs own readings. -/
namespace DD
open PySem PySem.Spec PyProof.Rows L2

/-! ### the tree does not tell in which order it was filled -/
theorem Tr.set_nil (d i : Nat) (o : Ob) : Tr.set (d + 1) .nil i o = Tr.set (d + 1) (.node none .nil .nil) i o := rfl
theorem Tr.set_bkt (d i : Nat) (o : Ob) (xs : List (Nat × Ob)) : Tr.set (d + 1) (.bkt xs) i o = Tr.set (d + 1) (.node none .nil .nil) i o := rfl
theorem Tr.set_set (a b : Ob) : ∀ (d : Nat) (t : Tr) (i : Nat), i + 1 < 2 ^ d → Tr.set d (Tr.set d t i a) i b = Tr.set d t i b
  | 0, t, i, h => by simp at h
  | d + 1, t, i, h => by
    have key : ∀ (v : Option Ob) (l r : Tr), Tr.set (d + 1) (Tr.set (d + 1) (.node v l r) i a) i b = Tr.set (d + 1) (.node v l r) i b := by
      intro v l r
      rw [Tr.set_node, Tr.set_node]
      by_cases h0 : i = 0
      · rw [if_pos h0, if_pos h0, Tr.set_node, if_pos h0]
      · rw [if_neg h0, if_neg h0]
        by_cases h1 : i % 2 = 1
        · rw [if_pos h1, if_pos h1, Tr.set_node, if_neg h0, if_pos h1, Tr.set_set a b d l (i / 2) (by rw [Nat.pow_succ] at h; omega)]
        · rw [if_neg h1, if_neg h1, Tr.set_node, if_neg h0, if_neg h1, Tr.set_set a b d r (i / 2 - 1) (by rw [Nat.pow_succ] at h; omega)]
    cases t with
    | node v l r => exact key v l r
    | nil => rw [Tr.set_nil d i a, Tr.set_nil d i b]; exact key _ _ _
    | bkt xs => rw [Tr.set_bkt d i a, Tr.set_bkt d i b]; exact key _ _ _
theorem Tr.set_comm (a b : Ob) : ∀ (d : Nat) (t : Tr) (i j : Nat), i ≠ j → i + 1 < 2 ^ d → j + 1 < 2 ^ d → Tr.set d (Tr.set d t i a) j b = Tr.set d (Tr.set d t j b) i a
  | 0, t, i, j, _, h, _ => by simp at h
  | d + 1, t, i, j, ne, h, g => by
    have key : ∀ (v : Option Ob) (l r : Tr), Tr.set (d + 1) (Tr.set (d + 1) (.node v l r) i a) j b = Tr.set (d + 1) (Tr.set (d + 1) (.node v l r) j b) i a := by
      intro v l r
      rw [Tr.set_node d v l r i a, Tr.set_node d v l r j b]
      by_cases hi : i = 0
      · have hj : j ≠ 0 := fun z => ne (by omega)
        rw [if_pos hi, if_neg hj, Tr.set_node, if_neg hj]
        by_cases pj : j % 2 = 1
        · rw [if_pos pj, if_pos pj, Tr.set_node, if_pos hi]
        · rw [if_neg pj, if_neg pj, Tr.set_node, if_pos hi]
      · rw [if_neg hi]
        by_cases hj : j = 0
        · rw [if_pos hj]
          by_cases pi : i % 2 = 1
          · rw [if_pos pi, Tr.set_node, if_pos hj, Tr.set_node, if_neg hi, if_pos pi]
          · rw [if_neg pi, Tr.set_node, if_pos hj, Tr.set_node, if_neg hi, if_neg pi]
        · rw [if_neg hj]
          by_cases pi : i % 2 = 1
          · rw [if_pos pi, Tr.set_node, if_neg hj]
            by_cases pj : j % 2 = 1
            · rw [if_pos pj, if_pos pj, Tr.set_node, if_neg hi, if_pos pi, Tr.set_comm a b d l (i / 2) (j / 2) (by omega) (by rw [Nat.pow_succ] at h; omega) (by rw [Nat.pow_succ] at g; omega)]
            · rw [if_neg pj, if_neg pj, Tr.set_node, if_neg hi, if_pos pi]
          · rw [if_neg pi, Tr.set_node, if_neg hj]
            by_cases pj : j % 2 = 1
            · rw [if_pos pj, if_pos pj, Tr.set_node, if_neg hi, if_neg pi]
            · rw [if_neg pj, if_neg pj, Tr.set_node, if_neg hi, if_neg pi, Tr.set_comm a b d r (i / 2 - 1) (j / 2 - 1) (by omega) (by rw [Nat.pow_succ] at h; omega) (by rw [Nat.pow_succ] at g; omega)]
    cases t with
    | node v l r => exact key v l r
    | nil => rw [Tr.set_nil d i a, Tr.set_nil d j b]; exact key _ _ _
    | bkt xs => rw [Tr.set_bkt d i a, Tr.set_bkt d j b]; exact key _ _ _
theorem mkH_push (os : List Ob) (o : Ob) : (mkH os).push o = mkH (os ++ [o]) := by
  unfold mkH
  rw [List.foldl_append]
  rfl
theorem put_foldl (i : Nat) (o : Ob) : ∀ (os : List Ob) (h : Hh), i < h.n → h.n + os.length < 16000000 → (os.foldl Hh.push h).put i o = os.foldl Hh.push (h.put i o)
  | [], _, _, _ => rfl
  | x :: os, h, hi, hb => by
    rw [List.length_cons] at hb
    show (os.foldl Hh.push (h.push x)).put i o = os.foldl Hh.push ((h.put i o).push x)
    rw [put_foldl i o os (h.push x) (by rw [Hh.n_push]; omega) (by rw [Hh.n_push]; omega)]
    congr 1
    show (⟨h.n + 1, (h.t.set 24 h.n x).set 24 i o⟩ : Hh) = ⟨h.n + 1, (h.t.set 24 i o).set 24 h.n x⟩
    rw [Tr.set_comm x o 24 h.t h.n i (by omega) (by omega) (by omega)]
theorem mkH_put (os : List Ob) (i : Nat) (o : Ob) (hi : i < os.length) (hb : os.length < 16000000) : (mkH os).put i o = mkH (os.set i o) := by
  have e : os = os.take i ++ os[i] :: os.drop (i + 1) := by simp
  have l : (os.take i).length = i := by simp; omega
  have e2 : os.set i o = os.take i ++ o :: os.drop (i + 1) := by
    conv => lhs; rw [e]
    rw [List.set_append_right _ _ (by omega), l, Nat.sub_self]
    rfl
  rw [e2]
  conv => lhs; rw [e]
  unfold mkH
  rw [List.foldl_append, List.foldl_append, List.foldl_cons, List.foldl_cons]
  have n0 : ((os.take i).foldl Hh.push Hh.nil).n = i := by
    rw [(foldH _ _).1, l]
    show 0 + i = i
    omega
  generalize (os.take i).foldl Hh.push Hh.nil = g at *
  have ld : (os.drop (i + 1)).length = os.length - (i + 1) := by simp
  rw [put_foldl i o _ _ (by rw [Hh.n_push]; omega) (by rw [Hh.n_push, ld]; omega)]
  congr 1
  show (⟨g.n + 1, (g.t.set 24 g.n os[i]).set 24 i o⟩ : Hh) = ⟨g.n + 1, g.t.set 24 g.n o⟩
  rw [n0, Tr.set_set _ _ 24 g.t i (by omega)]
theorem toNat_inj : ∀ {a b : List Char}, a.map Char.toNat = b.map Char.toNat → a = b
  | [], [], _ => rfl
  | [], _ :: _, h => by cases h
  | _ :: _, [], h => by cases h
  | x :: a, y :: b, h => by
    rw [List.map_cons, List.map_cons, List.cons.injEq] at h
    have e : x = y := Char.ext (UInt32.toNat_inj.mp h.1)
    rw [e, toNat_inj h.2]
@[simp] theorem ofString_inj (a b : String) : (Str.ofString a = Str.ofString b) = (a = b) := by
  rw [Str.ofString_eq_toList, Str.ofString_eq_toList]
  refine propext ⟨fun h => ?_, fun h => by rw [h]⟩
  have h1 : (a.toList.map Char.toNat).toArray = (b.toList.map Char.toNat).toArray := by injection h
  have h2 : a.toList.map Char.toNat = b.toList.map Char.toNat := by simpa using h1
  exact String.toList_inj.mp (toNat_inj h2)
/-! ### rules for simp -/
section
variable {α β : Type} {a : α} {h : Hh} {c : Nat} {fs : List (Str × PV)} {τ : Env'} {w : PV}
@[simp] theorem bind_ok (k : α → Hh → Res β) : (Res.ok a h).bind k = k a h := rfl
@[simp] theorem bind_exc (k : α → Hh → Res β) : (Res.exc c fs h).bind k = .exc c fs h := rfl
@[simp] theorem bind_bad (k : α → Hh → Res β) : (Res.bad : Res α).bind k = .bad := rfl
@[simp] theorem st_ok (k : α → Hh → RS) : (Res.ok a h).st τ k = k a h := rfl
@[simp] theorem st_exc (k : α → Hh → RS) : (Res.exc c fs h).st τ k = .exc c fs τ h := rfl
@[simp] theorem st_bad (k : α → Hh → RS) : (Res.bad : Res α).st τ k = .bad := rfl
@[simp] theorem nox_ok : (Res.ok a h).nox = .ok a h := rfl
@[simp] theorem seq_nx (t : SS) : (RS.nx τ h).seq t = t τ h := rfl
@[simp] theorem seq_rt (t : SS) : (RS.rt w h).seq t = .rt w h := rfl
@[simp] theorem seq_bk (t : SS) : (RS.bk τ h).seq t = .bk τ h := rfl
@[simp] theorem seq_ct (t : SS) : (RS.ct τ h).seq t = .ct τ h := rfl
@[simp] theorem seq_exc (t : SS) : (RS.exc c fs τ h).seq t = .exc c fs τ h := rfl
@[simp] theorem only_nx : (RS.nx τ h).only = .nx τ h := rfl
@[simp] theorem unl_ok (i : Nat) : (Res.ok a h).unl i = .ok a (h.unl i) := rfl
variable (f g k : SE) (p q : ST) (l : SL) (s t : SS)
@[simp] theorem eVar_eq (i : Nat) : eVar i τ h = match τ[i]? with
  | some (some w) => .ok w h
  | _ => .bad := rfl
@[simp] theorem eVal_eq : eVal w τ h = .ok w h := rfl
@[simp] theorem eBin_eq (op : Operator) : eBin op f g τ h = (f τ h).bind fun x h => (g τ h).bind fun y h => binS op x y h := rfl
@[simp] theorem eCmp_eq (op : CmpOp) : eCmp op f g τ h = (f τ h).bind fun x h => (g τ h).bind fun y h => cmpS op x y h := rfl
@[simp] theorem tTru_eq : tTru f τ h = (f τ h).bind truR := rfl
@[simp] theorem tVal_eq : tVal f τ h = (f τ h).bind fun x h => match x with
  | .bl b => .ok b h
  | _ => .bad := rfl
@[simp] theorem tNotS_eq : tNotS p τ h = (p τ h).bind fun b h => .ok (!b) h := rfl
@[simp] theorem tAndS_eq : tAndS p q τ h = (p τ h).bind fun b h => if b = true then q τ h else .ok false h := rfl
@[simp] theorem tOrS_eq : tOrS p q τ h = (p τ h).bind fun b h => if b = true then .ok true h else q τ h := rfl
@[simp] theorem eNot_eq : eNot f τ h = (f τ h).bind fun x h => (truR x h).bind fun b h => .ok (.bl (!b)) h := rfl
@[simp] theorem eAnd_eq : eAnd f g τ h = (f τ h).bind fun x h => (truR x h).bind fun b h => if b = true then g τ h else .ok x h := rfl
@[simp] theorem eOr_eq : eOr f g τ h = (f τ h).bind fun x h => (truR x h).bind fun b h => if b = true then .ok x h else g τ h := rfl
@[simp] theorem eIf_eq : eIf p f g τ h = (p τ h).bind fun b h => if b = true then f τ h else g τ h := rfl
@[simp] theorem evs_nil : evs [] τ h = .ok [] h := rfl
@[simp] theorem evs_cons (r : List SE) : evs (f :: r) τ h = (f τ h).bind fun w h => (evs r τ h).bind fun ws h => .ok (w :: ws) h := rfl
@[simp] theorem eTup_eq : eTup l τ h = (l τ h).bind fun ws h => if ws.length ≤ lim ∧ ws ≠ [] then .ok (.tup ws) h else .bad := rfl
@[simp] theorem eLst_eq : eLst l τ h = (l τ h).bind fun ws h => if ws.length ≤ lim then .ok (.obj h.n) (h.push (.lst ws)) else .bad := rfl
@[simp] theorem eDct_eq : eDct τ h = .ok (.obj h.n) (h.push (.dct [])) := rfl
@[simp] theorem eNul_eq : eNul τ h = .ok (.tup []) h := rfl
@[simp] theorem eIx_eq : eIx f g τ h = (f τ h).bind fun x h => (g τ h).bind fun y h => ixS x y h := rfl
@[simp] theorem eFld_eq (at_ : Nat → Str → Bool) (x : Str) : eFld at_ x f τ h = (f τ h).bind (fldS at_ x) := rfl
@[simp] theorem eCall_eq (C : CT) (id n : Nat) : eCall C id n l τ h = (l τ h).bind fun ws h => if ws.length = n then C id ws h else .bad := rfl
@[simp] theorem eMeth_eq (C : CT) (mt : Nat → Str → Option (Nat × Nat)) (m : Str) : eMeth C mt m f l τ h = (f τ h).bind fun x h => methS C mt m l τ x h := rfl
@[simp] theorem eB_eq (F : List PV → Hh → Res PV) : eB F l τ h = (l τ h).bind F := rfl
@[simp] theorem sSeq_eq : sSeq s t τ h = (s τ h).seq t := rfl
@[simp] theorem sNil_eq : sNil τ h = .nx τ h := rfl
@[simp] theorem sDrop_eq : sDrop f τ h = (f τ h).st τ fun _ h => .nx τ h := rfl
@[simp] theorem sRet_eq : sRet f τ h = (f τ h).st τ fun w h => .rt w h := rfl
@[simp] theorem sIf_eq : sIf p s t τ h = (p τ h).st τ fun b h => if b = true then s τ h else t τ h := rfl
@[simp] theorem sAsg_eq (G : GS) : sAsg' f G τ h = (f τ h).st τ fun w h => (G w τ h).only := rfl
@[simp] theorem gN_eq (i : Nat) : gN i w τ h = .nx (τ.set i (some w)) h := rfl
@[simp] theorem sPar_eq (i j : Nat) : sPar i j l τ h = (l τ h).st τ fun ws h => match ws with
  | [v, w] => .nx ((τ.set i (some v)).set j (some w)) h
  | _ => .bad := rfl
@[simp] theorem mkHn (os : List Ob) : (mkH os).n = os.length := mkH_n os
@[simp] theorem mkHg (os : List Ob) (i : Nat) : (mkH os).get i = os[i]? := mkH_get os i
@[simp] theorem mkHp (os : List Ob) (o : Ob) : (mkH os).push o = mkH (os ++ [o]) := mkH_push os o
theorem atI_nat {α : Type} (xs : List α) (n : Nat) : atI xs (n : Int) = xs[n]? := by
  unfold atI ixN
  by_cases h : n < xs.length
  · rw [if_pos (Int.natCast_nonneg n), if_pos (Int.ofNat_lt.mpr h)]; rfl
  · rw [if_pos (Int.natCast_nonneg n), if_neg (fun z => h (Int.ofNat_lt.mp z))]
    rw [List.getElem?_eq_none (Nat.le_of_not_lt h)]; rfl
@[simp] theorem atI_lit {α : Type} (xs : List α) (n : Nat) : atI xs (no_index (OfNat.ofNat n : Int)) = xs[n]? := atI_nat xs n
@[simp] theorem ixS_tup (xs : List PV) (i : Int) : ixS (.tup xs) (.int i) h = match atI xs i with
  | some v => .ok v h
  | none => .bad := rfl
@[simp] theorem ixS_obj (o : Nat) (y : PV) : ixS (.obj o) y h = match h.lst? o with
  | some xs => ixL xs y h
  | none => match h.dct? o with
    | some kvs => ixD kvs y h
    | none => .bad := rfl
@[simp] theorem lst_eq (o : Nat) : h.lst? o = match h.get o with
  | some (.lst xs) => some xs
  | some (.frz (.lst xs)) => some xs
  | _ => none := rfl
@[simp] theorem dct_eq (o : Nat) : h.dct? o = match h.get o with
  | some (.dct xs) => some xs
  | some (.frz (.dct xs)) => some xs
  | _ => none := rfl
@[simp] theorem ixD_str (kvs : List (Key × PV)) (x : Str) : ixD kvs (.str x) h = match valP kvs (.inr x) with
  | some v => .ok v h
  | none => .bad := rfl
@[simp] theorem ixL_int (xs : List PV) (i : Int) : ixL xs (.int i) h = match atI xs i with
  | some v => .ok v h
  | none => .bad := rfl
@[simp] theorem fldS_obj (at_ : Nat → Str → Bool) (x : Str) (i : Nat) : fldS at_ x (.obj i) h = match h.get i with
  | some (.ins c fs) => if at_ c x = true then (match fs.lookup x with
      | some w => .ok w h
      | none => .bad) else .bad
  | _ => .bad := rfl
@[simp] theorem methS_obj (C : CT) (mt : Nat → Str → Option (Nat × Nat)) (m : Str) (i : Nat) : methS C mt m l τ (.obj i) h = match h.get i with
  | some (.ins c fs) => match mt c m, fs.lookup m with
      | some (id, n), none => (l τ h).bind fun ws h => if (PV.obj i :: ws).length = n then C id (.obj i :: ws) h else .bad
      | _, _ => .bad
  | _ => .bad := rfl
@[simp] theorem okB_some (b : Bool) : okB (some b) h = .ok (.bl b) h := rfl
@[simp] theorem cmp_eq (x y : PV) : cmpS .Eq x y h = okB (eqS h x y) h := rfl
@[simp] theorem cmp_ne (x y : PV) : cmpS .NotEq x y h = okB ((eqS h x y).map (!·)) h := rfl
@[simp] theorem cmp_in (x y : PV) : cmpS .In x y h = okB (inS h x y) h := rfl
@[simp] theorem cmp_ni (x y : PV) : cmpS .NotIn x y h = okB ((inS h x y).map (!·)) h := rfl
@[simp] theorem eq_str (x y : Str) : eqS h (.str x) (.str y) = some (decide (x = y)) := rfl
@[simp] theorem cmp_isN_tup (xs : List PV) : cmpS .Is (.tup xs) .non h = .ok (.bl false) h := rfl
@[simp] theorem cmp_isN_non : cmpS .Is .non .non h = .ok (.bl true) h := rfl
@[simp] theorem cmp_inN_tup (xs : List PV) : cmpS .IsNot (.tup xs) .non h = .ok (.bl true) h := rfl
@[simp] theorem cmp_inN_non : cmpS .IsNot .non .non h = .ok (.bl false) h := rfl
@[simp] theorem add_tup (xs ys : List PV) : binS .Add (.tup xs) (.tup ys) h = if xs.length + ys.length ≤ lim then .ok (.tup (xs ++ ys)) h else .bad := rfl
@[simp] theorem add_int (x y : Int) : binS .Add (.int x) (.int y) h = .ok (.int (x + y)) h := rfl
@[simp] theorem add_str (x y : Str) : binS .Add (.str x) (.str y) h = if x.length + y.length ≤ lim then .ok (.str (x ++ y)) h else .bad := rfl
@[simp] theorem truR_bl (b : Bool) : truR (.bl b) h = .ok b h := rfl
@[simp] theorem runF_ok {s : SS} {N : List Str} {ws : List PV} {h : Hh} {v : PV} {h1 : Hh} (e : s (startP N ws) h = .rt v h1) : runF s N ws h = .ok v h1 := by
  unfold runF
  rw [e]
end
end DD
set_option Elab.async false
set_option linter.all false
set_option maxRecDepth 100000
set_option maxHeartbeats 4000000
/-! EC: what is said of a function (as a relation), shown by a run at a heap of few things. -/
namespace DD
open PySem PySem.Spec PyProof.Rows L2

/-- a function's word: arguments, heap, what comes of it -/
abbrev Wd := List PV → Hh → Res PV → Prop
open Classical in
noncomputable def FP (P : Wd) : List PV → Hh → Res PV := fun ws h => if e : ∃ r, P ws h r then Classical.choose e else .bad
theorem FP_of {P : Wd} {ws : List PV} {h : Hh} {r : Res PV} (f : ∀ r', P ws h r' → r' = r) (p : P ws h r) : FP P ws h = r := by
  unfold FP
  rw [dif_pos ⟨r, p⟩]
  exact f _ (Classical.choose_spec (p := fun r => P ws h r) ⟨r, p⟩)
theorem FP_cases (P : Wd) (ws : List PV) (h : Hh) : FP P ws h = .bad ∨ P ws h (FP P ws h) := by
  by_cases e : ∃ r, P ws h r
  · refine .inr ?_
    unfold FP
    rw [dif_pos e]
    exact Classical.choose_spec e
  · refine .inl ?_
    unfold FP
    rw [dif_neg e]
/-- a heap of few things fits to a heap -/
structure Fit (h : Hh) (φ : List Nat) (os : List Ob) : Prop where
  len : os.length = φ.length
  nd : φ.Nodup
  at_ : ∀ i j : Nat, φ[i]? = some j → ∃ o' o, os[i]? = some o' ∧ h.get j = some o ∧ RnO (fun i j : Nat => φ[i]? = some j) o' o
theorem Fit.lt {h : Hh} {φ : List Nat} {os : List Ob} (F : Fit h φ os) : ∀ j ∈ φ, j < h.n := fun j hj => by
  obtain ⟨i, hi⟩ := List.getElem?_of_mem hj
  obtain ⟨_, _, _, g, _⟩ := F.at_ i j hi
  exact Hh.get_lt g
theorem Back.same {h : Hh} {φ : List Nat} {os : List Ob} (F : Fit h φ os) {h2 : Hh} (k : ∀ i, i < os.length → h2.get i = os[i]?) : Back h φ [] h2 h :=
  ⟨rfl, List.nodup_nil, fun _ z => (by cases z), fun i j e => by
    obtain ⟨o', o, a, b, c⟩ := F.at_ i j e
    have : i < os.length := (List.getElem?_eq_some_iff.mp a).1
    exact ⟨o', o, by rw [k i this]; exact a, b, c.mono fun i j e => .inl e⟩, fun _ _ _ => rfl, fun k i e => by cases e⟩
/-- nothing but a plain value comes of it -/
theorem RnR.same {h : Hh} {φ : List Nat} {os : List Ob} (F : Fit h φ os) {w : PV} {h2 : Hh} (p : pureB w = true) (k : ∀ i, i < os.length → h2.get i = os[i]?) : RnR h φ (.ok w h2) (.ok w h) :=
  ⟨[], w, h, rfl, .same F k, Rn.pure p⟩
theorem RnR.sameX {h : Hh} {φ : List Nat} {os : List Ob} (F : Fit h φ os) {c : Nat} {fs : List (Str × PV)} {h2 : Hh} (p : pureF fs = true) (k : ∀ i, i < os.length → h2.get i = os[i]?) : RnR h φ (.exc c fs h2) (.exc c fs h) :=
  ⟨[], fs, h, rfl, .same F k, RnF.pure p⟩
def pureO : Ob → Bool
  | .lst xs => puresB xs
  | .dct kvs => pureF kvs
  | .ins _ fs => pureF fs
  | .frz o => pureO o
theorem RnO.pure {Φ : Nat → Nat → Prop} : ∀ {o : Ob}, pureO o = true → RnO Φ o o
  | .lst xs, h => ⟨xs, rfl, Rns.pure h⟩
  | .dct kvs, h => ⟨kvs, rfl, RnF.pure h⟩
  | .ins _ fs, h => ⟨fs, rfl, RnF.pure h⟩
  | .frz o, h => ⟨o, rfl, RnO.pure (o := o) h⟩
/-- a new thing of plain content -/
theorem RnR.new {h : Hh} {φ : List Nat} {os : List Ob} (F : Fit h φ os) {m : Nat} {o : Ob} {h2 : Hh} (p : pureO o = true) (k : ∀ i, i < os.length → h2.get i = os[i]?) (hm : os.length ≤ m) (g : h2.get m = some o) : RnR h φ (.ok (.obj m) h2) (.ok (.obj h.n) (h.push o)) := by
  refine ⟨[m], .obj h.n, h.push o, rfl, ⟨rfl, by simp, fun i z => ?_, fun i j e => ?_, fun j lt _ => ?_, fun k' i e => ?_⟩, ?_⟩
  · have z := List.mem_singleton.mp z
    subst z
    exact ⟨by rw [← F.len]; exact hm, Hh.get_lt g⟩
  · obtain ⟨o', o2, a, b, c⟩ := F.at_ i j e
    have li : i < os.length := (List.getElem?_eq_some_iff.mp a).1
    have lj := Hh.get_lt b
    exact ⟨o', o2, by rw [k i li]; exact a, by rw [Hh.get_push, if_neg (by omega)]; exact b, c.mono fun i j e => .inl e⟩
  · rw [Hh.get_push, if_neg (by omega)]
  · cases k' with
    | zero =>
      have e : m = i := by simpa using e
      subst e
      exact ⟨o, o, g, by rw [Hh.get_push, if_pos (by omega)], RnO.pure p⟩
    | succ n => simp at e
  · unfold Rn
    exact ⟨h.n, .inr ⟨0, rfl, by omega⟩, rfl⟩
section
variable {P : Program} {w : World} {K : PySem.W.Frag} {mg : Str → Option Value} {base : Heap} {ca fa : Nat → Addr} {B : Bs}
/-- a function keeps a word if its body, run at a fitting heap of few things over kept tables, comes to what the word says -/
theorem word_ok (S : Sta P w K mg base ca fa B) {U : Ups} {k id : Nat} {f : Fn0} (hT : B.T id = some f) {W : Wd} {G : Ups → Prop} {C Cl : CT} (hU : G U) (hC : CtOk P w K mg base ca fa B G C k)
    (hl : (∀ x n hs, B.gl x ≠ .told n hs) ∨ ∃ k', k = k' + 2 ∧ CtOk P w K mg base ca fa B G Cl k')
    (hW : ∀ ws h r, W ws h r → ∃ φ os ws', Fit h φ os ∧ Rns (fun i j : Nat => φ[i]? = some j) ws' ws ∧ RnR h φ (runF (B.sem f C Cl) f.N ws' (mkH os)) r) : FnGood P w K mg base ca fa U (k + 2) id f (FP W) :=
  step_ok S hT fun ws h ρ H vs Q E R r x => by
    rcases FP_cases W ws h with e | p
    · rw [e] at x; exact x.elim
    · obtain ⟨φ, os, ws', F, rn, rr⟩ := hW ws h _ p
      have R' := R.sub F.lt F.nd (h' := mkH os) (by rw [mkH_n, F.len]) fun i j e => by
        obtain ⟨o', o, a, b, c⟩ := F.at_ i j e
        exact ⟨o', o, by rw [mkH_get]; exact a, b, c⟩
      exact ⟨U, G, C, Cl, hU, hC, hl, subR ρ φ, ws', mkH os, R', (rn.rv (fun i j e a => subR_at R F.lt e a) vs).mpr r, rr.wf R F.lt F.nd x⟩
/-- more room is wanted, no more is said -/
theorem FnGood.mono {U : Ups} {k k' id : Nat} {f : Fn0} {F : List PV → Hh → Res PV} (h : FnGood P w K mg base ca fa U k id f F) (le : k ≤ k') : FnGood P w K mg base ca fa U k' id f F := by
  obtain ⟨fd, a, b, c⟩ := h
  exact ⟨fd, a, b.mono le, c⟩
/-- a table of words -/
def tabC (l : List (Nat × (List PV → Hh → Res PV))) : CT := fun id => match l.lookup id with
  | some F => F
  | none => fun _ _ => .bad
theorem ctok_tab (S : Sta P w K mg base ca fa B) {G : Ups → Prop} {l : List (Nat × (List PV → Hh → Res PV))} {k : Nat} (h : ∀ U, G U → ∀ id F, l.lookup id = some F → ∀ f, B.T id = some f → FnGood P w K mg base ca fa U k id f F) : CtOk P w K mg base ca fa B G (tabC l) k := fun U hU id f hT => by
  cases e : l.lookup id with
  | none =>
    have := ctok_bad S G k U hU id f hT
    have e2 : tabC l id = fun _ _ => .bad := by unfold tabC; rw [e]
    rw [e2]
    exact this
  | some F =>
    have e2 : tabC l id = F := by unfold tabC; rw [e]
    rw [e2]
    exact h U hU id F e f hT
end
end DD
set_option Elab.async false
set_option linter.all false
set_option maxRecDepth 100000
set_option maxHeartbeats 4000000
/-! ED: loops over plain rows of values as recursion over lists. -/
namespace DD
open PySem PySem.Spec PyProof.Rows L2

def forL (p : Pat) (b : SS) : List PV → SS
  | [], τ, h => .nx τ h
  | x :: xs, τ, h => match patS p x τ with
    | none => .bad
    | some τ => match b τ h with
      | .nx τ h => forL p b xs τ h
      | .ct τ h => forL p b xs τ h
      | .bk τ h => .nx τ h
      | r => r
def lcL (τ : Env') (p : Pat) (tt : ST) (te : SE) (d : Nat) : List PV → Hh → Res PV
  | [], h => .ok (.obj d) h
  | x :: xs, h => match patS p x τ with
    | none => .bad
    | some τ2 => (tt τ2 h).nox.bind fun b h => if b = true then (te τ2 h).nox.bind fun y h => match h.get d with
          | some (.lst acc) => if acc.length < lim then lcL τ p tt te d xs (h.put d (.lst (acc ++ [y]))) else .bad
          | _ => .bad
        else lcL τ p tt te d xs h
def dcL (τ : Env') (p : Pat) (tt : ST) (tk te : SE) (d : Nat) : List PV → Hh → Res PV
  | [], h => .ok (.obj d) h
  | x :: xs, h => match patS p x τ with
    | none => .bad
    | some τ2 => (tt τ2 h).nox.bind fun b h => if b = true then (tk τ2 h).nox.bind fun k h => (te τ2 h).nox.bind fun y h => match h.get d, keyP k with
          | some (.dct kvs), some k => if kvs.length < lim then dcL τ p tt tk te d xs (h.put d (.dct (putP kvs k y))) else .bad
          | _, _ => .bad
        else dcL τ p tt tk te d xs h
theorem forGo_pur (p : Pat) (b : SS) (xs : List PV) : ∀ (n i : Nat) (τ : Env') (h : Hh), i ≤ xs.length → xs.length < n + i → sForGo (.pur xs) p b n i τ h = forL p b (xs.drop i) τ h
  | 0, i, τ, h, l0, l => by omega
  | n + 1, i, τ, h, l0, l => by
    show (match (Src.pur xs).step i h with
      | none => RS.bad
      | some none => RS.nx τ h
      | some (some x) => match patS p x τ with
        | none => RS.bad
        | some τ => match b τ h with
          | .nx τ h => sForGo (.pur xs) p b n (i + 1) τ h
          | .ct τ h => sForGo (.pur xs) p b n (i + 1) τ h
          | .bk τ h => RS.nx τ h
          | r => r) = _
    show (match some xs[i]? with
      | none => RS.bad
      | some none => RS.nx τ h
      | some (some x) => match patS p x τ with
        | none => RS.bad
        | some τ => match b τ h with
          | .nx τ h => sForGo (.pur xs) p b n (i + 1) τ h
          | .ct τ h => sForGo (.pur xs) p b n (i + 1) τ h
          | .bk τ h => RS.nx τ h
          | r => r) = _
    by_cases hi : i < xs.length
    · rw [List.drop_eq_getElem_cons hi, List.getElem?_eq_getElem hi]
      show (match patS p xs[i] τ with
        | none => RS.bad
        | some τ => match b τ h with
          | .nx τ h => sForGo (.pur xs) p b n (i + 1) τ h
          | .ct τ h => sForGo (.pur xs) p b n (i + 1) τ h
          | .bk τ h => RS.nx τ h
          | r => r) = forL p b (xs[i] :: xs.drop (i + 1)) τ h
      unfold forL
      cases patS p xs[i] τ with
      | none => rfl
      | some τ2 =>
        show (match b τ2 h with
          | .nx τ h => sForGo (.pur xs) p b n (i + 1) τ h
          | .ct τ h => sForGo (.pur xs) p b n (i + 1) τ h
          | .bk τ h => RS.nx τ h
          | r => r) = (match b τ2 h with
          | .nx τ h => forL p b (xs.drop (i + 1)) τ h
          | .ct τ h => forL p b (xs.drop (i + 1)) τ h
          | .bk τ h => RS.nx τ h
          | r => r)
        cases b τ2 h with
        | nx τ h => exact forGo_pur p b xs n (i + 1) τ h (by omega) (by omega)
        | ct τ h => exact forGo_pur p b xs n (i + 1) τ h (by omega) (by omega)
        | _ => rfl
    · rw [List.drop_eq_nil_of_le (by omega), List.getElem?_eq_none (by omega)]
      rfl
theorem lcGo_pur (τ : Env') (p : Pat) (tt : ST) (te : SE) (d : Nat) (xs : List PV) : ∀ (n i : Nat) (h : Hh), i ≤ xs.length → xs.length < n + i → lcGo (.pur xs) τ p tt te d n i h = lcL τ p tt te d (xs.drop i) h
  | 0, i, h, l0, l => by omega
  | n + 1, i, h, l0, l => by
    unfold lcGo
    show (match some xs[i]? with
      | none => Res.bad
      | some none => Res.ok (PV.obj d) h
      | some (some x) => match patS p x τ with
        | none => Res.bad
        | some τ2 => (tt τ2 h).nox.bind fun b h => if b = true then (te τ2 h).nox.bind fun y h => match h.get d with
            | some (.lst acc) => if acc.length < lim then lcGo (.pur xs) τ p tt te d n (i + 1) (h.put d (.lst (acc ++ [y]))) else Res.bad
            | _ => Res.bad
          else lcGo (.pur xs) τ p tt te d n (i + 1) h) = _
    by_cases hi : i < xs.length
    · rw [List.drop_eq_getElem_cons hi, List.getElem?_eq_getElem hi]
      unfold lcL
      show (match patS p xs[i] τ with
        | none => Res.bad
        | some τ2 => (tt τ2 h).nox.bind fun b h => if b = true then (te τ2 h).nox.bind fun y h => match h.get d with
            | some (.lst acc) => if acc.length < lim then lcGo (.pur xs) τ p tt te d n (i + 1) (h.put d (.lst (acc ++ [y]))) else Res.bad
            | _ => Res.bad
          else lcGo (.pur xs) τ p tt te d n (i + 1) h) = _
      cases patS p xs[i] τ with
      | none => rfl
      | some τ2 =>
        show ((tt τ2 h).nox.bind fun b h => if b = true then (te τ2 h).nox.bind fun y h => match h.get d with
            | some (.lst acc) => if acc.length < lim then lcGo (.pur xs) τ p tt te d n (i + 1) (h.put d (.lst (acc ++ [y]))) else Res.bad
            | _ => Res.bad
          else lcGo (.pur xs) τ p tt te d n (i + 1) h) = _
        congr 1
        funext b h
        rw [lcGo_pur τ p tt te d xs n (i + 1) h (by omega) (by omega)]
        congr 1
        congr 1
        funext y h
        cases h.get d with
        | none => rfl
        | some o =>
          cases o with
          | lst acc =>
            show (if acc.length < lim then lcGo (.pur xs) τ p tt te d n (i + 1) (h.put d (.lst (acc ++ [y]))) else Res.bad) = (if acc.length < lim then lcL τ p tt te d (xs.drop (i + 1)) (h.put d (.lst (acc ++ [y]))) else Res.bad)
            rw [lcGo_pur τ p tt te d xs n (i + 1) _ (by omega) (by omega)]
          | _ => rfl
    · rw [List.drop_eq_nil_of_le (by omega), List.getElem?_eq_none (by omega)]
      rfl
theorem dcGo_pur (τ : Env') (p : Pat) (tt : ST) (tk te : SE) (d : Nat) (xs : List PV) : ∀ (n i : Nat) (h : Hh), i ≤ xs.length → xs.length < n + i → dcGo (.pur xs) τ p tt tk te d n i h = dcL τ p tt tk te d (xs.drop i) h
  | 0, i, h, l0, l => by omega
  | n + 1, i, h, l0, l => by
    unfold dcGo
    show (match some xs[i]? with
      | none => Res.bad
      | some none => Res.ok (PV.obj d) h
      | some (some x) => match patS p x τ with
        | none => Res.bad
        | some τ2 => (tt τ2 h).nox.bind fun b h => if b = true then (tk τ2 h).nox.bind fun k h => (te τ2 h).nox.bind fun y h => match h.get d, keyP k with
            | some (.dct kvs), some k => if kvs.length < lim then dcGo (.pur xs) τ p tt tk te d n (i + 1) (h.put d (.dct (putP kvs k y))) else Res.bad
            | _, _ => Res.bad
          else dcGo (.pur xs) τ p tt tk te d n (i + 1) h) = _
    by_cases hi : i < xs.length
    · rw [List.drop_eq_getElem_cons hi, List.getElem?_eq_getElem hi]
      unfold dcL
      show (match patS p xs[i] τ with
        | none => Res.bad
        | some τ2 => (tt τ2 h).nox.bind fun b h => if b = true then (tk τ2 h).nox.bind fun k h => (te τ2 h).nox.bind fun y h => match h.get d, keyP k with
            | some (.dct kvs), some k => if kvs.length < lim then dcGo (.pur xs) τ p tt tk te d n (i + 1) (h.put d (.dct (putP kvs k y))) else Res.bad
            | _, _ => Res.bad
          else dcGo (.pur xs) τ p tt tk te d n (i + 1) h) = _
      cases patS p xs[i] τ with
      | none => rfl
      | some τ2 =>
        show ((tt τ2 h).nox.bind fun b h => if b = true then (tk τ2 h).nox.bind fun k h => (te τ2 h).nox.bind fun y h => match h.get d, keyP k with
            | some (.dct kvs), some k => if kvs.length < lim then dcGo (.pur xs) τ p tt tk te d n (i + 1) (h.put d (.dct (putP kvs k y))) else Res.bad
            | _, _ => Res.bad
          else dcGo (.pur xs) τ p tt tk te d n (i + 1) h) = _
        congr 1
        funext b h
        rw [dcGo_pur τ p tt tk te d xs n (i + 1) h (by omega) (by omega)]
        congr 1
        congr 1
        funext k h
        congr 1
        funext y h
        cases h.get d with
        | none => rfl
        | some o =>
          cases o with
          | dct kvs =>
            cases keyP k with
            | none => rfl
            | some k =>
              show (if kvs.length < lim then dcGo (.pur xs) τ p tt tk te d n (i + 1) (h.put d (.dct (putP kvs k y))) else Res.bad) = (if kvs.length < lim then dcL τ p tt tk te d (xs.drop (i + 1)) (h.put d (.dct (putP kvs k y))) else Res.bad)
              rw [dcGo_pur τ p tt tk te d xs n (i + 1) _ (by omega) (by omega)]
          | _ => rfl
    · rw [List.drop_eq_nil_of_le (by omega), List.getElem?_eq_none (by omega)]
      rfl
section
variable {τ : Env'} {h : Hh} (p : Pat) (b : SS) (tt : ST) (tk te : SE) (d n : Nat) (xs : List PV)
@[simp] theorem forGo_pur0 (l : xs.length < n) : sForGo (.pur xs) p b n 0 τ h = forL p b xs τ h := by
  rw [forGo_pur p b xs n 0 τ h (by omega) (by omega)]; rfl
@[simp] theorem lcGo_pur0 (l : xs.length < n) : lcGo (.pur xs) τ p tt te d n 0 h = lcL τ p tt te d xs h := by
  rw [lcGo_pur τ p tt te d xs n 0 h (by omega) (by omega)]; rfl
@[simp] theorem dcGo_pur0 (l : xs.length < n) : dcGo (.pur xs) τ p tt tk te d n 0 h = dcL τ p tt tk te d xs h := by
  rw [dcGo_pur τ p tt tk te d xs n 0 h (by omega) (by omega)]; rfl
@[simp] theorem forL_nil : forL p b [] τ h = .nx τ h := rfl
@[simp] theorem lcL_nil : lcL τ p tt te d [] h = .ok (.obj d) h := rfl
@[simp] theorem dcL_nil : dcL τ p tt tk te d [] h = .ok (.obj d) h := rfl
@[simp] theorem lkS_tup (vw : Vw) : lkS true vw (.tup xs) h = some (.no (.pur xs)) := rfl
@[simp] theorem lkS_obj (any : Bool) (vw : Vw) (o : Nat) : lkS any vw (.obj o) h = match h.get o with
    | some (.dct kvs) => some (.lk o kvs)
    | some (.frz (.dct kvs)) => some (.no (.pur (vw.ps kvs)))
    | some (.lst _) => if any = true then some (.no (.lst o)) else none
    | some (.frz (.lst _)) => if any = true then some (.no (.lst o)) else none
    | _ => none := rfl
@[simp] theorem sForA_eq (any : Bool) (vw : Vw) (f : SE) : sForA n any vw f p b τ h = (f τ h).st τ fun x h1 => match lkS any vw x h1 with
  | none => .bad
  | some (.no s) => sForGo s p b n 0 τ h1
  | some (.lk i kvs) => (sForGo (.pur (vw.ps kvs)) p b n 0 τ (h1.put i (.frz (.dct kvs)))).unl i := rfl
@[simp] theorem eLcA_eq (any : Bool) (vw : Vw) (f : SE) (own : List Nat) : eLcA n any vw f own p tt te τ h = (f τ h).bind fun x h1 => match lkS any vw x h1 with
  | none => .bad
  | some (.no s) => lcGo s (wipeP τ own) p tt te h1.n n 0 (h1.push (.lst []))
  | some (.lk i kvs) => (lcGo (.pur (vw.ps kvs)) (wipeP τ own) p tt te h1.n n 0 ((h1.put i (.frz (.dct kvs))).push (.lst []))).unl i := rfl
@[simp] theorem eDcA_eq (any : Bool) (vw : Vw) (f : SE) (own : List Nat) : eDcA n any vw f own p tt tk te τ h = (f τ h).bind fun x h1 => match lkS any vw x h1 with
  | none => .bad
  | some (.no s) => dcGo s (wipeP τ own) p tt tk te h1.n n 0 (h1.push (.dct []))
  | some (.lk i kvs) => (dcGo (.pur (vw.ps kvs)) (wipeP τ own) p tt tk te h1.n n 0 ((h1.put i (.frz (.dct kvs))).push (.dct []))).unl i := rfl
@[simp] theorem eLc_eq (f : SI) (own : List Nat) : eLc n f own p tt te τ h = (f τ h).bind fun s h => lcGo s (wipeP τ own) p tt te h.n n 0 (h.push (.lst [])) := rfl
@[simp] theorem eDc_eq (f : SI) (own : List Nat) : eDc n f own p tt tk te τ h = (f τ h).bind fun s h => dcGo s (wipeP τ own) p tt tk te h.n n 0 (h.push (.dct [])) := rfl
@[simp] theorem iEvL_eq (f : SL) (k : List PV → Hh → Res Src) : iEvL f k τ h = (f τ h).bind k := rfl
@[simp] theorem iEv_eq (f : SE) (k : PV → Hh → Res Src) : iEv f k τ h = (f τ h).bind k := rfl
@[simp] theorem sFor_eq (f : SI) : sFor n f p b τ h = (f τ h).st τ fun s h => sForGo s p b n 0 τ h := rfl
@[simp] theorem wipe_nil : wipeP τ [] = τ := rfl
@[simp] theorem wipe_cons (v : Nat) (vs : List Nat) : wipeP τ (v :: vs) = (wipeP τ vs).set v none := rfl
@[simp] theorem inS_obj (x : PV) (i : Nat) : inS h x (.obj i) = match h.lst? i with
    | some xs => inSeq h x xs
    | none => match h.dct? i with
      | some kvs => (keyP x).map fun k => (valP kvs k).isSome
      | none => none := rfl
@[simp] theorem keyP_str (x : Str) : keyP (.str x) = some (.inr x) := rfl
@[simp] theorem one_eq (f : PV → Hh → Res PV) (x : PV) : one f [x] h = f x h := rfl
@[simp] theorem tupleF_obj (i : Nat) : tupleF (.obj i) h = match h.lst? i with
    | some xs => .ok (.tup xs) h
    | none => .bad := rfl
@[simp] theorem tupleF_tup (xs : List PV) : tupleF (.tup xs) h = .ok (.tup xs) h := rfl
@[simp] theorem listF_obj (i : Nat) : listF (.obj i) h = match h.lst? i with
    | some xs => newL xs h
    | none => match h.dct? i with
      | some kvs => newL (kvs.map fun kv => kP kv.1) h
      | none => .bad := rfl
@[simp] theorem newL_eq (xs : List PV) : newL xs h = .ok (.obj h.n) (h.push (.lst xs)) := rfl
@[simp] theorem eBm_eq (b : BM) (f : SE) (l : SL) : eBm b f l τ h = (f τ h).bind fun x h => match kindS h x with
  | some k => if b.on k = true then (l τ h).bind fun ws h => bmS b k x ws h else .bad
  | none => .bad := rfl
@[simp] theorem kindS_obj (i : Nat) : kindS h (.obj i) = match h.lst? i with
    | some _ => some 0
    | none => match h.dct? i with
      | some _ => some 1
      | none => none := rfl
@[simp] theorem on_app : BM.on .append 0 = true := rfl
@[simp] theorem on_pop : BM.on .pop 0 = true := rfl
@[simp] theorem on_ext : BM.on .extend 0 = true := rfl
@[simp] theorem bmS_lst (b : BM) (i : Nat) (ws : List PV) : bmS b 0 (.obj i) ws h = lmS b i ws h := rfl
@[simp] theorem lm_app (i : Nat) (y : PV) : lmS .append i [y] h = match h.get i with
  | some (.lst xs) => if xs.length < lim then .ok .non (h.put i (.lst (xs ++ [y]))) else .bad
  | _ => .bad := rfl
@[simp] theorem lm_pop0 (i : Nat) : lmS .pop i [.int 0] h = match h.get i with
  | some (.lst xs) => (match xs with
      | y :: ys => .ok y (h.put i (.lst ys))
      | [] => .bad)
  | _ => .bad := by
  unfold lmS
  cases h.get i with
  | none => rfl
  | some o =>
    cases o with
    | lst xs => cases xs <;> simp
    | _ => simp
@[simp] theorem put2 (a b c d o : Ob) (gs : List Ob) (l : gs.length < 15000000) : (mkH (a :: b :: c :: d :: gs)).put 2 o = mkH (a :: b :: o :: d :: gs) :=
  mkH_put _ 2 o (by simp) (by simp; omega)
@[simp] theorem put3 (a b c d o : Ob) (gs : List Ob) (l : gs.length < 15000000) : (mkH (a :: b :: c :: d :: gs)).put 3 o = mkH (a :: b :: c :: o :: gs) :=
  mkH_put _ 3 o (by simp) (by simp; omega)
@[simp] theorem zipS_tt (xs ys : List PV) : zipS [.tup xs, .tup ys] h = .ok (.zipM (.tup xs) (.tup ys)) h := rfl
theorem dcGo_stop (s : Src) (l : 0 < n) (e : s.step 0 h = some none) : dcGo s τ p tt tk te d n 0 h = .ok (.obj d) h := by
  cases n with
  | zero => omega
  | succ n => unfold dcGo; rw [e]
@[simp] theorem dcGo_z0 (l : 0 < n) : dcGo (.zipM (.tup []) (.tup [])) τ p tt tk te d n 0 h = .ok (.obj d) h := dcGo_stop p tt tk te d n _ l rfl
theorem forL_cons (x : PV) : forL p b (x :: xs) τ h = match patS p x τ with
    | none => .bad
    | some τ => match b τ h with
      | .nx τ h => forL p b xs τ h
      | .ct τ h => forL p b xs τ h
      | .bk τ h => .nx τ h
      | r => r := rfl
@[simp] theorem patS_nm (i : Nat) (x : PV) : patS (.nm i) x τ = some (τ.set i (some x)) := rfl
end
end DD
set_option Elab.async false
set_option linter.all false
set_option maxRecDepth 100000
set_option maxHeartbeats 4000000
/-! HD: what the head gives: a program told by lists, the facts that a Hook looks at, the structure Sta from them. -/
namespace DD
open PySem PySem.Spec PyProof.Rows L2

/-- one def: where it stands, its text, its slots and parameters -/
structure FD where
  at_ : Str × Option Str
  name : Str
  qual : Str
  st : Stmt
  N : List Str
  ps : List Str
  tab : Option Nat := none
inductive XB where
  | own | ve | ex
/-- an exception's class: its name, fields, base; its __init__ -/
structure XD where
  x : Str
  cc : Nat
  nm : List Str
  b : XB
  st : Stmt := .Pass ⟨0, 0, 0, 0⟩
  qual : Str := ""
structure TD where
  d : FD
  hs : List Hn
structure PD where
  fns : List FD
  cls : List Str
  gls : List (Str × Gn)
  mts : List ((Nat × Str) × (Nat × Nat))
  ats : List (Nat × List Str)
  xds : List XD
  exs : List ((Nat × Nat) × Bool)
  xfs : List (Nat × Str)
  tds : List TD
  tabs : List (Nat × Nat)
  fu : Nat
def FD.fn0 (d : FD) : Fn0 := ⟨d.N, d.ps, defScope d.st, defBody d.st, d.tab⟩
def PD.bs (D : PD) : Bs where
  gl := fun x => match D.tds.find? fun t => decide (t.d.name = x) with
    | some t => .told t.d.N.length t.hs
    | none => (D.gls.lookup x).getD .no
  mt := fun c m => D.mts.lookup (c, m)
  at_ := fun c f => match D.ats.lookup c with
    | some fs => fs.contains f
    | none => false
  fu := D.fu
  T := fun id => (D.fns[id]?).map FD.fn0
  ex := fun c cc => D.exs.lookup (c, cc)
  xf := fun cc f => D.xfs.contains (cc, f)
/-! ### addresses -/
def tabAt (K : PySem.W.Frag) (f : Addr) : Addr := match K.lookup f with
  | some ⟨_, _, .func fd, _⟩ => (match fd.code with
    | .ref c => (match K.lookup c with
      | some ⟨_, _, .fields vs, _⟩ => (match (vs[11]? : Option Value) with
        | some (.ref P) => P
        | _ => 0)
      | _ => 0)
    | _ => 0)
  | _ => 0
def fAdr (K : PySem.W.Frag) (D : PD) (id : Nat) : Addr := match D.fns[id]? with
  | some d => He.fAd K d.at_
  | none => 0
def cAdr (K : PySem.W.Frag) (D : PD) (i : Nat) : Addr := if i < 900 then (match D.cls[i]? with
  | some x => He.ga K x
  | none => 0) else (match D.tabs.lookup i with
  | some id => tabAt K (fAdr K D id)
  | none => 0)
/-- the written part without the tables -/
def isLst (K : PySem.W.Frag) (a : Addr) : Bool := match K.lookup a with
  | some ⟨.type c, _, _, _⟩ => decide (c = "list")
  | _ => false
def noTab (D : PD) (K : PySem.W.Frag) (a : Addr) : Bool := !((D.tabs.map fun t => tabAt K (fAdr K D t.2)).contains a) && !isLst K a
def dropT (D : PD) (K : PySem.W.Frag) : PySem.W.Frag := K.filter fun p => noTab D K p.1
theorem filter_key {α : Type} {p : Nat → Bool} {a : Nat} {o : α} : ∀ {l : List (Nat × α)}, (l.filter fun q => p q.1).lookup a = some o → p a = true
  | [], h => by cases h
  | (c, w) :: l, h => by
    rw [List.filter_cons] at h
    by_cases hc : p c = true
    · rw [if_pos hc] at h
      rw [List.lookup_cons] at h
      cases q : a == c with
      | true =>
        have : a = c := by simpa using q
        rw [this]; exact hc
      | false => rw [q] at h; exact filter_key h
    · rw [if_neg hc] at h; exact filter_key h
theorem lookup_filter {α : Type} {p : Nat → Bool} {a : Nat} {o : α} : ∀ {l : List (Nat × α)}, (l.filter fun q => p q.1).lookup a = some o → l.lookup a = some o
  | [], h => by cases h
  | (b, v) :: l, h => by
    have key := filter_key h
    rw [List.filter_cons] at h
    rw [List.lookup_cons]
    by_cases hb : p b = true
    · rw [if_pos hb] at h
      rw [List.lookup_cons] at h
      cases q : a == b with
      | true => rw [q] at h; exact h
      | false => rw [q] at h; exact lookup_filter h
    · rw [if_neg hb] at h
      have e := lookup_filter h
      cases q : a == b with
      | true =>
        have : a = b := by simpa using q
        rw [this] at key
        exact absurd key hb
      | false => exact e
theorem dropT_in {D : PD} {K : PySem.W.Frag} {h : Heap} (X : K.In h) : (dropT D K).In h := fun a o e => X a o (lookup_filter (p := noTab D K) e)
theorem dropT_nolst {D : PD} {K : PySem.W.Frag} {a : Addr} {o : Obj} (h : (dropT D K).lookup a = some o) : o.cls ≠ .type "list" := fun z => by
  have k := filter_key (p := noTab D K) h
  have l := lookup_filter (p := noTab D K) h
  unfold noTab at k
  have k2 := (He.ba k).2
  unfold isLst at k2
  rw [l] at k2
  obtain ⟨c, d, dt, sl⟩ := o
  have z : c = .type "list" := z
  subst z
  cases k2
/-! ### constants -/
mutual
def conV (K : PySem.W.Frag) : Nat → PV → Value → Bool
  | 0, _, _ => false
  | _ + 1, .non, .none => true
  | _ + 1, .bl b, .bool c => b == c
  | _ + 1, .int i, .int j _ => decide (i = j)
  | _ + 1, .str x, .str y _ => decide (x = y)
  | n + 1, .tup xs, .ref a => (match K.lookup a with
    | some ⟨.type c, none, .seq its _, _⟩ => decide (c = "tuple") && (decide (its.size ≤ sizeLine) && conVs K n xs its.toList)
    | _ => false)
  | _ + 1, _, _ => false
def conVs (K : PySem.W.Frag) : Nat → List PV → List Value → Bool
  | 0, _, _ => false
  | _ + 1, [], [] => true
  | n + 1, x :: xs, u :: us => conV K n x u && conVs K n xs us
  | _ + 1, _, _ => false
end
theorem conV_ok {K : PySem.W.Frag} : ∀ n, (∀ (w : PV) (u : Value), conV K n w u = true → ∃ v, RelV v u ∧ ∀ [Ups] ρ H, RV K ρ H w v) ∧ ∀ (ws : List PV) (us : List Value), conVs K n ws us = true → ∃ vs, Vals vs us ∧ ∀ [Ups] ρ H, RVs K ρ H ws vs := by
  intro n
  induction n with
  | zero => exact ⟨fun _ _ h => (by unfold conV at h; cases h), fun _ _ h => (by unfold conVs at h; cases h)⟩
  | succ n ih =>
    refine ⟨fun w u h => ?_, fun ws us h => ?_⟩
    · cases w with
      | non =>
        cases u with
        | none => exact ⟨.non, rfl, fun ρ H => (RV.non_ _).mpr rfl⟩
        | _ => unfold conV at h; cases h
      | bl b =>
        cases u with
        | bool c =>
          unfold conV at h
          have e : b = c := eq_of_beq h
          subst e
          exact ⟨.bl b, rfl, fun ρ H => (RV.bl_ _ _).mpr rfl⟩
        | _ => unfold conV at h; cases h
      | int i =>
        cases u with
        | int j t =>
          unfold conV at h
          have e : i = j := of_decide_eq_true h
          subst e
          exact ⟨.int i, ⟨t, rfl⟩, fun ρ H => (RV.int_ _ _).mpr rfl⟩
        | _ => unfold conV at h; cases h
      | str x =>
        cases u with
        | str y t =>
          unfold conV at h
          have e : x = y := of_decide_eq_true h
          subst e
          exact ⟨.str x, ⟨t, rfl⟩, fun ρ H => (RV.str_ _ _).mpr rfl⟩
        | _ => unfold conV at h; cases h
      | tup xs =>
        cases u with
        | ref a =>
          unfold conV at h
          cases q : K.lookup a with
          | none => rw [q] at h; cases h
          | some o =>
            obtain ⟨oc, od, dt, osl⟩ := o
            rw [q] at h
            cases od with
            | some _ => cases oc <;> cases dt <;> cases h
            | none =>
            cases oc with
            | type c =>
              cases dt with
              | seq its m =>
                have h : (decide (c = "tuple") && (decide (its.size ≤ sizeLine) && conVs K n xs its.toList)) = true := h
                obtain ⟨h1, h2⟩ := He.ba h
                obtain ⟨h3, h4⟩ := He.ba h2
                obtain ⟨vs, r, k⟩ := ih.2 xs _ h4
                exact ⟨.ref a, rfl, fun ρ H => (RV.tup_ _ _).mpr ⟨a, vs, rfl, ⟨.inr ⟨_, its, m, q, congrArg Value.type (of_decide_eq_true h1), rfl, of_decide_eq_true h3, r⟩, fun _ => .inr ⟨_, its, m, q, congrArg Value.type (of_decide_eq_true h1), rfl, rfl, r⟩⟩, k ρ H⟩⟩
              | _ => cases h
            | _ => cases dt <;> cases h
        | _ => unfold conV at h; cases h
      | obj i => cases u <;> (unfold conV at h; cases h)
      | exn c fs => cases u <;> (unfold conV at h; cases h)
      | unk n => cases u <;> (unfold conV at h; cases h)
    · cases ws with
      | nil =>
        cases us with
        | nil => exact ⟨[], .nil, fun ρ H => .nil⟩
        | cons _ _ => unfold conVs at h; cases h
      | cons x xs =>
        cases us with
        | nil => unfold conVs at h; cases h
        | cons u us =>
          unfold conVs at h
          obtain ⟨h1, h2⟩ := He.ba h
          obtain ⟨v, r, k⟩ := ih.1 x u h1
          obtain ⟨vs, rs, ks⟩ := ih.2 xs us h2
          exact ⟨v :: vs, .cons r rs, fun ρ H => .cons (k ρ H) (ks ρ H)⟩
end DD
set_option Elab.async false
set_option linter.all false
set_option maxRecDepth 100000
set_option maxHeartbeats 4000000
/-! HD2: the facts as one Bool; what follows of them. -/
namespace DD
open PySem PySem.Spec PyProof.Rows L2

def nsB (K : PySem.W.Frag) (x : Str) (a : Addr) : Bool := He.eqO (PySem.W.nsIn K mainGlobals x) (some (some (.ref a)))
def clsB (K : PySem.W.Frag) (C : Addr) : Bool := PySem.W.plainGet K C Str.empty && (PySem.W.hasDictIn K C && (PySem.W.plainOver K C && He.eqO (PySem.W.findIn K (.ref C) "__setattr__") (some (some (.builtin "object.__setattr__")))))
theorem clsB_ok {K : PySem.W.Frag} {C : Addr} (h : clsB K C = true) : Cls K C := by
  obtain ⟨a, h⟩ := He.ba h
  obtain ⟨b, h⟩ := He.ba h
  obtain ⟨c, d⟩ := He.ba h
  exact ⟨a, b, c, He.eqO_ok d⟩
def arB (D : PD) (id n : Nat) : Bool := match D.fns[id]? with
  | some d => d.ps.length == n
  | none => false
theorem arB_ok {D : PD} {id n : Nat} (h : arB D id n = true) : ∃ f, D.bs.T id = some f ∧ f.ps.length = n := by
  unfold arB at h
  cases e : D.fns[id]? with
  | none => rw [e] at h; cases h
  | some d =>
    rw [e] at h
    exact ⟨d.fn0, by show (D.fns[id]?).map FD.fn0 = _; rw [e]; rfl, show d.ps.length = n by simpa using h⟩
/-! ### exceptions -/
def fldB : List Stmt → List Str → Bool
  | [], [] => true
  | .Assign [.Attribute (.Name s _) f _] (.Name g _) _ :: ss, x :: fs => decide (s = "self") && (decide (f = x) && (decide (g = x) && fldB ss fs))
  | _, _ => false
theorem fldB_ok : ∀ {ss : List Stmt} {fs : List Str}, fldB ss fs = true → FldSts ss fs
  | [], [], _ => .nil
  | [], _ :: _, h => by cases h
  | s :: ss, fs, h => by
    unfold fldB at h
    split at h
    · rename_i e; exact absurd e (by simp)
    · rename_i s' p1 f p2 g p3 p4 ss' x fs' e1 
      cases e1
      obtain ⟨a, h1⟩ := He.ba h
      obtain ⟨b, h2⟩ := He.ba h1
      obtain ⟨c, h3⟩ := He.ba h2
      have a' := of_decide_eq_true a
      have b' := of_decide_eq_true b
      have c' := of_decide_eq_true c
      have r := fldB_ok h3
      subst a' b' c'
      exact .cons r
    · cases h
def supStB (ss : List Stmt) (fs : List Str) : Bool := match ss with
  | .Expr (.Call (.Attribute (.Call (.Name s _) [] [] _) i p2) [.Constant (.str _) _ _] [] p4) _ :: ss => decide (s = "super") && (decide (i = "__init__") && ((p2.endLine == p4.line) && fldB ss fs))
  | _ => false
def supScB (sc : Scope) (fs : List Str) : Bool := decide (sc.kind = .function) && (decide (sc.isCoroutine = false) && (decide (sc.isGenerator = false) && (sc.names.all (fun x => decide (x.2 ≠ .cell)) && (decide (sc.names.lookup ("super" : Str) = some .globalImplicit) && (decide (sc.names.lookup ("__class__" : Str) = some .free) &&
  ((("self" : Str) :: fs).all fun f => decide (sc.names.lookup f = some .local)))))))
/-- what is seen of a def that closes over its class -/
abbrev FnS : Type := Option (Str × Str × Arguments × FuncBody × Scope × Addr × List Str × Value × Addr)
def fnSup (K : PySem.W.Frag) (f : Addr) : FnS := match K.lookup f with
  | some ⟨_, _, .func fd, _⟩ => some (fd.name, fd.qualname, fd.params, fd.body, fd.scope, fd.globals, fd.closure.map (·.1), fd.defaults, fd.builtins)
  | _ => none
def XD.val (d : XD) : FnS := some ("__init__", d.qual, defArgs d.st, .stmts (defBody d.st), defScope d.st, mainGlobals, ["__class__"], .none, builtinsNs)
def iAd (K : PySem.W.Frag) (C : Addr) : Addr := He.ma K C "__init__"
def supFnB (P : Program) (K : PySem.W.Frag) (C : Addr) (q : Str) : Bool := match K.lookup (iAd K C) with
  | some ⟨_, _, .func fd, _⟩ => PySem.W.codeIn K fd.code q && ((match fd.code with
    | .ref c => (match K.lookup c with
      | some ⟨_, _, .fields vs, _⟩ => (match (vs[2]? : Option Value) with
        | some (.str file _) => (P.main.file : Str) == file
        | _ => false)
      | _ => false)
    | _ => false) && (match fd.closure with
    | [(_, cc)] => (match K.lookup cc with
      | some ⟨_, _, .cell (some (.ref D)), _⟩ => decide (D = C)
      | _ => false)
    | _ => false))
  | _ => false
def clsMroB (K : PySem.W.Frag) (C : Addr) : Bool := match PySem.W.clsIn K C with
  | some cd => PySem.HandSPX.refsVE cd.mro && cd.hasDict
  | none => false
def supB (P : Program) (K : PySem.W.Frag) (C : Addr) (d : XD) : Bool :=
  clsMroB K C && (He.eqO (PySem.W.findIn K (.ref C) "__setattr__") (some (some (.builtin "object.__setattr__"))) && (PySem.W.keepIn K (.ref C) && (decide (PySem.W.subIn K (.ref C) (.type "BaseException") = some true) && (decide (PySem.W.typeIn K (.ref C) = some (.type "type")) &&
  (PySem.W.excInitIn K C He.veBase "ValueError.__new__" && (He.eqO (PySem.W.ks_superIn K C C "__init__") (some (some (.builtin "ValueError.__init__"))) && (decide (PySem.W.subIn K (.ref C) (.type "ValueError") = some true) &&
  (He.eqO (PySem.W.findIn K (.ref C) "__init__") (some (some (.ref (iAd K C)))) && (decide (PySem.W.typeIn K (.ref (iAd K C)) = some (.type "function")) && (supFnB P K C d.qual && (decide (PySem.W.mroIn K C (.ref C) = some true) &&
  (He.eqO (PySem.W.nsIn K mainGlobals "super") (some none) && (He.eqO (PySem.W.nsIn K PySem.cStatics "thirdparty.any") (some none) && d.nm.all fun f => He.eqO (PySem.W.findIn K (.ref C) f) (some none))))))))))))))
/-- what is plain from the text -/
def XD.stB (P : Program) (d : XD) : Bool := match d.b with
  | .own => d.nm.isEmpty
  | .ve => !d.nm.isEmpty && (supStB (defBody d.st) d.nm && (supScB (defScope d.st) d.nm && (!(P.main.scope.names.lookup ("super" : Str)).isSome && (decide ((("self" : Str) :: d.nm).Nodup) && (decide (d.nm.length ≤ 9) && ((("self" : Str) :: d.nm).all (fun f => !(f == ("__debug__" : Str))) && (match ((defArgs d.st).posonlyargs ++ (defArgs d.st).args).head? with
    | some ar => decide (ar.arg = "self")
    | none => false)))))))
  | .ex => false
/-- how its arguments are bound -/
def XD.BindOk (d : XD) : Prop := ∀ (qual : Str) (kV doc pm : Value) (an : Option Addr) (cdv ct : Value) (cc : Addr) (self : Value) (us : List Value), us.length = d.nm.length →
  bindArgs (PySem.W.ksFn "__init__" qual (defArgs d.st) (defBody d.st) (defScope d.st) .none kV doc pm an cdv ct cc) ⟨self :: us, []⟩ = pure ((("self" : Str) :: d.nm).zip (self :: us))
theorem sup_of {P : Program} {K : PySem.W.Frag} {C : Addr} {d : XD} (hv : fnSup K (iAd K C) = d.val) (h : supB P K C d = true) (hb : d.b = .ve) (hs : d.stB P = true) (hbind : d.BindOk) : d.nm ≠ [] ∧ SupC P K C d.nm := by
  unfold XD.stB at hs
  rw [hb] at hs
  obtain ⟨s1, hs⟩ := He.ba hs
  obtain ⟨s2, hs⟩ := He.ba hs
  obtain ⟨s3, hs⟩ := He.ba hs
  obtain ⟨s4, hs⟩ := He.ba hs
  obtain ⟨s5, hs⟩ := He.ba hs
  obtain ⟨s6, hs⟩ := He.ba hs
  obtain ⟨s7, s8⟩ := He.ba hs
  unfold supB at h
  obtain ⟨h1, h⟩ := He.ba h
  obtain ⟨h2, h⟩ := He.ba h
  obtain ⟨h3, h⟩ := He.ba h
  obtain ⟨h4, h⟩ := He.ba h
  obtain ⟨h5, h⟩ := He.ba h
  obtain ⟨h6, h⟩ := He.ba h
  obtain ⟨h7, h⟩ := He.ba h
  obtain ⟨h8, h⟩ := He.ba h
  obtain ⟨h9, h⟩ := He.ba h
  obtain ⟨h10, h⟩ := He.ba h
  obtain ⟨h11, h⟩ := He.ba h
  obtain ⟨h12, h⟩ := He.ba h
  obtain ⟨h13, h⟩ := He.ba h
  obtain ⟨h14, h15⟩ := He.ba h
  have h2 := He.eqO_ok h2
  refine ⟨(by intro z; rw [z] at s1; cases s1), ?_⟩
  obtain ⟨cd, hcd, hm, hh⟩ : ∃ cd, PySem.W.clsIn K C = some cd ∧ PySem.HandSPX.refsVE cd.mro = true ∧ cd.hasDict = true := by
    unfold clsMroB at h1
    cases e : PySem.W.clsIn K C with
    | none => rw [e] at h1; cases h1
    | some cd =>
      rw [e] at h1
      obtain ⟨a, b⟩ := He.ba h1
      exact ⟨cd, rfl, a, b⟩
  have st : StoC K C := ⟨h2, fun X hx ha hq => PySem.HandSPX.exc_osa X hx hcd hm hh ha hq, fun X hx hns hw hz ha hq => PySem.OEX.osa_old X hx hns hw hz hcd hm hh ha hq⟩
  have base : ∃ (B newId initId : String) (bmB : List Value), ExcBaseFacts B newId initId bmB ∧ PySem.W.KxsFacts B initId ∧ PySem.W.excInitIn K C bmB newId = true ∧
    PySem.W.ks_superIn K C C "__init__" = some (some (.builtin initId)) ∧ PySem.W.subIn K (.ref C) (.type B) = some true := ⟨"ValueError", "ValueError.__new__", "ValueError.__init__", He.veBase, PySem.F.excBase_ValueError, PySem.W.kxs_ValueError, h6, He.eqO_ok h7, of_decide_eq_true h8⟩
  have top : (P.main.scope.names.lookup ("super" : Str)).isSome = false := by simpa using s4
  have ndbg : ∀ f ∈ ("self" : Str) :: d.nm, (f == ("__debug__" : Str)) = false := fun f hf => by simpa using List.all_eq_true.mp s7 f hf
  refine ⟨st, h3, of_decide_eq_true h4, of_decide_eq_true h5, base, ?_, of_decide_eq_true h12, He.eqO_ok h13, He.eqO_ok h14, top, fun f hf => He.eqO_ok (List.all_eq_true.mp h15 f hf), of_decide_eq_true s5, of_decide_eq_true s6, ndbg⟩
  unfold supFnB at h11
  unfold fnSup at hv
  cases q : K.lookup (iAd K C) with
  | none => rw [q] at h11; cases h11
  | some o =>
    obtain ⟨oc, od, dt, osl⟩ := o
    rw [q] at h11 hv
    cases dt with
    | func fd =>
      obtain ⟨n1, n2, n3, n4, n5, n6, n7, n8, n9, n10, n11, n12, n13, n14, n15⟩ := fd
      have e2 : (some (n1, n2, n3, n4, n5, n6, n7.map (·.1), n8, n15) : FnS) = d.val := hv
      unfold XD.val at e2
      simp only [Option.some.injEq, Prod.mk.injEq] at e2
      obtain ⟨g1, g2, g3, g4, g5, g6, g7, g8, g9⟩ := e2
      subst g1 g2 g3 g4 g5 g6 g8 g9
      obtain ⟨c1, cR⟩ := He.ba h11
      obtain ⟨c2, c3⟩ := He.ba cR
      clear cR h11
      cases hcode : n13 with
      | ref cda =>
        rw [hcode] at c2
        have c2 : (match K.lookup cda with
          | some ⟨_, _, .fields vs, _⟩ => (match (vs[2]? : Option Value) with
            | some (.str file _) => (P.main.file : Str) == file
            | _ => false)
          | _ => false) = true := c2
        cases q2 : K.lookup cda with
        | none => rw [q2] at c2; cases c2
        | some o2 =>
          obtain ⟨ccl, cdd, dt2, ccs⟩ := o2
          rw [q2] at c2
          cases dt2 with
          | fields vs =>
            have c2 : (match (vs[2]? : Option Value) with
              | some (.str file _) => (P.main.file : Str) == file
              | _ => false) = true := c2
            cases q3 : (vs[2]? : Option Value) with
            | none => rw [q3] at c2; cases c2
            | some v =>
              rw [q3] at c2
              cases v with
              | str file tf =>
                have cF : ((P.main.file : Str) == file) = true := c2
                cases n7 with
                | nil => cases g7
                | cons p n7 =>
                  obtain ⟨cn, cc⟩ := p
                  cases n7 with
                  | cons _ _ => cases g7
                  | nil =>
                    have g7 : cn = ("__class__" : Str) := by
                      have z : [cn] = [("__class__" : Str)] := g7
                      exact (List.cons.inj z).1
                    subst g7
                    have c3 : (match K.lookup cc with
                      | some ⟨_, _, .cell (some (.ref D)), _⟩ => decide (D = C)
                      | _ => false) = true := c3
                    cases q4 : K.lookup cc with
                    | none => rw [q4] at c3; cases c3
                    | some o3 =>
                      obtain ⟨cl, cld, dt3, csl⟩ := o3
                      rw [q4] at c3
                      cases dt3 with
                      | cell v3 =>
                        cases v3 with
                        | none => cases c3
                        | some v4 =>
                          cases v4 with
                          | ref Dd =>
                            have c3 : Dd = C := of_decide_eq_true c3
                            subst c3
                            subst hcode
                            have sc := s3
                            unfold supScB at sc
                            obtain ⟨t1, sc⟩ := He.ba sc
                            obtain ⟨t2, sc⟩ := He.ba sc
                            obtain ⟨t3, sc⟩ := He.ba sc
                            obtain ⟨t4, sc⟩ := He.ba sc
                            obtain ⟨t5, sc⟩ := He.ba sc
                            obtain ⟨t6, t7⟩ := He.ba sc
                            cases hp : ((defArgs d.st).posonlyargs ++ (defArgs d.st).args).head? with
                            | none => rw [hp] at s8; cases s8
                            | some ar =>
                              rw [hp] at s8
                              have s8 : ar.arg = "self" := of_decide_eq_true s8
                              unfold supStB at s2
                              split at s2
                              · rename_i S p0 p1 I p2 text j p3 p4 p5 ss hbody
                                obtain ⟨u1, s2a⟩ := He.ba s2
                                obtain ⟨u2, s2b⟩ := He.ba s2a
                                obtain ⟨u3, u4⟩ := He.ba s2b
                                have u1' := of_decide_eq_true u1
                                have u2' := of_decide_eq_true u2
                                have r := fldB_ok u4
                                subst u1' u2'
                                have bind := hbind
                                unfold XD.BindOk at bind
                                rw [hbody] at q bind
                                exact ⟨_, cc, cda, _, _, _, _, _, _, _, _, _, _, _, _, _, ar, text, j, p0, p1, p2, p3, p4, p5, ss, ccl, cl, cdd, cld, ccs, csl, vs, file, tf, He.eqO_ok h9, of_decide_eq_true h10, q, c1, r, hp, s8, fun s self us hl => .of_eq (bind _ _ _ _ _ _ _ _ self us hl), q2, q3, cF, q4, u3,
                                  of_decide_eq_true t1, of_decide_eq_true t2, of_decide_eq_true t3, fun x hx => of_decide_eq_true (List.all_eq_true.mp t4 x hx), of_decide_eq_true t5, of_decide_eq_true t6, fun f hf => of_decide_eq_true (List.all_eq_true.mp t7 f hf)⟩
                              · cases s2
                          | _ => cases c3
                      | _ => cases c3
              | _ => cases c2
          | _ => cases c2
      | _ => rw [hcode] at c2; cases c2
    | _ => cases h11
end DD
set_option Elab.async false
set_option linter.all false
set_option maxRecDepth 100000
set_option maxHeartbeats 4000000
/-! HD3: all facts of a head; Sta of them; the Hook. -/
namespace DD
open PySem PySem.Spec PyProof.Rows L2

/-- a table of the module: its pairs -/
def tbsB (K : PySem.W.Frag) : List DictEntry → List (Str × PV) → Bool
  | [], [] => true
  | e :: r, (k, w) :: kvs => (match e.key with
    | .str x _ => decide (x = k)
    | _ => false) && (conV K 9 w e.val && tbsB K r kvs)
  | _, _ => false
def tbB (K : PySem.W.Frag) (a : Addr) (kvs : List (Str × PV)) : Bool := match K.lookup a with
  | some ⟨_, _, .dict es _, _⟩ => tbsB K es.toList kvs
  | _ => false
theorem tbsB_ok {K : PySem.W.Frag} (z : Str) : ∀ {l : List DictEntry} {kvs : List (Str × PV)}, tbsB K l kvs = true → (∃ e wv, l.find? (fun d => d.key.isStr z) = some e ∧ kvs.lookup z = some wv ∧ conV K 9 wv e.val = true) ∨ (l.find? (fun d => d.key.isStr z) = none ∧ kvs.lookup z = none ∧ l.any (·.refKey) = false)
  | [], [], _ => .inr ⟨rfl, rfl, rfl⟩
  | [], _ :: _, h => by cases h
  | _ :: _, [], h => by cases h
  | e :: r, (k, w) :: kvs, h => by
    obtain ⟨h1, h2⟩ := He.ba h
    obtain ⟨h2, h3⟩ := He.ba h2
    have ih := tbsB_ok z h3
    split at h1
    · rename_i x t q
      have h1 := of_decide_eq_true h1
      subst h1
      rw [List.find?_cons, List.lookup_cons, q]
      have es : (Value.str x t).isStr z = (z == x) := by
        show (x == z) = (z == x)
        exact BEq.comm
      rw [es]
      cases c : z == x with
      | true => exact .inl ⟨e, w, rfl, rfl, h2⟩
      | false =>
        rcases ih with a | ⟨a, b, c'⟩
        · exact .inl a
        · refine .inr ⟨a, b, ?_⟩
          rw [List.any_cons, c']
          have : e.refKey = false := by unfold DictEntry.refKey; rw [q]
          rw [this]
          rfl
    · cases h1
theorem tbB_ns {K : PySem.W.Frag} {a : Addr} {kvs : List (Str × PV)} (h : tbB K a kvs = true) (z : Str) : (∃ u v wv, kvs.lookup z = some wv ∧ PySem.W.nsIn K a z = some (some u) ∧ RelV v u ∧ ∀ [Ups] ρ H, RV K ρ H wv v) ∨ (kvs.lookup z = none ∧ PySem.W.nsIn K a z = some none) := by
  unfold tbB at h
  unfold PySem.W.nsIn
  split at h
  · rename_i es n sl q
    rw [q]
    rcases tbsB_ok z h with ⟨e, wv, e1, e2, e3⟩ | ⟨e1, e2, e3⟩
    · obtain ⟨v, r, k⟩ := (conV_ok 9).1 wv e.val e3
      refine .inl ⟨e.val, v, wv, e2, ?_, r, fun ρ H => k ρ H⟩
      show (match es.toList.find? (fun d => d.key.isStr z) with
        | some e => some (some e.val)
        | none => if es.toList.any (·.refKey) then none else some none) = _
      rw [e1]
    · refine .inr ⟨e2, ?_⟩
      show (match es.toList.find? (fun d => d.key.isStr z) with
        | some e => some (some e.val)
        | none => if es.toList.any (·.refKey) then none else some none) = _
      rw [e1]
      show (if es.toList.any (·.refKey) = true then none else some none) = _
      rw [e3]
      rfl
  · cases h
def glOkB (K : PySem.W.Frag) (D : PD) (p : Str × Gn) : Bool := match p.2 with
  | .no => true
  | .blt => He.eqO (PySem.W.nsIn K mainGlobals p.1) (some none)
  | .fn id n => nsB K p.1 (fAdr K D id) && arB D id n
  | .mk cc id n => nsB K p.1 (cAdr K D cc) && (PySem.W.makesIn K (cAdr K D cc) && (He.eqO (PySem.W.findIn K (.ref (cAdr K D cc)) "__init__") (some (some (.ref (fAdr K D id)))) && (PySem.W.isFn K (.ref (fAdr K D id)) && (PySem.W.keepIn K (.ref (cAdr K D cc)) && arB D id n))))
  | .con w => (match PySem.W.nsIn K mainGlobals p.1 with
    | some (some u) => conV K 9 w u
    | _ => false)
  | .exc cc nm => nsB K p.1 (cAdr K D cc) && D.xds.any fun d => decide (d.cc = cc) && decide (d.nm = nm)
  | .told _ _ => false
  | .tab kvs => nsB K p.1 (He.ga K p.1) && tbB K (He.ga K p.1) kvs
def mtOkB (K : PySem.W.Frag) (D : PD) (p : (Nat × Str) × (Nat × Nat)) : Bool := clsB K (cAdr K D p.1.1) && (He.eqO (PySem.W.findIn K (.ref (cAdr K D p.1.1)) p.1.2) (some (some (.ref (fAdr K D p.2.1)))) && arB D p.2.1 p.2.2)
def atOkB (K : PySem.W.Frag) (D : PD) (p : Nat × List Str) : Bool := clsB K (cAdr K D p.1) && p.2.all fun f => He.eqO (PySem.W.findIn K (.ref (cAdr K D p.1)) f) (some none)
def xdOkB (P : Program) (K : PySem.W.Frag) (D : PD) (d : XD) : Bool := match d.b with
  | .own => PySem.W.excIn K (cAdr K D d.cc) He.veBase "ValueError.__new__" && (PySem.W.keepIn K (.ref (cAdr K D d.cc)) && (decide (PySem.W.subIn K (.ref (cAdr K D d.cc)) (.type "BaseException") = some true) && decide (PySem.W.typeIn K (.ref (cAdr K D d.cc)) = some (.type "type"))))
  | .ve => supB P K (cAdr K D d.cc) d
  | .ex => false
def fnOkB (K : PySem.W.Frag) (d : FD) : Bool := (He.Fa.code d.at_ d.qual).ok K && (PySem.W.isFn K (.ref (He.fAd K d.at_)) && PySem.W.keepIn K (.ref (He.fAd K d.at_)))
def tdOkB (K : PySem.W.Frag) (d : FD) : Bool := fnOkB K d && nsB K d.name (He.fAd K d.at_)
def codeAt (K : PySem.W.Frag) (f : Addr) : Addr := match K.lookup f with
  | some ⟨_, _, .func fd, _⟩ => (match fd.code with
    | .ref c => c
    | _ => 0)
  | _ => 0
def isTabB (K : PySem.W.Frag) (a : Addr) : Bool := match K.lookup a with
  | some ⟨.none, none, .fields vs, sl⟩ => decide (vs.size = 0) && decide (sl.size = 0)
  | _ => false
theorem isTabB_ok {K : PySem.W.Frag} {a : Addr} (h : isTabB K a = true) : K.lookup a = some { cls := .none, data := .fields #[] } := by
  unfold isTabB at h
  split at h
  · rename_i vs sl q
    obtain ⟨a, b⟩ := He.ba h
    have a := Array.eq_empty_of_size_eq_zero (of_decide_eq_true a)
    have b := Array.eq_empty_of_size_eq_zero (of_decide_eq_true b)
    subst a b
    exact q
  · cases h
def tabOkB (K K' : PySem.W.Frag) (D : PD) (t : Nat × Nat) : Bool := isTabB K' (cAdr K D t.1) && (PySem.W.codeHdIn K (codeAt K (fAdr K D t.2)) (cAdr K D t.1) && (decide (cAdr K D t.1 ≠ 0) && ((K.lookup (cAdr K D t.1)).isNone && (match D.fns[t.2]? with
  | some d => decide ((t.1, d.qual) ∈ lamDefs) && (tabsOf (cAdr K D)).all fun p => decide (p.1 ≠ cAdr K D t.1) || decide (p.2 = d.qual ++ ".<locals>." ++ "<lambda>")
  | none => false))))
def factB (P : Program) (D : PD) (K K' : PySem.W.Frag) : Bool :=
  D.gls.all (glOkB K D) && (D.mts.all (mtOkB K D) && (D.ats.all (atOkB K D) && (D.xds.all (xdOkB P K D) && (D.exs.all (fun p => decide (PySem.W.exmOne K (.ref (cAdr K D p.1.1)) (.ref (cAdr K D p.1.2)) = some p.2)) &&
  (D.xfs.all (fun p => xfB K (cAdr K D p.1) && He.eqO (PySem.W.findIn K (.ref (cAdr K D p.1)) p.2) (some none)) && (D.tds.all (fun t => tdOkB K t.d) && (D.fns.all (fnOkB K) && D.tabs.all (tabOkB K K' D))))))))
/-! ### what is plain from the text -/
def fsB (N ps : List Str) (sc : Scope) : Bool := decide (sc.kind = .function) && (decide (sc.isCoroutine = false) && (decide (sc.isGenerator = false) && (decide N.Nodup && (decide (N.take ps.length = ps) && (ps.all (fun x => decide (sc.names.lookup x = some .local ∨ sc.names.lookup x = some .cell)) && sc.names.all fun y => decide (y.2 ≠ .free))))))
theorem fsB_ok {N ps : List Str} {sc : Scope} (h : fsB N ps sc = true) : FnScope N ps sc := by
  obtain ⟨a, h⟩ := He.ba h
  obtain ⟨b, h⟩ := He.ba h
  obtain ⟨c, h⟩ := He.ba h
  obtain ⟨d, h⟩ := He.ba h
  obtain ⟨e, h⟩ := He.ba h
  obtain ⟨f, g⟩ := He.ba h
  exact ⟨of_decide_eq_true a, of_decide_eq_true b, of_decide_eq_true c, of_decide_eq_true d, of_decide_eq_true e, fun x hx => of_decide_eq_true (List.all_eq_true.mp f x hx), fun y hy => of_decide_eq_true (List.all_eq_true.mp g y hy)⟩
def FD.val (d : FD) : He.FnV := some (d.name, d.qual, defArgs d.st, .stmts (defBody d.st), defScope d.st, mainGlobals, [], .none, builtinsNs)
def FD.BindOk (d : FD) : Prop := ∀ (qual : Str) (kV doc pm : Value) (an : Option Addr) (cdv ct : Value) (us : List Value), us.length = d.ps.length →
  bindArgs (PySem.W.fnOf d.name qual (defArgs d.st) (defBody d.st) (defScope d.st) .none kV doc pm an cdv ct) ⟨us, []⟩ = pure (d.ps.zip us)
def toldB (D : PD) (t : TD) : Bool := decide (t.d.qual = t.d.name) && (match t.d.ps, defBody t.d.st with
  | [a], [.Try [.Return (some (.Call (.Name b _) [] [] _)) _] (h :: hds) [] [] _] => decide (a = b) && (decide (t.d.N[0]? = some a) && (!(a == ("__debug__" : Str)) && (!(a == ("__classdict__" : Str)) && decide (hdOf D.bs.gl D.bs.xf (defScope t.d.st) t.d.N (h :: hds) = some t.hs))))
  | _, _ => false)
def PD.stB (P : Program) (D : PD) : Bool := D.fns.all (fun d => fsB d.N d.ps (defScope d.st)) && (D.tds.all (fun t => fsB t.d.N t.d.ps (defScope t.d.st) && toldB D t) && (D.xds.all (fun d => d.stB P) &&
  ((List.range D.fns.length).all fun id => match D.fns[id]? with
    | some d => (match d.tab with
      | some i => decide ((i, id) ∈ D.tabs) && decide (D.tabs.lookup i = some id)
      | none => true)
    | none => true)))
structure PD.Plain (P : Program) (D : PD) : Prop where
  st : D.stB P = true
  fb : ∀ d ∈ D.fns, d.BindOk
  tb : ∀ t ∈ D.tds, t.d.BindOk
  xb : ∀ d ∈ D.xds, match d.b with
    | .ve => d.BindOk
    | _ => True
/-! ### what is observed -/
abbrev ObT : Type := Bool × List He.FnV × List He.FnV × List FnS × List (Option (List (Option (Str × Int))))
def PD.tbN (D : PD) : List (Str × List Str) := D.gls.filterMap fun p => match p.2 with
  | .tab kvs => some (p.1, kvs.map (·.1))
  | _ => none
def xdV (K : PySem.W.Frag) (D : PD) (d : XD) : FnS := match d.b with
  | .ve => fnSup K (iAd K (cAdr K D d.cc))
  | _ => none
def xdW (d : XD) : FnS := match d.b with
  | .ve => d.val
  | _ => none
def obsP (P : Program) (D : PD) (K' : PySem.W.Frag) : ObT := (factB P D (dropT D K') K', D.fns.map (fun d => He.fnObs (dropT D K') d.at_), D.tds.map (fun t => He.fnObs (dropT D K') t.d.at_), D.xds.map (xdV (dropT D K') D), D.tbN.map (fun t => He.dicW (dropT D K') (He.ga (dropT D K') t.1)))
def valP' (w : World) (D : PD) : ObT := (true, D.fns.map FD.val, D.tds.map (fun t => t.d.val), D.xds.map xdW, D.tbN.map (fun t => some (He.keysIn w.params t.2)))
theorem mem_lk {α β : Type} [BEq α] [LawfulBEq α] {a : α} {b : β} : ∀ {l : List (α × β)}, l.lookup a = some b → (a, b) ∈ l
  | [], h => by cases h
  | (c, d) :: l, h => by
    rw [List.lookup_cons] at h
    cases q : a == c with
    | true =>
      rw [q] at h
      have := eq_of_beq q
      cases h
      subst this
      exact List.mem_cons_self
    | false => rw [q] at h; exact List.mem_cons_of_mem _ (mem_lk h)
theorem map_at {α β : Type} {f g : α → β} {l : List α} (h : l.map f = l.map g) {x : α} (hx : x ∈ l) : f x = g x := by
  obtain ⟨i, hi⟩ := List.getElem?_of_mem hx
  have e : (l.map f)[i]? = (l.map g)[i]? := by rw [h]
  rw [List.getElem?_map, List.getElem?_map, hi] at e
  exact Option.some.inj e
theorem fn_lk {K : PySem.W.Frag} {d : FD} (e : He.fnObs K d.at_ = d.val) (h : fnOkB K d = true) : (∃ oc od osl kV doc pm an cdv ct, K.lookup (He.fAd K d.at_) = some ⟨oc, od, .func (PySem.W.fnOf d.name d.qual (defArgs d.st) (defBody d.st) (defScope d.st) .none kV doc pm an cdv ct), osl⟩ ∧ PySem.W.codeIn K cdv d.qual = true) ∧
    PySem.W.isFn K (.ref (He.fAd K d.at_)) = true ∧ PySem.W.keepIn K (.ref (He.fAd K d.at_)) = true := by
  obtain ⟨a, b⟩ := He.ba h
  obtain ⟨b, c⟩ := He.ba b
  exact ⟨He.fn_ok (d := ⟨d.at_, d.name, d.qual, defArgs d.st, defBody d.st, defScope d.st⟩) e a, b, c⟩
theorem codeHd_ref {K : PySem.W.Frag} {f P : Addr} {oc : Value} {od : Option Addr} {fd : FuncData} {osl : Array (Option Value)} (q : K.lookup f = some ⟨oc, od, .func fd, osl⟩) (n : tabAt K f ≠ 0) : fd.code = .ref (codeAt K f) := by
  unfold tabAt at n
  unfold codeAt
  rw [q] at n ⊢
  have n : (match fd.code with
    | .ref c => (match K.lookup c with
      | some ⟨_, _, .fields vs, _⟩ => (match (vs[11]? : Option Value) with
        | some (.ref P) => P
        | _ => 0)
      | _ => 0)
    | _ => 0) ≠ 0 := n
  show fd.code = .ref (match fd.code with
    | .ref c => c
    | _ => 0)
  cases e : fd.code with
  | ref c => rfl
  | _ => rw [e] at n; exact absurd rfl n
section
variable {P : Program} {w : World} {D : PD} {K K' : PySem.W.Frag} {h base : Heap} {mg : Str → Option Value}
theorem gl_inv {x : Str} {g : Gn} (e : D.bs.gl x = g) : (∃ t ∈ D.tds, t.d.name = x ∧ g = .told t.d.N.length t.hs) ∨ g = .no ∨ (x, g) ∈ D.gls := by
  have e : (match D.tds.find? fun t => decide (t.d.name = x) with
    | some t => Gn.told t.d.N.length t.hs
    | none => (D.gls.lookup x).getD .no) = g := e
  cases q : D.tds.find? fun t => decide (t.d.name = x) with
  | some t =>
    rw [q] at e
    have := List.find?_some q
    exact .inl ⟨t, List.mem_of_find?_eq_some q, of_decide_eq_true this, e.symm⟩
  | none =>
    rw [q] at e
    cases q2 : D.gls.lookup x with
    | none => rw [q2] at e; exact .inr (.inl e.symm)
    | some g' =>
      rw [q2] at e
      have e : g' = g := e
      subst e
      exact .inr (.inr (mem_lk q2))
/-- the structure Sta, from the facts -/
theorem sta_of (S : D.Plain P) (ob : obsP P D K' = valP' w D) (hK : K = dropT D K') (X : K.In h) (G : h.Ns mainGlobals mg) (TB : ∀ t ∈ D.tabs, LamX.TabB base mg (codeAt K (fAdr K D t.2)) (cAdr K D t.1)) : Sta P w K mg base (cAdr K D) (fAdr K D) D.bs := by
  subst hK
  have ob1 : factB P D (dropT D K') K' = true := congrArg (fun z : ObT => z.1) ob
  have ob2 : D.fns.map (fun d => He.fnObs (dropT D K') d.at_) = D.fns.map FD.val := congrArg (fun z : ObT => z.2.1) ob
  have ob3 : D.tds.map (fun t => He.fnObs (dropT D K') t.d.at_) = D.tds.map (fun t => t.d.val) := congrArg (fun z : ObT => z.2.2.1) ob
  have ob4 : D.xds.map (xdV (dropT D K') D) = D.xds.map xdW := congrArg (fun z : ObT => z.2.2.2.1) ob
  have ob5 : D.tbN.map (fun t => He.dicW (dropT D K') (He.ga (dropT D K') t.1)) = D.tbN.map (fun t => some (He.keysIn w.params t.2)) := congrArg (fun z : ObT => z.2.2.2.2) ob
  generalize dropT D K' = K at *
  obtain ⟨o1, ob1⟩ := He.ba ob1
  obtain ⟨o2, ob1⟩ := He.ba ob1
  obtain ⟨o3, ob1⟩ := He.ba ob1
  obtain ⟨o4, ob1⟩ := He.ba ob1
  obtain ⟨o5, ob1⟩ := He.ba ob1
  obtain ⟨o6, ob1⟩ := He.ba ob1
  obtain ⟨o7, ob1⟩ := He.ba ob1
  obtain ⟨o8, o9⟩ := He.ba ob1
  obtain ⟨s1, s⟩ := He.ba S.st
  obtain ⟨s2, s⟩ := He.ba s
  obtain ⟨s3, s4⟩ := He.ba s
  have glq : ∀ {x : Str} {g : Gn}, D.bs.gl x = g → (∀ n hs, g ≠ .told n hs) → g ≠ .no → glOkB K D (x, g) = true := fun {x g} e n1 n2 => by
    rcases gl_inv e with ⟨t, _, _, e⟩ | e | e
    · exact absurd e (n1 _ _)
    · exact absurd e n2
    · exact List.all_eq_true.mp o1 _ e
  have exf : ExF K mg (cAdr K D) D.bs.gl D.bs.ex D.bs.xf := by
    refine ⟨fun x cc nm e => ?_, fun c cc b e => ?_, fun cc f e => ?_⟩
    · have := glq e (fun _ _ z => by cases z) (fun z => by cases z)
      exact PySem.W.mg_of X G (He.eqO_ok (He.ba this).1)
    · have e : D.exs.lookup (c, cc) = some b := e
      exact of_decide_eq_true (List.all_eq_true.mp o5 _ (mem_lk e))
    · have e : D.xfs.contains (cc, f) = true := e
      obtain ⟨a, b⟩ := He.ba (List.all_eq_true.mp o6 _ (by simpa using e))
      exact ⟨xfB_ok a, He.eqO_ok b⟩
  have tabk : ∀ x kvs, D.bs.gl x = .tab kvs → ∀ [Ups], TabIs K w mg x kvs := fun x kvs e => by
    intro _
    have q := glq e (fun _ _ z => by cases z) (fun z => by cases z)
    obtain ⟨a, b⟩ := He.ba (show (nsB K x (He.ga K x) && tbB K (He.ga K x) kvs) = true from q)
    have hm : (x, Gn.tab kvs) ∈ D.gls := by
      rcases gl_inv e with ⟨t, _, _, e2⟩ | e2 | e2
      · cases e2
      · cases e2
      · exact e2
    have hn : (x, kvs.map (·.1)) ∈ D.tbN := List.mem_filterMap.mpr ⟨_, hm, rfl⟩
    obtain ⟨es, n, kd⟩ := He.dicW_ok (map_at ob5 hn)
    exact ⟨He.ga K x, es, n, PySem.W.mg_of X G (He.eqO_ok a), kd, fun z => by
      rcases tbB_ns b z with ⟨u, v, wv, x1, x2, x3, x4⟩ | y
      · exact .inl ⟨u, v, wv, x1, x2, x3, fun ρ H => x4 ρ H⟩
      · exact .inr y⟩
  refine { fn := fun x id n e => ?_, mkc := fun x cc id n e => ?_, con := fun x w e => ?_, blt := fun x e => ?_, tabk := tabk, mt := fun c m id n e => ?_, at_ := fun c f e => ?_, T := fun id f e => ?_, exc := fun x cc nm e => ?_, exf := exf, told := fun x n hs e => ?_ }
  · obtain ⟨a, b⟩ := He.ba (glq e (fun _ _ z => by cases z) (fun z => by cases z))
    exact ⟨PySem.W.mg_of X G (He.eqO_ok a), arB_ok b⟩
  · obtain ⟨a, b⟩ := He.ba (glq e (fun _ _ z => by cases z) (fun z => by cases z))
    obtain ⟨b, c⟩ := He.ba b
    obtain ⟨c, d⟩ := He.ba c
    obtain ⟨d, f⟩ := He.ba d
    obtain ⟨f, g⟩ := He.ba f
    exact ⟨PySem.W.mg_of X G (He.eqO_ok a), arB_ok g, ⟨b, He.eqO_ok c, d, f⟩⟩
  · have q := glq e (fun _ _ z => by cases z) (fun z => by cases z)
    have q : (match PySem.W.nsIn K mainGlobals x with
      | some (some u) => conV K 9 w u
      | _ => false) = true := q
    split at q
    · rename_i u e2
      obtain ⟨v, r, k⟩ := (conV_ok 9).1 w u q
      exact ⟨u, v, PySem.W.mg_of X G e2, r, k⟩
    · cases q
  · exact PySem.W.mg_none_of X G (He.eqO_ok (glq e (fun _ _ z => by cases z) (fun z => by cases z)))
  · have e : D.mts.lookup (c, m) = some (id, n) := e
    obtain ⟨a, b⟩ := He.ba (List.all_eq_true.mp o2 _ (mem_lk e))
    obtain ⟨b, d⟩ := He.ba b
    exact ⟨arB_ok d, clsB_ok a, He.eqO_ok b⟩
  · have e : (match D.ats.lookup c with
      | some fs => fs.contains f
      | none => false) = true := e
    cases q : D.ats.lookup c with
    | none => rw [q] at e; cases e
    | some fs =>
      rw [q] at e
      obtain ⟨a, b⟩ := He.ba (List.all_eq_true.mp o3 _ (mem_lk q))
      exact ⟨clsB_ok a, He.eqO_ok (List.all_eq_true.mp b f (by simpa using e))⟩
  · have e : (D.fns[id]?).map FD.fn0 = some f := e
    cases q : D.fns[id]? with
    | none => rw [q] at e; cases e
    | some d =>
      rw [q] at e
      cases e
      have hm := List.mem_of_getElem? q
      have ea : fAdr K D id = He.fAd K d.at_ := by unfold fAdr; rw [q]
      obtain ⟨⟨oc, od, osl, kV, doc, pm, an, cdv, ct, lk, cd⟩, i1, i2⟩ := fn_lk (map_at ob2 hm) (List.all_eq_true.mp o8 d hm)
      rw [ea]
      refine ⟨d.name, d.qual, d.st, oc, od, kV, doc, pm, an, cdv, ct, osl, lk, cd, rfl, rfl, fsB_ok (List.all_eq_true.mp s1 d hm), .all (S.fb d hm d.qual kV doc pm an cdv ct), i1, i2, fun i hi => ?_⟩
      have hi : d.tab = some i := hi
      have s4' := List.all_eq_true.mp s4 id (List.mem_range.mpr (List.getElem?_eq_some_iff.mp q).1)
      rw [q] at s4'
      have s4' : (match d.tab with
        | some i => decide ((i, id) ∈ D.tabs) && decide (D.tabs.lookup i = some id)
        | none => true) = true := s4'
      rw [hi] at s4'
      obtain ⟨t1, t2⟩ := He.ba s4'
      have t1 := of_decide_eq_true t1
      have t2 := of_decide_eq_true t2
      obtain ⟨u1, u⟩ := He.ba (List.all_eq_true.mp o9 _ t1)
      obtain ⟨u2, u⟩ := He.ba u
      obtain ⟨u3, u⟩ := He.ba u
      obtain ⟨u4, u5⟩ := He.ba u
      rw [q] at u5
      obtain ⟨v1, v2⟩ := He.ba u5
      have n0 : cAdr K D i ≠ 0 := of_decide_eq_true u3
      have nt : tabAt K (fAdr K D id) ≠ 0 := by
        have e : cAdr K D i = if i < 900 then (match D.cls[i]? with
          | some x => He.ga K x
          | none => 0) else (match D.tabs.lookup i with
          | some id => tabAt K (fAdr K D id)
          | none => 0) := rfl
        have ge : ¬ i < 900 := by
          have m := of_decide_eq_true v1
          have : ∀ p ∈ lamDefs, ¬ p.1 < 900 := by decide
          exact this _ m
        rw [if_neg ge, t2] at e
        have e2 : cAdr K D i = tabAt K (fAdr K D id) := e
        rw [← e2]
        exact n0
      have ec := codeHd_ref (P := 0) (ea ▸ lk) nt
      refine ⟨codeAt K (fAdr K D id), ec, of_decide_eq_true v1, n0, fun p hp hq => ?_, TB _ t1⟩
      have := List.all_eq_true.mp v2 p hp
      rw [Bool.or_eq_true] at this
      rcases this with z | z
      · exact absurd hq (of_decide_eq_true z)
      · exact of_decide_eq_true z
  · obtain ⟨a, b⟩ := He.ba (glq e (fun _ _ z => by cases z) (fun z => by cases z))
    refine ⟨PySem.W.mg_of X G (He.eqO_ok a), ?_⟩
    obtain ⟨d, hd, c⟩ := List.any_eq_true.mp b
    obtain ⟨c1, c2⟩ := He.ba c
    have c1 := of_decide_eq_true c1
    have c2 := of_decide_eq_true c2
    subst c1 c2
    have z := List.all_eq_true.mp o4 d hd
    have st := List.all_eq_true.mp s3 d hd
    have xb := S.xb d hd
    have ov := map_at ob4 hd
    unfold xdOkB at z
    cases hb : d.b with
    | own =>
      rw [hb] at z
      have st' : d.nm.isEmpty = true := by unfold XD.stB at st; rw [hb] at st; exact st
      have e0 : d.nm = [] := List.isEmpty_iff.mp st'
      rw [e0]
      obtain ⟨z1, z⟩ := He.ba z
      obtain ⟨z2, z⟩ := He.ba z
      obtain ⟨z3, z4⟩ := He.ba z
      exact .own PySem.F.excBase_ValueError z1 z2 (of_decide_eq_true z3) (of_decide_eq_true z4)
    | ve =>
      rw [hb] at z xb
      have ov' : fnSup K (iAd K (cAdr K D d.cc)) = d.val := by
        unfold xdV xdW at ov
        rw [hb] at ov
        exact ov
      obtain ⟨y1, y2⟩ := sup_of ov' z hb st xb
      exact .sup y1 y2
    | ex => rw [hb] at z; cases z
  · rcases gl_inv e with ⟨t, ht, hx, e2⟩ | e2 | e2
    · cases e2
      subst hx
      obtain ⟨a, b⟩ := He.ba (List.all_eq_true.mp o7 t ht)
      obtain ⟨⟨oc, od, osl, kV, doc, pm, an, cdv, ct, lk, cd⟩, i1, i2⟩ := fn_lk (map_at ob3 ht) a
      obtain ⟨st1, st2⟩ := He.ba (List.all_eq_true.mp s2 t ht)
      have fs := fsB_ok st1
      have bd := S.tb t ht
      obtain ⟨eq, st2⟩ := He.ba st2
      have eq := of_decide_eq_true eq
      split at st2
      · rename_i a' b' p1 p2 p3 h₀ hds p8 hps hbody
        obtain ⟨c1, c⟩ := He.ba st2
        obtain ⟨c2, c⟩ := He.ba c
        obtain ⟨c3, c⟩ := He.ba c
        obtain ⟨c4, c5⟩ := He.ba c
        have c1 := of_decide_eq_true c1
        subst c1
        rw [hbody, eq] at lk
        rw [eq] at cd
        unfold FD.BindOk at bd
        rw [hps] at fs
        rw [hps, hbody] at bd
        refine ⟨a', He.fAd K t.d.at_, _, _, _, _, _, _, _, _, _, _, _, _, t.d.N, _, _, _, _, h₀, hds, PySem.W.mg_of X G (He.eqO_ok b), i2, lk, cd, .all (bd t.d.name _ _ _ _ _ _), fs, of_decide_eq_true c2, ?_, by simpa using c3, by simpa using c4, rfl, of_decide_eq_true c5⟩
        rcases fs.par a' (by simp) with z | z
        · exact .inl z
        · exact .inr (.inl z)
      · cases st2
    · cases e2
    · have := List.all_eq_true.mp o1 _ e2
      cases this
end
end DD
set_option Elab.async false
set_option linter.all false
set_option maxRecDepth 100000
set_option maxHeartbeats 4000000
/-! HD4: the Hook; a law's end. -/
namespace DD
open PySem PySem.Spec PyProof.Rows L2

def hookP (n : Nat) (P : Program) (D : PD) : PySem.W.Hook where
  α := ObT
  obs := fun s => obsP P D (He.frG s.heap.get? (PySem.cStatics :: He.asD s.heap.get? n))
  val := fun w => valP' w D
  says := fun w h => ∃ K' : PySem.W.Frag, K'.In h ∧ obsP P D K' = valP' w D
  of := fun _ _ e => ⟨_, He.frG_in, e⟩
  keeps := fun _ _ _ ⟨K, hK, c⟩ k => ⟨K, PySem.W.Frag.In.keeps hK k, c⟩
def obsT (n : Nat) (P : Program) (D : PD) (s : PySem.W.SharedT) : ObT := obsP P D (He.frG (HandSHeadRun.getT s) (PySem.cStatics :: He.asD (HandSHeadRun.getT s) n))
theorem obsT_eq {n : Nat} {P : Program} {D : PD} (s : PySem.W.SharedT) : obsT n P D s = (hookP n P D).obs s.abs := by
  have e : HandSHeadRun.getT s = s.abs.heap.get? := funext (HandSHeadRun.getT_eq s)
  unfold obsT
  rw [e] <;> rfl
/-- the script as an object -/
def scr (b : Bool) (ns : List Int) : Hh := Hh.nil.push (if b = true then .frz (.lst (ns.map .int)) else .lst (ns.map .int))
theorem rvs_ints [Ups] {K : PySem.W.Frag} {ρ : List Addr} {H : Hp} : ∀ ns : List Int, RVs K ρ H (ns.map .int) (ns.map V.int)
  | [] => .nil
  | n :: ns => .cons ((RV.int_ _ _).mpr rfl) (rvs_ints ns)
/-- nothing unknown -/
def U0 : Ups := ⟨fun _ => .non⟩
/-- a law whose own reading gives True -/
theorem law_walk {l : PySem.W.OpenLaw} {D : PD} {n0 k lid : Nat} {q : Program} {loose : List Str} {XP : (Str → Option Value) → Heap → Prop} {d : DefRec} {C : CT} {dl : FD} {x : Str} (S : D.Plain l.prog)
    (hn : l.most = some 63) (hdf : d.params.defaults = []) (hr : Room k callerA) (hl : D.fns[lid]? = some dl) (hps : dl.ps = [x]) (hat : dl.at_ = (d.name, none)) (hgl : (d.name, Gn.fn lid 1) ∈ D.gls)
    (hC : ∀ (w : World) (K : PySem.W.Frag) (mg : Str → Option Value) (base : Heap) (ca fa : Nat → Addr), Sta l.prog w K mg base ca fa D.bs → ∀ f, D.bs.T lid = some f → FnGood l.prog w K mg base ca fa U0 k lid f (C lid))
    (hlaw : ∀ (b : Bool) (ns : List Int), ns.length ≤ 63 → (∀ z ∈ ns, Builtin.Int.intBits z ≤ 1048576) → ∃ h', C lid [.obj 0] (scr b ns) = .ok (.bl true) h') :
    PySem.W.WalkO q loose XP (hookP n0 l.prog D).says l.row.toRowW d [] (fun f vs => PySem.call f vs) := by
  letI : Ups := U0
  refine LamX.walk_ofTsE (n := 63) (k := k) (x := x) (CX := fun w => L2.CX l.prog w) hn (by decide) hdf hr (fun w mg fa h Y G hmg => ?_) fun w H s e s' z => ?_
  · obtain ⟨K', XK', ob⟩ := Y
    have X := dropT_in (D := D) XK'
    refine ⟨dropT D K', X, ?_⟩
    have ob1 : factB l.prog D (dropT D K') K' = true := congrArg (fun z : ObT => z.1) ob
    have ob2 : D.fns.map (fun d => He.fnObs (dropT D K') d.at_) = D.fns.map FD.val := congrArg (fun z : ObT => z.2.1) ob
    have o9 : D.tabs.all (tabOkB (dropT D K') K' D) = true := (He.ba (He.ba (He.ba (He.ba (He.ba (He.ba (He.ba (He.ba ob1).2).2).2).2).2).2).2).2
    have o8 : D.fns.all (fnOkB (dropT D K')) = true := (He.ba (He.ba (He.ba (He.ba (He.ba (He.ba (He.ba (He.ba ob1).2).2).2).2).2).2).2).1
    have hm := List.mem_of_getElem? hl
    obtain ⟨⟨oc, od, osl, kV, doc, pm, an, cdv, ct, lk, cd⟩, i1, i2⟩ := fn_lk (map_at ob2 hm) (List.all_eq_true.mp o8 dl hm)
    have noL : ∀ a o, (dropT D K').lookup a = some o → o.cls ≠ .type "list" := fun a o e => dropT_nolst e
    have efa : fAdr (dropT D K') D lid = He.fAd (dropT D K') dl.at_ := by unfold fAdr; rw [hl]
    have hfa : fAdr (dropT D K') D lid = fa := by
      have o1 := (He.ba ob1).1
      have := PySem.W.mg_of X G (He.eqO_ok (He.ba (List.all_eq_true.mp o1 _ hgl)).1)
      rw [hmg] at this
      cases this
      rfl
    generalize hK : dropT D K' = K at *
    refine ⟨PySem.W.fnOf dl.name dl.qual (defArgs dl.st) (defBody dl.st) (defScope dl.st) .none kV doc pm an cdv ct, D.tabs.map (fun t => (codeAt K (fAdr K D t.2), cAdr K D t.1)), spC K (cAdr K D) 1 (C lid), ?_, ?_, ?_, ?_, ?_, ?_⟩
    · intro p hp
      obtain ⟨t, ht, rfl⟩ := List.mem_map.mp hp
      exact XK' _ _ (isTabB_ok (He.ba (List.all_eq_true.mp o9 t ht)).1)
    · intro p hp
      obtain ⟨t, ht, rfl⟩ := List.mem_map.mp hp
      have := (He.ba (He.ba (He.ba (He.ba (List.all_eq_true.mp o9 t ht)).2).2).2).1
      exact Option.isNone_iff_eq_none.mp this
    · intro p hp
      obtain ⟨t, ht, rfl⟩ := List.mem_map.mp hp
      exact PySem.W.codeHd_of_K X (He.ba (He.ba (List.all_eq_true.mp o9 t ht)).2).1
    · intro s u
      have := S.fb dl hm dl.qual kV doc pm an cdv ct [u] (by rw [hps]; rfl)
      rw [hps] at this
      exact .of_eq this
    · intro H a ns hlen hbits hT hS
      have tb : LamX.Tabs (tabsOf (cAdr K D)) H := fun p hp => by
        obtain ⟨i, hi, e⟩ := List.mem_filterMap.mp hp
        split at e
        · cases e
        · rename_i n0
          cases e
          refine LamX.TabS.nil ?_
          have ge : ¬ i.1 < 900 := by
            have : ∀ p ∈ lamDefs, ¬ p.1 < 900 := by decide
            exact this _ hi
          have e2 : cAdr K D i.1 = if i.1 < 900 then (match D.cls[i.1]? with
            | some x => He.ga K x
            | none => 0) else (match D.tabs.lookup i.1 with
            | some id => tabAt K (fAdr K D id)
            | none => 0) := rfl
          rw [if_neg ge] at e2
          cases q2 : D.tabs.lookup i.1 with
          | none => rw [q2] at e2; exact absurd e2 n0
          | some id =>
            exact hT (codeAt K (fAdr K D id), cAdr K D i.1) (List.mem_map.mpr ⟨(i.1, id), mem_lk q2, rfl⟩)
      have fin : ∀ (b : Bool) (u : HO), H a = some u → RO K [a] H (cAdr K D) (if b = true then .frz (.lst (ns.map .int)) else .lst (ns.map .int)) u → spC K (cAdr K D) 1 (C lid) [.ref a] H (fun v _ => v = .bl true) fun _ _ _ => False := by
        intro b u hu r
        refine ⟨rfl, [a], [.obj 0], scr b ns, ⟨rfl, by simp, fun i a' e => ?_, tb⟩, .cons ((RV.obj_ _ _).mpr ⟨a, rfl, rfl⟩) .nil, ?_⟩
        · cases i with
          | zero =>
            have e : a = a' := by simpa using e
            subst e
            refine ⟨_, u, ?_, hu, r⟩
            unfold scr
            rw [Hh.get_push]
            exact if_pos rfl
          | succ i => simp at e
        · obtain ⟨h', e⟩ := hlaw b ns hlen hbits
          rw [e]
          intro ρ' H' v E R r
          exact (RV.bl_ _ _).mp r
      rcases hS with hS | ⟨o, its, m, lk', c1, _⟩
      · rcases hS with hS | ⟨ob', hS⟩
        · exact fin false _ hS ⟨_, rfl, rvs_ints ns⟩
        · exact fin true _ hS ⟨ob', _, rfl, ⟨_, rfl, rvs_ints ns⟩, trivial⟩
      · exact absurd c1 (noL _ _ lk')
    · intro base XB GB TB
      have St := sta_of (w := w) (base := base) S ob hK.symm X G (fun t ht => TB (codeAt K (fAdr K D t.2), cAdr K D t.1) (List.mem_map.mpr ⟨t, ht, rfl⟩))
      obtain ⟨fd, ⟨oc', od', osl', lk'⟩, F, _⟩ := hC w K mg base (cAdr K D) (fAdr K D) St dl.fn0 (by show (D.fns[lid]?).map FD.fn0 = _; rw [hl]; rfl)
      rw [efa, lk] at lk'
      cases lk'
      rw [hfa] at F
      have e1 : dl.fn0.ps = [x] := hps
      rw [e1] at F
      exact F
  · obtain ⟨_, _, _, _, _, _, _, _, _, _, _, _, _, _, _, _, z⟩ := z
end DD
set_option Elab.async false
set_option linter.all false
set_option maxRecDepth 100000
set_option maxHeartbeats 0

/-! K07: the law's text as data (printed by gen.py); its head. -/
namespace K07
open PySem PySem.Spec PyProof.Rows L2 DD
def topS (i : Nat) : Stmt := PySem.Challenge.pw_objecthall_k07_bodies_looked_at.main.body.getD i (.Pass ⟨0, 0, 0, 0⟩)
def mthS (i j : Nat) : Stmt := match topS i with
  | .ClassDef _ _ _ b _ _ _ _ _ _ _ => b.getD j (.Pass ⟨0, 0, 0, 0⟩)
  | s => s
def f0 : FD := ⟨("put", none), "put", "put", topS 17, ["kind", "table", "one"], ["kind", "table"], none⟩
def f1 : FD := ⟨("Classes", some "__init__"), "__init__", "Classes.__init__", mthS 18 0, ["self", "rows", "one"], ["self", "rows"], none⟩
def f2 : FD := ⟨("Classes", some "is_class"), "is_class", "Classes.is_class", mthS 18 1, ["self", "name"], ["self", "name"], none⟩
def f3 : FD := ⟨("Classes", some "supers"), "supers", "Classes.supers", mthS 18 2, ["self", "name", "one"], ["self", "name"], none⟩
def f4 : FD := ⟨("Classes", some "check_round"), "check_round", "Classes.check_round", mthS 18 3, ["self", "name", "left", "seen", "here", "one", "k", "kind", "due"], ["self", "name"], none⟩
def f5 : FD := ⟨("Classes", some "variables"), "variables", "Classes.variables", mthS 18 4, ["self", "name"], ["self", "name"], none⟩
def f6 : FD := ⟨("Classes", some "check_kind"), "check_kind", "Classes.check_kind", mthS 18 5, ["self", "kind", "held", "table", "one", "name", "bound"], ["self", "kind", "held"], none⟩
def f7 : FD := ⟨("Classes", some "check_kinds"), "check_kinds", "Classes.check_kinds", mthS 18 6, ["self", "one", "held", "kind", "heads", "name", "bound", "parts", "part", "inner", "term", "method"], ["self", "one"], none⟩
def f8 : FD := ⟨("Classes", some "over"), "over", "Classes.over", mthS 18 7, ["self", "kind", "found", "left", "here", "table", "one", "there", "name", "bound"], ["self", "kind"], none⟩
def f9 : FD := ⟨("Classes", some "is_under"), "is_under", "Classes.is_under", mthS 18 8, ["self", "kind", "goal", "held", "bound"], ["self", "kind", "goal", "held"], none⟩
def f10 : FD := ⟨("Classes", some "own_kind"), "own_kind", "Classes.own_kind", mthS 18 9, ["self", "name", "one", "bound"], ["self", "name"], none⟩
def f11 : FD := ⟨("Classes", some "parents"), "parents", "Classes.parents", mthS 18 10, ["self", "name", "found", "here", "one", "table", "inner", "mine", "bound"], ["self", "name"], none⟩
def f12 : FD := ⟨("Classes", some "fields"), "fields", "Classes.fields", mthS 18 11, ["self", "name", "found", "here", "table", "field", "kind", "term", "inner", "mine", "bound"], ["self", "name"], none⟩
def f13 : FD := ⟨("Classes", some "heads"), "heads", "Classes.heads", mthS 18 12, ["self", "kind", "ahead", "here", "found", "rows", "one", "table", "row", "name", "parts", "goal", "inner", "method", "bound", "part", "part_kind"], ["self", "kind"], none⟩
def f14 : FD := ⟨("Classes", some "check_members"), "check_members", "Classes.check_members", mthS 18 13, ["self", "one", "name", "held", "mine", "there", "method", "parts", "goal", "where", "head", "field", "kind"], ["self", "one"], none⟩
def f15 : FD := ⟨("Classes", some "body_of"), "body_of", "Classes.body_of", mthS 18 14, ["self", "name", "method", "here", "row"], ["self", "name", "method"], none⟩
def f16 : FD := ⟨("Classes", some "below"), "below", "Classes.below", mthS 18 15, ["self", "name"], ["self", "name"], none⟩
def f17 : FD := ⟨("Classes", some "names_over"), "names_over", "Classes.names_over", mthS 18 16, ["self", "name"], ["self", "name"], none⟩
def f18 : FD := ⟨("check_once", none), "check_once", "check_once", topS 19, ["row", "k", "name"], ["row"], none⟩
def f19 : FD := ⟨("_law_dice", none), "_law_dice", "_law_dice", topS 29, ["cell"], ["cell"], none⟩
def f20 : FD := ⟨("_law_roll", none), "_law_roll", "_law_roll", topS 30, ["dice", "many", "found"], ["dice", "many"], none⟩
def f21 : FD := ⟨("_law_rounds", none), "_law_rounds", "_law_rounds", topS 31, ["script", "most", "cells", "cell"], ["script", "most"], none⟩
def f22 : FD := ⟨("_law_kind", none), "_law_kind", "_law_kind", topS 33, ["name"], ["name"], none⟩
def f23 : FD := ⟨("Check", some "__init__"), "__init__", "Check.__init__", mthS 23 0, ["self", "classes", "held", "own", "goal"], ["self", "classes", "held", "own", "goal"], none⟩
def f24 : FD := ⟨("Check", some "need"), "need", "Check.need", mthS 23 1, ["self", "term", "goal", "isset", "kind"], ["self", "term", "goal", "isset"], none⟩
def f25 : FD := ⟨("Check", some "kind_of"), "kind_of", "Check.kind_of", mthS 23 2, ["self", "term", "isset", "kind"], ["self", "term", "isset"], none⟩
def f26 : FD := ⟨("Check", some "need_own"), "need_own", "Check.need_own", mthS 23 3, ["self"], ["self"], none⟩
def f27 : FD := ⟨("Check", some "of_op"), "of_op", "Check.of_op", mthS 23 4, ["self", "term", "isset", "sign", "one", "other"], ["self", "term", "isset"], none⟩
def f28 : FD := ⟨("Check", some "bounded"), "bounded", "Check.bounded", mthS 23 5, ["self", "kind"], ["self", "kind"], none⟩
def f29 : FD := ⟨("Check", some "field"), "field", "Check.field", mthS 23 6, ["self", "kind", "name", "table", "field", "found", "where", "one", "mine", "bound"], ["self", "kind", "name"], none⟩
def f30 : FD := ⟨("Check", some "of_call"), "of_call", "Check.of_call", mthS 23 7, ["self", "term", "isset", "heads", "one", "table", "rows", "where", "name", "given", "inner", "mine", "bound", "part", "kind"], ["self", "term", "isset"], none⟩
def f31 : FD := ⟨("Check", some "need_all"), "need_all", "Check.need_all", mthS 23 8, ["self", "given", "goals", "isset", "name", "term", "goal"], ["self", "given", "goals", "isset", "name"], none⟩
def f32 : FD := ⟨("Check", some "of_look"), "of_look", "Check.of_look", mthS 23 9, ["self", "term", "isset", "kind", "name"], ["self", "term", "isset"], none⟩
def f33 : FD := ⟨("Check", some "steps"), "steps", "Check.steps", mthS 23 10, ["self", "steps", "isset", "step", "name", "mine", "ends", "kind"], ["self", "steps", "isset"], none⟩
def f34 : FD := ⟨("Check", some "plain_step"), "plain_step", "Check.plain_step", mthS 23 11, ["self", "step", "isset", "goal"], ["self", "step", "isset"], none⟩
def f35 : FD := ⟨("Check", some "branch"), "branch", "Check.branch", mthS 23 12, ["self", "step", "isset", "one", "ends", "other", "more", "name"], ["self", "step", "isset"], none⟩
def f36 : FD := ⟨("check_body", none), "check_body", "check_body", topS 24, ["classes", "held", "own", "parts", "goal", "body", "look", "name", "kind", "isset", "ends"], ["classes", "held", "own", "parts", "goal", "body"], none⟩
def f37 : FD := ⟨("check_class", none), "check_class", "check_class", topS 25, ["classes", "one", "held", "own", "name", "kind", "term", "parts", "before", "after", "body", "look"], ["classes", "one"], none⟩
def f38 : FD := ⟨("check_main", none), "check_main", "check_main", topS 26, ["classes", "main"], ["classes", "main"], none⟩
def f39 : FD := ⟨("check_rows", none), "check_rows", "check_rows", topS 27, ["classes", "name"], ["classes"], none⟩
def f40 : FD := ⟨("_law_call", none), "_law_call", "_law_call", topS 34, ["thing", "method"], ["thing", "method"], none⟩
def f41 : FD := ⟨("_law_int", none), "_law_int", "_law_int", topS 35, ["dice", "deep", "names", "things", "kind", "thing", "sign"], ["dice", "deep", "names", "things"], none⟩
def f42 : FD := ⟨("_law_test", none), "_law_test", "_law_test", topS 36, ["dice", "names", "things", "kind", "sign", "one", "two"], ["dice", "names", "things"], none⟩
def f43 : FD := ⟨("_law_rows", none), "_law_rows", "_law_rows", topS 37, ["dice", "set_x", "mine", "before", "later", "step", "methods", "first", "there", "steps", "fields", "one", "this"], ["dice"], none⟩
def f44 : FD := ⟨("_law_thing", none), "_law_thing", "_law_thing", topS 38, ["dice", "names", "kind"], ["dice", "names"], none⟩
def f45 : FD := ⟨("_law_main", none), "_law_main", "_law_main", topS 39, ["dice", "one", "found", "inner", "lay_in", "last"], ["dice"], none⟩
def f46 : FD := ⟨("law", none), "law", "law", topS 40, ["script", "dice", "spoilt", "k", "fine", "classes", "main", "number", "truth", "name", "var", "last", "bad", "due"], ["script"], some 900⟩
def t0 : TD := ⟨⟨("_law_told", none), "_law_told", "_law_told", topS 32, ["what", "e"], ["what"], none⟩, [⟨1, none, .ret (.str "text")⟩, ⟨2, none, .ret (.str "name")⟩, ⟨3, none, .ret (.str "kind")⟩, ⟨4, none, .ret (.str "unset")⟩, ⟨5, some 1, .ret (.fld "why")⟩, ⟨6, none, .ret (.str "program")⟩, ⟨7, none, .ret (.str "long")⟩, ⟨8, none, .ret (.str "large")⟩]⟩
def x0 : XD := ⟨"ObjectFault", 0, [], .own, .Pass ⟨0, 0, 0, 0⟩, ""⟩
def x1 : XD := ⟨"BadText", 1, ["place"], .ve, mthS 3 0, "BadText.__init__"⟩
def x2 : XD := ⟨"BadName", 2, ["word"], .ve, mthS 4 0, "BadName.__init__"⟩
def x3 : XD := ⟨"BadKind", 3, ["stands", "due"], .ve, mthS 5 0, "BadKind.__init__"⟩
def x4 : XD := ⟨"Unset", 4, [], .own, .Pass ⟨0, 0, 0, 0⟩, ""⟩
def x5 : XD := ⟨"Broken", 5, ["why"], .ve, mthS 7 0, "Broken.__init__"⟩
def x6 : XD := ⟨"BadProgram", 6, [], .own, .Pass ⟨0, 0, 0, 0⟩, ""⟩
def x7 : XD := ⟨"TooLong", 7, [], .own, .Pass ⟨0, 0, 0, 0⟩, ""⟩
def x8 : XD := ⟨"TooLarge", 8, [], .own, .Pass ⟨0, 0, 0, 0⟩, ""⟩
def gl0 : List (Str × Gn) := [("put", .fn 0 2),
    ("check_once", .fn 18 1),
    ("_law_dice", .fn 19 1),
    ("_law_roll", .fn 20 2),
    ("_law_rounds", .fn 21 2),
    ("_law_kind", .fn 22 1),
    ("check_body", .fn 36 6),
    ("check_class", .fn 37 2),
    ("check_main", .fn 38 2),
    ("check_rows", .fn 39 1),
    ("_law_call", .fn 40 2),
    ("_law_int", .fn 41 4),
    ("_law_test", .fn 42 3),
    ("_law_rows", .fn 43 1),
    ("_law_thing", .fn 44 2),
    ("_law_main", .fn 45 1),
    ("law", .fn 46 1),
    ("ObjectFault", .exc 0 []),
    ("BadText", .exc 1 ["place"]),
    ("BadName", .exc 2 ["word"]),
    ("BadKind", .exc 3 ["stands", "due"]),
    ("Unset", .exc 4 []),
    ("Broken", .exc 5 ["why"]),
    ("BadProgram", .exc 6 []),
    ("TooLong", .exc 7 [])]
def gl1 : List (Str × Gn) := [("TooLarge", .exc 8 []),
    ("Classes", .mk 9 1 2),
    ("Check", .mk 10 23 5),
    ("INT", .con (.tup [.str "own", .str "Int", .tup []])),
    ("TRUTH", .con (.tup [.str "own", .str "Bool", .tup []])),
    ("UNIT", .con (.tup [.str "own", .str "Unit", .tup []])),
    ("NULL", .con (.tup [.str "null"])),
    ("PLAIN", .con (.tup [.str "Int", .str "Bool", .str "Unit"])),
    ("TRUTHS", .con (.tup [.str "<", .str "<=", .str "&&", .str "||"])),
    ("OPS", .tab [("+", .tup [.str "own", .str "Int", .tup []]), ("-", .tup [.str "own", .str "Int", .tup []]), ("*", .tup [.str "own", .str "Int", .tup []]), ("/", .tup [.str "own", .str "Int", .tup []]), ("^", .tup [.str "own", .str "Int", .tup []]), ("<", .tup [.str "own", .str "Int", .tup []]), ("<=", .tup [.str "own", .str "Int", .tup []]), ("&&", .tup [.str "own", .str "Bool", .tup []]), ("||", .tup [.str "own", .str "Bool", .tup []])]),
    ("abs", .blt),
    ("dict", .blt),
    ("enumerate", .blt),
    ("int", .blt),
    ("len", .blt),
    ("reversed", .blt),
    ("tuple", .blt),
    ("zip", .blt)]
def mt0 : List ((Nat × Str) × (Nat × Nat)) := [((9, "is_class"), (2, 2)),
    ((9, "supers"), (3, 2)),
    ((9, "check_round"), (4, 2)),
    ((9, "variables"), (5, 2)),
    ((9, "check_kind"), (6, 3)),
    ((9, "check_kinds"), (7, 2)),
    ((9, "over"), (8, 2)),
    ((9, "is_under"), (9, 4)),
    ((9, "own_kind"), (10, 2)),
    ((9, "parents"), (11, 2)),
    ((9, "fields"), (12, 2)),
    ((9, "heads"), (13, 2)),
    ((9, "check_members"), (14, 2)),
    ((9, "body_of"), (15, 3)),
    ((9, "below"), (16, 2)),
    ((9, "names_over"), (17, 2)),
    ((10, "need"), (24, 4)),
    ((10, "kind_of"), (25, 3)),
    ((10, "need_own"), (26, 1)),
    ((10, "of_op"), (27, 3)),
    ((10, "bounded"), (28, 2)),
    ((10, "field"), (29, 3)),
    ((10, "of_call"), (30, 3)),
    ((10, "need_all"), (31, 5)),
    ((10, "of_look"), (32, 3))]
def mt1 : List ((Nat × Str) × (Nat × Nat)) := [((10, "steps"), (33, 3)),
    ((10, "plain_step"), (34, 3)),
    ((10, "branch"), (35, 3))]
def ex0 : List ((Nat × Nat) × Bool) := [((0, 0), true),
    ((0, 1), false),
    ((0, 2), false),
    ((0, 3), false),
    ((0, 4), false),
    ((0, 5), false),
    ((0, 6), false),
    ((0, 7), false),
    ((0, 8), false),
    ((1, 0), true),
    ((1, 1), true),
    ((1, 2), false),
    ((1, 3), false),
    ((1, 4), false),
    ((1, 5), false),
    ((1, 6), false),
    ((1, 7), false),
    ((1, 8), false),
    ((2, 0), true),
    ((2, 1), false),
    ((2, 2), true),
    ((2, 3), false),
    ((2, 4), false),
    ((2, 5), false),
    ((2, 6), false)]
def ex1 : List ((Nat × Nat) × Bool) := [((2, 7), false),
    ((2, 8), false),
    ((3, 0), true),
    ((3, 1), false),
    ((3, 2), false),
    ((3, 3), true),
    ((3, 4), false),
    ((3, 5), false),
    ((3, 6), false),
    ((3, 7), false),
    ((3, 8), false),
    ((4, 0), true),
    ((4, 1), false),
    ((4, 2), false),
    ((4, 3), false),
    ((4, 4), true),
    ((4, 5), false),
    ((4, 6), false),
    ((4, 7), false),
    ((4, 8), false),
    ((5, 0), true),
    ((5, 1), false),
    ((5, 2), false),
    ((5, 3), false),
    ((5, 4), false)]
def ex2 : List ((Nat × Nat) × Bool) := [((5, 5), true),
    ((5, 6), false),
    ((5, 7), false),
    ((5, 8), false),
    ((6, 0), true),
    ((6, 1), false),
    ((6, 2), false),
    ((6, 3), false),
    ((6, 4), false),
    ((6, 5), false),
    ((6, 6), true),
    ((6, 7), false),
    ((6, 8), false),
    ((7, 0), true),
    ((7, 1), false),
    ((7, 2), false),
    ((7, 3), false),
    ((7, 4), false),
    ((7, 5), false),
    ((7, 6), false),
    ((7, 7), true),
    ((7, 8), false),
    ((8, 0), true),
    ((8, 1), false),
    ((8, 2), false)]
def ex3 : List ((Nat × Nat) × Bool) := [((8, 3), false),
    ((8, 4), false),
    ((8, 5), false),
    ((8, 6), false),
    ((8, 7), false),
    ((8, 8), true)]
def fn0 : List (FD) := [f0,
    f1,
    f2,
    f3,
    f4,
    f5,
    f6,
    f7,
    f8,
    f9,
    f10,
    f11,
    f12,
    f13,
    f14,
    f15,
    f16,
    f17,
    f18,
    f19,
    f20,
    f21,
    f22,
    f23,
    f24]
def fn1 : List (FD) := [f25,
    f26,
    f27,
    f28,
    f29,
    f30,
    f31,
    f32,
    f33,
    f34,
    f35,
    f36,
    f37,
    f38,
    f39,
    f40,
    f41,
    f42,
    f43,
    f44,
    f45,
    f46]
def D : PD where
  fns := fn0 ++ fn1
  cls := ["ObjectFault", "BadText", "BadName", "BadKind", "Unset", "Broken", "BadProgram", "TooLong", "TooLarge", "Classes", "Check"]
  gls := gl0 ++ gl1
  mts := mt0 ++ mt1
  ats := [(9, ["rows"]), (10, ["classes", "held", "own", "goal", "names", "result", "is_contract"])]
  xds := [x0, x1, x2, x3, x4, x5, x6, x7, x8]
  exs := ex0 ++ ex1 ++ ex2 ++ ex3
  xfs := [(5, "why")]
  tds := [t0]
  tabs := [(900, 46)]
  fu := 2000
theorem b0 : f0.BindOk := fun _ _ _ _ _ _ _ us hl => match us, hl with
  | [_, _], _ => rfl
theorem b1 : f1.BindOk := fun _ _ _ _ _ _ _ us hl => match us, hl with
  | [_, _], _ => rfl
theorem b2 : f2.BindOk := fun _ _ _ _ _ _ _ us hl => match us, hl with
  | [_, _], _ => rfl
theorem b3 : f3.BindOk := fun _ _ _ _ _ _ _ us hl => match us, hl with
  | [_, _], _ => rfl
theorem b4 : f4.BindOk := fun _ _ _ _ _ _ _ us hl => match us, hl with
  | [_, _], _ => rfl
theorem b5 : f5.BindOk := fun _ _ _ _ _ _ _ us hl => match us, hl with
  | [_, _], _ => rfl
theorem b6 : f6.BindOk := fun _ _ _ _ _ _ _ us hl => match us, hl with
  | [_, _, _], _ => rfl
theorem b7 : f7.BindOk := fun _ _ _ _ _ _ _ us hl => match us, hl with
  | [_, _], _ => rfl
theorem b8 : f8.BindOk := fun _ _ _ _ _ _ _ us hl => match us, hl with
  | [_, _], _ => rfl
theorem b9 : f9.BindOk := fun _ _ _ _ _ _ _ us hl => match us, hl with
  | [_, _, _, _], _ => rfl
theorem b10 : f10.BindOk := fun _ _ _ _ _ _ _ us hl => match us, hl with
  | [_, _], _ => rfl
theorem b11 : f11.BindOk := fun _ _ _ _ _ _ _ us hl => match us, hl with
  | [_, _], _ => rfl
theorem b12 : f12.BindOk := fun _ _ _ _ _ _ _ us hl => match us, hl with
  | [_, _], _ => rfl
theorem b13 : f13.BindOk := fun _ _ _ _ _ _ _ us hl => match us, hl with
  | [_, _], _ => rfl
theorem b14 : f14.BindOk := fun _ _ _ _ _ _ _ us hl => match us, hl with
  | [_, _], _ => rfl
theorem b15 : f15.BindOk := fun _ _ _ _ _ _ _ us hl => match us, hl with
  | [_, _, _], _ => rfl
theorem b16 : f16.BindOk := fun _ _ _ _ _ _ _ us hl => match us, hl with
  | [_, _], _ => rfl
theorem b17 : f17.BindOk := fun _ _ _ _ _ _ _ us hl => match us, hl with
  | [_, _], _ => rfl
theorem b18 : f18.BindOk := fun _ _ _ _ _ _ _ us hl => match us, hl with
  | [_], _ => rfl
theorem b19 : f19.BindOk := fun _ _ _ _ _ _ _ us hl => match us, hl with
  | [_], _ => rfl
theorem b20 : f20.BindOk := fun _ _ _ _ _ _ _ us hl => match us, hl with
  | [_, _], _ => rfl
theorem b21 : f21.BindOk := fun _ _ _ _ _ _ _ us hl => match us, hl with
  | [_, _], _ => rfl
theorem b22 : f22.BindOk := fun _ _ _ _ _ _ _ us hl => match us, hl with
  | [_], _ => rfl
theorem b23 : f23.BindOk := fun _ _ _ _ _ _ _ us hl => match us, hl with
  | [_, _, _, _, _], _ => rfl
theorem b24 : f24.BindOk := fun _ _ _ _ _ _ _ us hl => match us, hl with
  | [_, _, _, _], _ => rfl
theorem b25 : f25.BindOk := fun _ _ _ _ _ _ _ us hl => match us, hl with
  | [_, _, _], _ => rfl
theorem b26 : f26.BindOk := fun _ _ _ _ _ _ _ us hl => match us, hl with
  | [_], _ => rfl
theorem b27 : f27.BindOk := fun _ _ _ _ _ _ _ us hl => match us, hl with
  | [_, _, _], _ => rfl
theorem b28 : f28.BindOk := fun _ _ _ _ _ _ _ us hl => match us, hl with
  | [_, _], _ => rfl
theorem b29 : f29.BindOk := fun _ _ _ _ _ _ _ us hl => match us, hl with
  | [_, _, _], _ => rfl
theorem b30 : f30.BindOk := fun _ _ _ _ _ _ _ us hl => match us, hl with
  | [_, _, _], _ => rfl
theorem b31 : f31.BindOk := fun _ _ _ _ _ _ _ us hl => match us, hl with
  | [_, _, _, _, _], _ => rfl
theorem b32 : f32.BindOk := fun _ _ _ _ _ _ _ us hl => match us, hl with
  | [_, _, _], _ => rfl
theorem b33 : f33.BindOk := fun _ _ _ _ _ _ _ us hl => match us, hl with
  | [_, _, _], _ => rfl
theorem b34 : f34.BindOk := fun _ _ _ _ _ _ _ us hl => match us, hl with
  | [_, _, _], _ => rfl
theorem b35 : f35.BindOk := fun _ _ _ _ _ _ _ us hl => match us, hl with
  | [_, _, _], _ => rfl
theorem b36 : f36.BindOk := fun _ _ _ _ _ _ _ us hl => match us, hl with
  | [_, _, _, _, _, _], _ => rfl
theorem b37 : f37.BindOk := fun _ _ _ _ _ _ _ us hl => match us, hl with
  | [_, _], _ => rfl
theorem b38 : f38.BindOk := fun _ _ _ _ _ _ _ us hl => match us, hl with
  | [_, _], _ => rfl
theorem b39 : f39.BindOk := fun _ _ _ _ _ _ _ us hl => match us, hl with
  | [_], _ => rfl
theorem b40 : f40.BindOk := fun _ _ _ _ _ _ _ us hl => match us, hl with
  | [_, _], _ => rfl
theorem b41 : f41.BindOk := fun _ _ _ _ _ _ _ us hl => match us, hl with
  | [_, _, _, _], _ => rfl
theorem b42 : f42.BindOk := fun _ _ _ _ _ _ _ us hl => match us, hl with
  | [_, _, _], _ => rfl
theorem b43 : f43.BindOk := fun _ _ _ _ _ _ _ us hl => match us, hl with
  | [_], _ => rfl
theorem b44 : f44.BindOk := fun _ _ _ _ _ _ _ us hl => match us, hl with
  | [_, _], _ => rfl
theorem b45 : f45.BindOk := fun _ _ _ _ _ _ _ us hl => match us, hl with
  | [_], _ => rfl
theorem b46 : f46.BindOk := fun _ _ _ _ _ _ _ us hl => match us, hl with
  | [_], _ => rfl
theorem c0 : t0.d.BindOk := fun _ _ _ _ _ _ _ us hl => match us, hl with
  | [_], _ => rfl
theorem y1 : x1.BindOk := fun _ _ _ _ _ _ _ _ _ us hl => match us, hl with
  | [_], _ => rfl
theorem y2 : x2.BindOk := fun _ _ _ _ _ _ _ _ _ us hl => match us, hl with
  | [_], _ => rfl
theorem y3 : x3.BindOk := fun _ _ _ _ _ _ _ _ _ us hl => match us, hl with
  | [_, _], _ => rfl
theorem y5 : x5.BindOk := fun _ _ _ _ _ _ _ _ _ us hl => match us, hl with
  | [_], _ => rfl
theorem plain : D.Plain PySem.Challenge.pw_objecthall_k07_bodies_looked_at where
  st := by decide +kernel
  fb := by
    intro d hd
    simp only [D, fn0, fn1, List.cons_append, List.nil_append, List.mem_cons, List.not_mem_nil, or_false] at hd
    rcases hd with rfl | rfl | rfl | rfl | rfl | rfl | rfl | rfl | rfl | rfl | rfl | rfl | rfl | rfl | rfl | rfl | rfl | rfl | rfl | rfl | rfl | rfl | rfl | rfl | rfl | rfl | rfl | rfl | rfl | rfl | rfl | rfl | rfl | rfl | rfl | rfl | rfl | rfl | rfl | rfl | rfl | rfl | rfl | rfl | rfl | rfl | rfl
    · exact b0
    · exact b1
    · exact b2
    · exact b3
    · exact b4
    · exact b5
    · exact b6
    · exact b7
    · exact b8
    · exact b9
    · exact b10
    · exact b11
    · exact b12
    · exact b13
    · exact b14
    · exact b15
    · exact b16
    · exact b17
    · exact b18
    · exact b19
    · exact b20
    · exact b21
    · exact b22
    · exact b23
    · exact b24
    · exact b25
    · exact b26
    · exact b27
    · exact b28
    · exact b29
    · exact b30
    · exact b31
    · exact b32
    · exact b33
    · exact b34
    · exact b35
    · exact b36
    · exact b37
    · exact b38
    · exact b39
    · exact b40
    · exact b41
    · exact b42
    · exact b43
    · exact b44
    · exact b45
    · exact b46
  tb := by
    intro d hd
    simp only [D, fn0, fn1, List.cons_append, List.nil_append, List.mem_cons, List.not_mem_nil, or_false] at hd
    rcases hd with rfl
    · exact c0
  xb := by
    intro d hd
    simp only [D, fn0, fn1, List.cons_append, List.nil_append, List.mem_cons, List.not_mem_nil, or_false] at hd
    rcases hd with rfl | rfl | rfl | rfl | rfl | rfl | rfl | rfl | rfl
    · exact trivial
    · exact y1
    · exact y2
    · exact y3
    · exact trivial
    · exact y5
    · exact trivial
    · exact trivial
    · exact trivial
def nm0 : List PySem.Str := ["_wall", "ObjectFault", "BadText", "BadName", "BadKind", "Unset", "Broken", "BadProgram", "TooLong", "TooLarge", "INT", "TRUTH", "UNIT", "NULL", "PLAIN", "put", "Classes", "check_once", "OPS", "TRUTHS", "Check", "check_body", "check_class", "check_main", "check_rows", "_law_dice", "_law_roll", "_law_rounds", "_law_told", "_law_kind"]
def nm1 : List PySem.Str := ["_law_call", "_law_int", "_law_test", "_law_rows", "_law_thing", "_law_main"]
def names : List PySem.Str := nm0 ++ nm1
abbrev R : PySem.W.OpenRow := PySem.W.OpenLaw.row PySem.Challenge.rw_objecthall_k07_bodies_looked_at
end K07
set_option Elab.async false
set_option linter.all false
set_option maxRecDepth 100000
set_option maxHeartbeats 0

/-! K07: the law's text as data (printed by gen.py); its head. -/
namespace K07
open PySem PySem.W PySem.Calls PySem.Spec PyProof.Rows L2 DD
theorem split3 {α β γ δ : Type} {o : Option α} {f : α → β} {g : α → γ} {h : α → δ} {x : β} {y : γ} {z : δ} (a : o.map f = some x) (b : o.map g = some y) (c : o.map h = some z) : o.map (fun s => (f s, g s, h s)) = some (x, y, z) := by
  cases o with
  | none => cases a
  | some s =>
    cases a
    cases b
    cases c
    rfl
abbrev kk (s : PySem.W.SharedT) : PySem.W.Frag := He.frG (HandSHeadRun.getT s) (PySem.cStatics :: He.asD (HandSHeadRun.getT s) 6)
def ob1 (s : PySem.W.SharedT) : Bool := (fun (K : PySem.W.Frag) => D.gls.all (glOkB K D) && (D.mts.all (mtOkB K D) && (D.ats.all (atOkB K D) && (D.xds.all (xdOkB PySem.Challenge.pw_objecthall_k07_bodies_looked_at K D) && (D.exs.all (fun p => decide (PySem.W.exmOne K (.ref (cAdr K D p.1.1)) (.ref (cAdr K D p.1.2)) = some p.2)) &&
  (D.xfs.all (fun p => xfB K (cAdr K D p.1) && He.eqO (PySem.W.findIn K (.ref (cAdr K D p.1)) p.2) (some none)) && D.tds.all (fun t => tdOkB K t.d))))))) (dropT D (kk s))
def ob2 (s : PySem.W.SharedT) : Bool := D.fns.all (fnOkB (dropT D (kk s)))
def ob3 (s : PySem.W.SharedT) : Bool := D.tabs.all (tabOkB (dropT D (kk s)) (kk s) D)
theorem ob_and (s : PySem.W.SharedT) (h1 : ob1 s = true) (h2 : ob2 s = true) (h3 : ob3 s = true) : ((obsT 6 PySem.Challenge.pw_objecthall_k07_bodies_looked_at D) s).1 = true := by
  show factB PySem.Challenge.pw_objecthall_k07_bodies_looked_at D (dropT D (kk s)) (kk s) = true
  unfold factB
  unfold ob1 at h1
  unfold ob2 at h2
  unfold ob3 at h3
  simp only [Bool.and_eq_true] at h1 ⊢
  exact ⟨h1.1, h1.2.1, h1.2.2.1, h1.2.2.2.1, h1.2.2.2.2.1, h1.2.2.2.2.2.1, h1.2.2.2.2.2.2, h2, h3⟩
theorem split4 {o : Option PySem.W.SharedT} {x : ObT} (hx : x.1 = true) (a : o.map ob1 = some true) (b : o.map ob2 = some true) (c : o.map ob3 = some true) (d : o.map (fun s => ((obsT 6 PySem.Challenge.pw_objecthall_k07_bodies_looked_at D) s).2) = some x.2) : o.map (obsT 6 PySem.Challenge.pw_objecthall_k07_bodies_looked_at D) = some x := by
  cases o with
  | none => cases a
  | some s =>
    have e := ob_and s (Option.some.inj a) (Option.some.inj b) (Option.some.inj c)
    have d := Option.some.inj d
    show some ((obsT 6 PySem.Challenge.pw_objecthall_k07_bodies_looked_at D) s) = some x
    congr 1
    exact Prod.ext (e.trans hx.symm) d
theorem run1a (w : World) (os : OsState) : (HandSHeadRun.endF (HandSHeadRun.stepQ (HandSHeadRun.denQ HandSHeadRun.tabQ) R.prog (w.withFollow "special-get-raises" false)) 20000 R.prog (w.withFollow "special-get-raises" false) os).map (fun s => HandSHeadRun.looksF R.prog (boot_heap (w.withFollow "special-get-raises" false).params) s.abs) = some true := by
  kernel_rfl
theorem run1b (w : World) (os : OsState) : (HandSHeadRun.endF (HandSHeadRun.stepQ (HandSHeadRun.denQ HandSHeadRun.tabQ) R.prog (w.withFollow "special-get-raises" false)) 20000 R.prog (w.withFollow "special-get-raises" false) os).map (fun s => HandSHeadRun.seenQ (PySem.W.view R.prog [40]) names (importedModules R.prog.main.body) (fun s => PySem.W.xlAt (PySem.W.view R.prog [40]) [] s && PySem.W.recOk R.toRowW.records s) s.abs) = some (PySem.W.openGood (PySem.W.view R.prog [40]) names) := by
  kernel_rfl
theorem run1c (w : World) (os : OsState) : (HandSHeadRun.endF (HandSHeadRun.stepQ (HandSHeadRun.denQ HandSHeadRun.tabQ) R.prog (w.withFollow "special-get-raises" false)) 20000 R.prog (w.withFollow "special-get-raises" false) os).map ob1 = some true := by
  kernel_rfl
theorem run1d (w : World) (os : OsState) : (HandSHeadRun.endF (HandSHeadRun.stepQ (HandSHeadRun.denQ HandSHeadRun.tabQ) R.prog (w.withFollow "special-get-raises" false)) 20000 R.prog (w.withFollow "special-get-raises" false) os).map ob2 = some true := by
  kernel_rfl
theorem run1e (w : World) (os : OsState) : (HandSHeadRun.endF (HandSHeadRun.stepQ (HandSHeadRun.denQ HandSHeadRun.tabQ) R.prog (w.withFollow "special-get-raises" false)) 20000 R.prog (w.withFollow "special-get-raises" false) os).map ob3 = some true := by
  kernel_rfl
theorem run1f (w : World) (os : OsState) : (HandSHeadRun.endF (HandSHeadRun.stepQ (HandSHeadRun.denQ HandSHeadRun.tabQ) R.prog (w.withFollow "special-get-raises" false)) 20000 R.prog (w.withFollow "special-get-raises" false) os).map (fun s => ((obsT 6 PySem.Challenge.pw_objecthall_k07_bodies_looked_at D) s).2) = some (((hookP 6 PySem.Challenge.pw_objecthall_k07_bodies_looked_at D).val (w.withFollow "special-get-raises" false)).2) := by
  kernel_rfl
theorem run1 (w : World) : HandSHeadRun.RunEq R (PySem.W.view R.prog [40]) (hookP 6 PySem.Challenge.pw_objecthall_k07_bodies_looked_at D) (obsT 6 PySem.Challenge.pw_objecthall_k07_bodies_looked_at D) 20000 names (w.withFollow "special-get-raises" false) := fun os => split3 (run1a w os) (run1b w os) (split4 rfl (run1c w os) (run1d w os) (run1e w os) (run1f w os))
theorem run2a (w : World) (os : OsState) : (HandSHeadRun.endF (HandSHeadRun.stepQ (HandSHeadRun.denQ HandSHeadRun.tabQ) R.prog (w.withFollow "special-get-raises" true)) 20000 R.prog (w.withFollow "special-get-raises" true) os).map (fun s => HandSHeadRun.looksF R.prog (boot_heap (w.withFollow "special-get-raises" true).params) s.abs) = some true := by
  kernel_rfl
theorem run2b (w : World) (os : OsState) : (HandSHeadRun.endF (HandSHeadRun.stepQ (HandSHeadRun.denQ HandSHeadRun.tabQ) R.prog (w.withFollow "special-get-raises" true)) 20000 R.prog (w.withFollow "special-get-raises" true) os).map (fun s => HandSHeadRun.seenQ (PySem.W.view R.prog [40]) names (importedModules R.prog.main.body) (fun s => PySem.W.xlAt (PySem.W.view R.prog [40]) [] s && PySem.W.recOk R.toRowW.records s) s.abs) = some (PySem.W.openGood (PySem.W.view R.prog [40]) names) := by
  kernel_rfl
theorem run2c (w : World) (os : OsState) : (HandSHeadRun.endF (HandSHeadRun.stepQ (HandSHeadRun.denQ HandSHeadRun.tabQ) R.prog (w.withFollow "special-get-raises" true)) 20000 R.prog (w.withFollow "special-get-raises" true) os).map ob1 = some true := by
  kernel_rfl
theorem run2d (w : World) (os : OsState) : (HandSHeadRun.endF (HandSHeadRun.stepQ (HandSHeadRun.denQ HandSHeadRun.tabQ) R.prog (w.withFollow "special-get-raises" true)) 20000 R.prog (w.withFollow "special-get-raises" true) os).map ob2 = some true := by
  kernel_rfl
theorem run2e (w : World) (os : OsState) : (HandSHeadRun.endF (HandSHeadRun.stepQ (HandSHeadRun.denQ HandSHeadRun.tabQ) R.prog (w.withFollow "special-get-raises" true)) 20000 R.prog (w.withFollow "special-get-raises" true) os).map ob3 = some true := by
  kernel_rfl
theorem run2f (w : World) (os : OsState) : (HandSHeadRun.endF (HandSHeadRun.stepQ (HandSHeadRun.denQ HandSHeadRun.tabQ) R.prog (w.withFollow "special-get-raises" true)) 20000 R.prog (w.withFollow "special-get-raises" true) os).map (fun s => ((obsT 6 PySem.Challenge.pw_objecthall_k07_bodies_looked_at D) s).2) = some (((hookP 6 PySem.Challenge.pw_objecthall_k07_bodies_looked_at D).val (w.withFollow "special-get-raises" true)).2) := by
  kernel_rfl
theorem run2 (w : World) : HandSHeadRun.RunEq R (PySem.W.view R.prog [40]) (hookP 6 PySem.Challenge.pw_objecthall_k07_bodies_looked_at D) (obsT 6 PySem.Challenge.pw_objecthall_k07_bodies_looked_at D) 20000 names (w.withFollow "special-get-raises" true) := fun os => split3 (run2a w os) (run2b w os) (split4 rfl (run2c w os) (run2d w os) (run2e w os) (run2f w os))
theorem run (w : World) : HandSHeadRun.RunEq R (PySem.W.view R.prog [40]) (hookP 6 PySem.Challenge.pw_objecthall_k07_bodies_looked_at D) (obsT 6 PySem.Challenge.pw_objecthall_k07_bodies_looked_at D) 20000 names w := PySem.W.byRow2 "special-get-raises" run1 run2 w
end K07
section
open PySem PySem.W PySem.Calls PyProof.Rows
theorem K07.holds_of {C : DD.CT} {k : Nat} (hr : L2.Room k callerA) (hC : ∀ (w : World) (K : PySem.W.Frag) (mg : PySem.Str → Option Value) (base : Heap) (ca fa : Nat → Addr), DD.Sta PySem.Challenge.pw_objecthall_k07_bodies_looked_at w K mg base ca fa K07.D.bs → ∀ f, K07.D.bs.T 46 = some f → DD.FnGood PySem.Challenge.pw_objecthall_k07_bodies_looked_at w K mg base ca fa DD.U0 k 46 f (C 46))
    (hlaw : ∀ (b : Bool) (ns : List Int), ns.length ≤ 63 → (∀ z ∈ ns, Builtin.Int.intBits z ≤ 1048576) → ∃ h', C 46 [.obj 0] (DD.scr b ns) = .ok (.bl true) h') : PySem.Challenge.rw_objecthall_k07_bodies_looked_at.Holds := by
  w_on; o_law
  refine HandSHeadRun.head_any (r := OpenLaw.row PySem.Challenge.rw_objecthall_k07_bodies_looked_at) (q := view (OpenLaw.row PySem.Challenge.rw_objecthall_k07_bodies_looked_at).prog [40]) (H := DD.hookP 6 PySem.Challenge.pw_objecthall_k07_bodies_looked_at K07.D) (ob := DD.obsT 6 PySem.Challenge.pw_objecthall_k07_bodies_looked_at K07.D) (M := 20000) (loose := K07.names) (d := HandSHeadRun.topDef (OpenLaw.row PySem.Challenge.rw_objecthall_k07_bodies_looked_at).prog 40) (kwd := []) DD.obsT_eq
    (by kernel_rfl) (fun s => by kernel_rfl) K07.run (by kernel_rfl) (by kernel_rfl) (by kernel_rfl) (by rfl) (by first | assumption | decide +kernel) (by decide +kernel) ⟨rfl, rfl, rfl, rfl, rfl, by decide +kernel⟩ ?hw ?hc
  case hw => w_witness2
  case hc => exact DD.law_walk (l := PySem.Challenge.rw_objecthall_k07_bodies_looked_at) (D := K07.D) (lid := 46) (dl := K07.f46) (x := "script") K07.plain rfl (by kernel_rfl) hr rfl rfl (by kernel_rfl) (by
    have e : (HandSHeadRun.topDef (OpenLaw.row PySem.Challenge.rw_objecthall_k07_bodies_looked_at).prog 40).name = ("law" : PySem.Str) := by kernel_rfl
    rw [e]
    simp [K07.D, K07.gl0, K07.gl1]) hC hlaw
end
set_option Elab.async false
set_option linter.all false
set_option maxRecDepth 100000
set_option maxHeartbeats 4000000
/-! the bodies as combinators (printed) -/
namespace K07
open PySem PySem.Spec PyProof.Rows L2 DD
def s0 (C Cl : CT) : SS := (sSeq (sIf (tAndS (tVal (eCmp .Eq (eIx (eVar 0) (eVal (.int (0)))) (eVal (.str "own")))) (tAndS (tVal (eCmp .Eq (eIx (eVar 0) (eVal (.int (2)))) eNul)) (tVal (eCmp .In (eIx (eVar 0) (eVal (.int (1)))) (eVar 1))))) (sSeq (sRet (eIx (eVar 1) (eIx (eVar 0) (eVal (.int (1)))))) <|
    sNil) sNil) <|
  sSeq (sIf (tVal (eCmp .Eq (eIx (eVar 0) (eVal (.int (0)))) (eVal (.str "own")))) (sSeq (sRet (eTup (evs [(eVal (.str "own")), (eIx (eVar 0) (eVal (.int (1)))), (eB (one tupleF) (evs [(eLcA 2000 true .keys (eIx (eVar 0) (eVal (.int (2)))) [2] (.nm 2) (fun _ h => .ok true h) (eCall C 0 2 (evs [(eVar 2), (eVar 1)])))]))]))) <|
    sNil) sNil) <|
  sSeq (sRet (eVar 0)) <|
  sNil)
theorem sem0 (C Cl : CT) : D.bs.sem f0.fn0 C Cl = s0 C Cl := by kernel_rfl
def s1 (C Cl : CT) : SS := (sSeq (sFld' D.bs.at_ "rows" eDct (eVar 0)) <|
  sSeq (sForA 2000 true .keys (eVar 1) (.nm 2) (sSeq (sIf (tOrS (tVal (eCmp .In (eIx (eVar 2) (eVal (.int (1)))) (eFld D.bs.at_ "rows" (eVar 0)))) (tVal (eCmp .In (eIx (eVar 2) (eVal (.int (1)))) (eVal (.tup [.str "Int", .str "Bool", .str "Unit"]))))) (sSeq (sRaise (excF 2 ["word"] (evs [(eIx (eVar 2) (eVal (.int (1))))]))) <|
      sNil) sNil) <|
    sSeq (sAsg' (eVar 2) (gSubS (eFld D.bs.at_ "rows" (eVar 0)) (eIx (eVar 2) (eVal (.int (1)))))) <|
    sNil)) <|
  sSeq (sForA 2000 true .keys (eVar 1) (.nm 2) (sSeq (sDrop (eMeth C D.bs.mt "check_round" (eVar 0) (evs [(eIx (eVar 2) (eVal (.int (1))))]))) <|
    sNil)) <|
  sSeq (sForA 2000 true .keys (eVar 1) (.nm 2) (sSeq (sDrop (eMeth C D.bs.mt "check_kinds" (eVar 0) (evs [(eVar 2)]))) <|
    sNil)) <|
  sSeq (sForA 2000 true .keys (eVar 1) (.nm 2) (sSeq (sDrop (eMeth C D.bs.mt "check_members" (eVar 0) (evs [(eVar 2)]))) <|
    sNil)) <|
  sNil)
theorem sem1 (C Cl : CT) : D.bs.sem f1.fn0 C Cl = s1 C Cl := by kernel_rfl
def s2 (C Cl : CT) : SS := (sSeq (sRet (eAnd (eCmp .In (eVar 1) (eFld D.bs.at_ "rows" (eVar 0))) (eCmp .Eq (eIx (eIx (eFld D.bs.at_ "rows" (eVar 0)) (eVar 1)) (eVal (.int (0)))) (eVal (.str "class"))))) <|
  sNil)
theorem sem2 (C Cl : CT) : D.bs.sem f2.fn0 C Cl = s2 C Cl := by kernel_rfl
def s3 (C Cl : CT) : SS := (sSeq (sAsg' (eIx (eFld D.bs.at_ "rows" (eVar 0)) (eVar 1)) (gN 2)) <|
  sSeq (sIf (tVal (eCmp .Eq (eIx (eVar 2) (eVal (.int (0)))) (eVal (.str "interface")))) (sSeq (sRet (eIx (eVar 2) (eVal (.int (3))))) <|
    sNil) sNil) <|
  sSeq (sRet (eBin .Add (eIf (tVal (eCmp .Is (eIx (eVar 2) (eVal (.int (3)))) (eVal (.non)))) eNul (eTup (evs [(eIx (eVar 2) (eVal (.int (3))))]))) (eIx (eVar 2) (eVal (.int (4)))))) <|
  sNil)
theorem sem3 (C Cl : CT) : D.bs.sem f3.fn0 C Cl = s3 C Cl := by kernel_rfl
def s4 (C Cl : CT) : SS := (sSeq (sPar 2 3 (evs [(eLst (evs [(eVar 1)])), eDct])) <|
  sSeq (sWhile 2000 (tVal (eCmp .NotEq (eVar 2) (eLst (evs [])))) (sSeq (sAsg' (eBm .pop (eVar 2) (evs [])) (gN 4)) <|
    sSeq (sAsg' (eIx (eFld D.bs.at_ "rows" (eVar 0)) (eVar 4)) (gN 5)) <|
    sSeq (sFor 2000 (iEvL (evs [(eMeth C D.bs.mt "supers" (eVar 0) (evs [(eVar 4)]))]) enmAS) (.tp [(.nm 6), (.nm 7)]) (sSeq (sIf (tOrS (tVal (eCmp .NotIn (eIx (eVar 7) (eVal (.int (1)))) (eFld D.bs.at_ "rows" (eVar 0)))) (tVal (eCmp .Eq (eIx (eVar 7) (eVal (.int (1)))) (eVar 1)))) (sSeq (sRaise (excF 2 ["word"] (evs [(eIx (eVar 7) (eVal (.int (1))))]))) <|
        sNil) sNil) <|
      sSeq (sAsg' (eIf (tAndS (tVal (eCmp .Eq (eIx (eVar 5) (eVal (.int (0)))) (eVal (.str "class")))) (tAndS (tVal (eCmp .IsNot (eIx (eVar 5) (eVal (.int (3)))) (eVal (.non)))) (tVal (eCmp .Eq (eVar 6) (eVal (.int (0))))))) (eVal (.str "class")) (eVal (.str "interface"))) (gN 8)) <|
      sSeq (sIf (tVal (eCmp .NotEq (eIx (eIx (eFld D.bs.at_ "rows" (eVar 0)) (eIx (eVar 7) (eVal (.int (1))))) (eVal (.int (0)))) (eVar 8))) (sSeq (sRaise (excF 2 ["word"] (evs [(eIx (eVar 7) (eVal (.int (1))))]))) <|
        sNil) sNil) <|
      sSeq (sIf (tVal (eCmp .NotIn (eIx (eVar 7) (eVal (.int (1)))) (eVar 3))) (sSeq (sAsg' (eVal (.bl true)) (gSubS (eVar 3) (eIx (eVar 7) (eVal (.int (1)))))) <|
        sSeq (sDrop (eBm .append (eVar 2) (evs [(eIx (eVar 7) (eVal (.int (1))))]))) <|
        sNil) sNil) <|
      sNil)) <|
    sNil)) <|
  sNil)
theorem sem4 (C Cl : CT) : D.bs.sem f4.fn0 C Cl = s4 C Cl := by kernel_rfl
def s5 (C Cl : CT) : SS := (sSeq (sRet (eIx (eIx (eFld D.bs.at_ "rows" (eVar 0)) (eVar 1)) (eVal (.int (2))))) <|
  sNil)
theorem sem5 (C Cl : CT) : D.bs.sem f5.fn0 C Cl = s5 C Cl := by kernel_rfl
def s6 (C Cl : CT) : SS := (sSeq (sIf (tVal (eCmp .NotEq (eIx (eVar 1) (eVal (.int (0)))) (eVal (.str "own")))) (sSeq sRetN <|
    sNil) sNil) <|
  sSeq (sIf (tOrS (tVal (eCmp .In (eIx (eVar 1) (eVal (.int (1)))) (eVar 2))) (tVal (eCmp .In (eIx (eVar 1) (eVal (.int (1)))) (eVal (.tup [.str "Int", .str "Bool", .str "Unit"]))))) (sSeq (sIf (tVal (eCmp .NotEq (eIx (eVar 1) (eVal (.int (2)))) eNul)) (sSeq (sRaise (excF 2 ["word"] (evs [(eIx (eVar 1) (eVal (.int (1))))]))) <|
      sNil) sNil) <|
    sSeq sRetN <|
    sNil) sNil) <|
  sSeq (sIf (tOrS (tVal (eCmp .NotIn (eIx (eVar 1) (eVal (.int (1)))) (eFld D.bs.at_ "rows" (eVar 0)))) (tVal (eCmp .NotEq (eB (one lenF) (evs [(eIx (eVar 1) (eVal (.int (2))))])) (eB (one lenF) (evs [(eMeth C D.bs.mt "variables" (eVar 0) (evs [(eIx (eVar 1) (eVal (.int (1))))]))]))))) (sSeq (sRaise (excF 2 ["word"] (evs [(eIx (eVar 1) (eVal (.int (1))))]))) <|
    sNil) sNil) <|
  sSeq (sAsg' (eDc 2000 (iEvL (evs [(eMeth C D.bs.mt "variables" (eVar 0) (evs [(eIx (eVar 1) (eVal (.int (1))))])), (eIx (eVar 1) (eVal (.int (2))))]) zipS) [5, 6, 4] (.tp [(.tp [(.nm 5), (.nm 6)]), (.nm 4)]) (fun _ h => .ok true h) (eVar 5) (eVar 4)) (gN 3)) <|
  sSeq (sFor 2000 (iEvL (evs [(eMeth C D.bs.mt "variables" (eVar 0) (evs [(eIx (eVar 1) (eVal (.int (1))))])), (eIx (eVar 1) (eVal (.int (2))))]) zipS) (.tp [(.tp [(.nm 5), (.nm 6)]), (.nm 4)]) (sSeq (sDrop (eMeth C D.bs.mt "check_kind" (eVar 0) (evs [(eVar 4), (eVar 2)]))) <|
    sSeq (sIf (tVal (eCmp .In (eIx (eVar 4) (eVal (.int (1)))) (eVal (.tup [.str "Int", .str "Bool", .str "Unit"])))) (sSeq (sRaise (excF 3 ["stands", "due"] (evs [(eVar 4), (eTup (evs [(eVal (.str "own")), (eVal (.str "Object")), eNul]))]))) <|
      sNil) sNil) <|
    sSeq (sIf (tAndS (tVal (eCmp .IsNot (eVar 6) (eVal (.non)))) (tNotS (tTru (eMeth C D.bs.mt "is_under" (eVar 0) (evs [(eVar 4), (eCall C 0 2 (evs [(eVar 6), (eVar 3)])), (eVar 2)]))))) (sSeq (sRaise (excF 3 ["stands", "due"] (evs [(eVar 4), (eCall C 0 2 (evs [(eVar 6), (eVar 3)]))]))) <|
      sNil) sNil) <|
    sNil)) <|
  sNil)
theorem sem6 (C Cl : CT) : D.bs.sem f6.fn0 C Cl = s6 C Cl := by kernel_rfl
def s7 (C Cl : CT) : SS := (sSeq (sAsg' eDct (gN 2)) <|
  sSeq (sForA 2000 true .keys (eIx (eVar 1) (eVal (.int (2)))) (.tp [(.nm 5), (.nm 6)]) (sSeq (sIf (tOrS (tVal (eCmp .In (eVar 5) (eVar 2))) (tOrS (tVal (eCmp .In (eVar 5) (eFld D.bs.at_ "rows" (eVar 0)))) (tVal (eCmp .In (eVar 5) (eVal (.tup [.str "Int", .str "Bool", .str "Unit"])))))) (sSeq (sRaise (excF 2 ["word"] (evs [(eVar 5)]))) <|
      sNil) sNil) <|
    sSeq (sAsg' (eVar 6) (gSubS (eVar 2) (eVar 5))) <|
    sNil)) <|
  sSeq (sForA 2000 true .keys (eIx (eVar 1) (eVal (.int (2)))) (.tp [(.nm 5), (.nm 6)]) (sSeq (sIf (tVal (eCmp .IsNot (eVar 6) (eVal (.non)))) (sSeq (sDrop (eMeth C D.bs.mt "check_kind" (eVar 0) (evs [(eVar 6), (eVar 2)]))) <|
      sSeq (sIf (tOrS (tVal (eCmp .In (eIx (eVar 6) (eVal (.int (1)))) (eVar 2))) (tVal (eCmp .In (eIx (eVar 6) (eVal (.int (1)))) (eVal (.tup [.str "Int", .str "Bool", .str "Unit"]))))) (sSeq (sRaise (excF 2 ["word"] (evs [(eIx (eVar 6) (eVal (.int (1))))]))) <|
        sNil) sNil) <|
      sNil) sNil) <|
    sNil)) <|
  sSeq (sForA 2000 true .keys (eMeth C D.bs.mt "supers" (eVar 0) (evs [(eIx (eVar 1) (eVal (.int (1))))])) (.nm 3) (sSeq (sDrop (eMeth C D.bs.mt "check_kind" (eVar 0) (evs [(eVar 3), (eVar 2)]))) <|
    sNil)) <|
  sSeq (sAsg' (eIf (tVal (eCmp .Eq (eIx (eVar 1) (eVal (.int (0)))) (eVal (.str "interface")))) (eIx (eVar 1) (eVal (.int (4)))) (eBin .Add (eLcA 2000 true .keys (eIx (eVar 1) (eVal (.int (7)))) [11] (.nm 11) (fun _ h => .ok true h) (eSl (eVar 11) none (some (eVal (.int (3)))))) (eLst (evs [(eTup (evs [(eVal (.str "new")), (eIx (eIx (eVar 1) (eVal (.int (6)))) (eVal (.int (0)))), (eVal (.tup [.str "own", .str "Unit", .tup []]))]))])))) (gN 4)) <|
  sSeq (sForA 2000 true .keys (eVar 4) (.tp [(.nm 5), (.nm 7), (.nm 3)]) (sSeq (sDrop (eMeth C D.bs.mt "check_kind" (eVar 0) (evs [(eVar 3), (eVar 2)]))) <|
    sSeq (sDrop (eCall C 18 1 (evs [(eLcA 2000 true .keys (eVar 7) [8, 9] (.tp [(.nm 8), (.nm 9)]) (fun _ h => .ok true h) (eVar 8))]))) <|
    sSeq (sForA 2000 true .keys (eVar 7) (.tp [(.nm 8), (.nm 9)]) (sSeq (sDrop (eMeth C D.bs.mt "check_kind" (eVar 0) (evs [(eVar 9), (eVar 2)]))) <|
      sNil)) <|
    sNil)) <|
  sSeq (sIf (tVal (eCmp .Eq (eIx (eVar 1) (eVal (.int (0)))) (eVal (.str "class")))) (sSeq (sForA 2000 true .keys (eIx (eVar 1) (eVal (.int (5)))) (.tp [(.nm 5), (.nm 3), (.nm 10)]) (sSeq (sDrop (eMeth C D.bs.mt "check_kind" (eVar 0) (evs [(eVar 3), (eVar 2)]))) <|
      sNil)) <|
    sNil) sNil) <|
  sNil)
theorem sem7 (C Cl : CT) : D.bs.sem f7.fn0 C Cl = s7 C Cl := by kernel_rfl
def s8 (C Cl : CT) : SS := (sSeq (sPar 2 3 (evs [(eLst (evs [(eVar 1)])), (eLst (evs [(eVar 1)]))])) <|
  sSeq (sWhile 2000 (tVal (eCmp .NotEq (eVar 3) (eLst (evs [])))) (sSeq (sAsg' (eBm .pop (eVar 3) (evs [(eVal (.int (0)))])) (gN 4)) <|
    sSeq (sAsg' (eDc 2000 (iEvL (evs [(eMeth C D.bs.mt "variables" (eVar 0) (evs [(eIx (eVar 4) (eVal (.int (1))))])), (eIx (eVar 4) (eVal (.int (2))))]) zipS) [8, 9, 6] (.tp [(.tp [(.nm 8), (.nm 9)]), (.nm 6)]) (fun _ h => .ok true h) (eVar 8) (eVar 6)) (gN 5)) <|
    sSeq (sForA 2000 true .keys (eMeth C D.bs.mt "supers" (eVar 0) (evs [(eIx (eVar 4) (eVal (.int (1))))])) (.nm 6) (sSeq (sAsg' (eCall C 0 2 (evs [(eVar 6), (eVar 5)])) (gN 7)) <|
      sSeq (sIf (tVal (eCmp .NotIn (eVar 7) (eVar 2))) (sSeq (sDrop (eBm .append (eVar 2) (evs [(eVar 7)]))) <|
        sSeq (sDrop (eBm .append (eVar 3) (evs [(eVar 7)]))) <|
        sNil) sNil) <|
      sNil)) <|
    sNil)) <|
  sSeq (sRet (eB (one tupleF) (evs [(eVar 2)]))) <|
  sNil)
theorem sem8 (C Cl : CT) : D.bs.sem f8.fn0 C Cl = s8 C Cl := by kernel_rfl
def s9 (C Cl : CT) : SS := (sSeq (sIf (tVal (eCmp .Eq (eVar 1) (eVar 2))) (sSeq (sRet (eVal (.bl true))) <|
    sNil) sNil) <|
  sSeq (sIf (tVal (eCmp .Eq (eVar 1) (eVal (.tup [.str "null"])))) (sSeq (sRet (eCmp .NotIn (eIx (eVar 2) (eVal (.int (1)))) (eVal (.tup [.str "Int", .str "Bool", .str "Unit"])))) <|
    sNil) sNil) <|
  sSeq (sIf (tAndS (tVal (eCmp .In (eIx (eVar 1) (eVal (.int (1)))) (eVar 3))) (tVal (eCmp .Eq (eIx (eVar 1) (eVal (.int (2)))) eNul))) (sSeq (sAsg' (eIx (eVar 3) (eIx (eVar 1) (eVal (.int (1))))) (gN 4)) <|
    sSeq (sRet (eAnd (eCmp .IsNot (eVar 4) (eVal (.non))) (eMeth C D.bs.mt "is_under" (eVar 0) (evs [(eVar 4), (eVar 2), (eVar 3)])))) <|
    sNil) sNil) <|
  sSeq (sIf (tVal (eCmp .NotIn (eIx (eVar 1) (eVal (.int (1)))) (eFld D.bs.at_ "rows" (eVar 0)))) (sSeq (sRet (eVal (.bl false))) <|
    sNil) sNil) <|
  sSeq (sRet (eCmp .In (eVar 2) (eMeth C D.bs.mt "over" (eVar 0) (evs [(eVar 1)])))) <|
  sNil)
theorem sem9 (C Cl : CT) : D.bs.sem f9.fn0 C Cl = s9 C Cl := by kernel_rfl
def s10 (C Cl : CT) : SS := (sSeq (sRet (eTup (evs [(eVal (.str "own")), (eVar 1), (eB (one tupleF) (evs [(eLcA 2000 true .keys (eMeth C D.bs.mt "variables" (eVar 0) (evs [(eVar 1)])) [2, 3] (.tp [(.nm 2), (.nm 3)]) (fun _ h => .ok true h) (eTup (evs [(eVal (.str "own")), (eVar 2), eNul])))]))]))) <|
  sNil)
theorem sem10 (C Cl : CT) : D.bs.sem f10.fn0 C Cl = s10 C Cl := by kernel_rfl
def s11 (C Cl : CT) : SS := (sSeq (sAsg' (eLst (evs [(eMeth C D.bs.mt "own_kind" (eVar 0) (evs [(eVar 1)]))])) (gN 2)) <|
  sSeq (sWhile 2000 (tTru (eVal (.bl true))) (sSeq (sAsg' (eIx (eVar 2) (eNeg (eVal (.int (1))))) (gN 3)) <|
    sSeq (sAsg' (eIx (eFld D.bs.at_ "rows" (eVar 0)) (eIx (eVar 3) (eVal (.int (1))))) (gN 4)) <|
    sSeq (sIf (tVal (eCmp .Is (eIx (eVar 4) (eVal (.int (3)))) (eVal (.non)))) (sSeq (sRet (eB (one tupleF) (evs [(eVar 2)]))) <|
      sNil) sNil) <|
    sSeq (sAsg' (eDc 2000 (iEvL (evs [(eIx (eVar 4) (eVal (.int (2)))), (eIx (eVar 3) (eVal (.int (2))))]) zipS) [7, 8, 6] (.tp [(.tp [(.nm 7), (.nm 8)]), (.nm 6)]) (fun _ h => .ok true h) (eVar 7) (eVar 6)) (gN 5)) <|
    sSeq (sDrop (eBm .append (eVar 2) (evs [(eCall C 0 2 (evs [(eIx (eVar 4) (eVal (.int (3)))), (eVar 5)]))]))) <|
    sNil)) <|
  sNil)
theorem sem11 (C Cl : CT) : D.bs.sem f11.fn0 C Cl = s11 C Cl := by kernel_rfl
def s12 (C Cl : CT) : SS := (sSeq (sAsg' (eLst (evs [])) (gN 2)) <|
  sSeq (sFor 2000 (iEv (eMeth C D.bs.mt "parents" (eVar 0) (evs [(eVar 1)])) revS) (.nm 3) (sSeq (sAsg' (eDc 2000 (iEvL (evs [(eMeth C D.bs.mt "variables" (eVar 0) (evs [(eIx (eVar 3) (eVal (.int (1))))])), (eIx (eVar 3) (eVal (.int (2))))]) zipS) [9, 10, 8] (.tp [(.tp [(.nm 9), (.nm 10)]), (.nm 8)]) (fun _ h => .ok true h) (eVar 9) (eVar 8)) (gN 4)) <|
    sSeq (sForA 2000 true .keys (eIx (eIx (eFld D.bs.at_ "rows" (eVar 0)) (eIx (eVar 3) (eVal (.int (1))))) (eVal (.int (5)))) (.tp [(.nm 5), (.nm 6), (.nm 7)]) (sSeq (sDrop (eBm .append (eVar 2) (evs [(eTup (evs [(eVar 5), (eCall C 0 2 (evs [(eVar 6), (eVar 4)])), (eIx (eVar 3) (eVal (.int (1))))]))]))) <|
      sNil)) <|
    sNil)) <|
  sSeq (sRet (eB (one tupleF) (evs [(eVar 2)]))) <|
  sNil)
theorem sem12 (C Cl : CT) : D.bs.sem f12.fn0 C Cl = s12 C Cl := by kernel_rfl
def s13 (C Cl : CT) : SS := (sSeq (sPar 4 5 (evs [eDct, (eMeth C D.bs.mt "over" (eVar 0) (evs [(eVar 1)]))])) <|
  sSeq (sAsg' (eLcA 2000 true .keys (eVar 5) [3] (.nm 3) (tTru (eMeth C D.bs.mt "is_class" (eVar 0) (evs [(eIx (eVar 3) (eVal (.int (1))))]))) (eVar 3)) (gN 2)) <|
  sSeq (sForA 2000 true .keys (eBin .Add (eVar 2) (eLcA 2000 true .keys (eVar 5) [3] (.nm 3) (tVal (eCmp .NotIn (eVar 3) (eVar 2))) (eVar 3))) (.nm 3) (sSeq (sAsg' (eIx (eFld D.bs.at_ "rows" (eVar 0)) (eIx (eVar 3) (eVal (.int (1))))) (gN 6)) <|
    sSeq (sAsg' (eDc 2000 (iEvL (evs [(eIx (eVar 6) (eVal (.int (2)))), (eIx (eVar 3) (eVal (.int (2))))]) zipS) [9, 14, 12] (.tp [(.tp [(.nm 9), (.nm 14)]), (.nm 12)]) (fun _ h => .ok true h) (eVar 9) (eVar 12)) (gN 7)) <|
    sSeq (sAsg' (eIf (tVal (eCmp .Eq (eIx (eVar 6) (eVal (.int (0)))) (eVal (.str "interface")))) (eIx (eVar 6) (eVal (.int (4)))) (eLcA 2000 true .keys (eIx (eVar 6) (eVal (.int (7)))) [13] (.nm 13) (fun _ h => .ok true h) (eSl (eVar 13) none (some (eVal (.int (3))))))) (gN 8)) <|
    sSeq (sForA 2000 true .keys (eVar 8) (.tp [(.nm 9), (.nm 10), (.nm 11)]) (sSeq (sIf (tVal (eCmp .NotIn (eVar 9) (eVar 4))) (sSeq (sAsg' (eB (one tupleF) (evs [(eLcA 2000 true .keys (eVar 10) [15, 16] (.tp [(.nm 15), (.nm 16)]) (fun _ h => .ok true h) (eCall C 0 2 (evs [(eVar 16), (eVar 7)])))])) (gN 12)) <|
        sSeq (sAsg' (eTup (evs [(eVar 12), (eCall C 0 2 (evs [(eVar 11), (eVar 7)])), (eIx (eVar 3) (eVal (.int (1))))])) (gSubS (eVar 4) (eVar 9))) <|
        sNil) sNil) <|
      sNil)) <|
    sNil)) <|
  sSeq (sRet (eVar 4)) <|
  sNil)
theorem sem13 (C Cl : CT) : D.bs.sem f13.fn0 C Cl = s13 C Cl := by kernel_rfl
def s14 (C Cl : CT) : SS := (sSeq (sAsg' (eIx (eVar 1) (eVal (.int (1)))) (gN 2)) <|
  sSeq (sIf (tVal (eCmp .Eq (eIx (eVar 1) (eVal (.int (0)))) (eVal (.str "class")))) (sSeq (sDrop (eCall C 18 1 (evs [(eLcA 2000 true .keys (eMeth C D.bs.mt "fields" (eVar 0) (evs [(eVar 2)])) [11, 12, 9] (.tp [(.nm 11), (.nm 12), (.nm 9)]) (fun _ h => .ok true h) (eVar 11))]))) <|
    sSeq (sDrop (eCall C 18 1 (evs [(eLcA 2000 true .keys (eIx (eVar 1) (eVal (.int (7)))) [6] (.nm 6) (fun _ h => .ok true h) (eIx (eVar 6) (eVal (.int (0)))))]))) <|
    sNil) (sSeq (sDrop (eCall C 18 1 (evs [(eLcA 2000 true .keys (eIx (eVar 1) (eVal (.int (4)))) [10] (.nm 10) (fun _ h => .ok true h) (eIx (eVar 10) (eVal (.int (0)))))]))) <|
    sNil)) <|
  sSeq (sAsg' (eB (one dictF) (evs [(eIx (eVar 1) (eVal (.int (2))))])) (gN 3)) <|
  sSeq (sAsg' (eMeth C D.bs.mt "heads" (eVar 0) (evs [(eMeth C D.bs.mt "own_kind" (eVar 0) (evs [(eVar 2)]))])) (gN 4)) <|
  sSeq (sForA 2000 true .keys (eSl (eMeth C D.bs.mt "over" (eVar 0) (evs [(eMeth C D.bs.mt "own_kind" (eVar 0) (evs [(eVar 2)]))])) (some (eVal (.int (1)))) none) (.nm 5) (sSeq (sForA 2000 false .items (eMeth C D.bs.mt "heads" (eVar 0) (evs [(eVar 5)])) (.tp [(.nm 6), (.tp [(.nm 7), (.nm 8), (.nm 9)])]) (sSeq (sIf (tVal (eCmp .NotEq (eIx (eIx (eVar 4) (eVar 6)) (eVal (.int (0)))) (eVar 7))) (sSeq (sRaise (excF 2 ["word"] (evs [(eVar 6)]))) <|
        sNil) sNil) <|
      sSeq (sIf (tNotS (tTru (eMeth C D.bs.mt "is_under" (eVar 0) (evs [(eIx (eIx (eVar 4) (eVar 6)) (eVal (.int (1)))), (eVar 8), (eVar 3)])))) (sSeq (sRaise (excF 3 ["stands", "due"] (evs [(eIx (eIx (eVar 4) (eVar 6)) (eVal (.int (1)))), (eVar 8)]))) <|
        sNil) sNil) <|
      sSeq (sIf (tAndS (tVal (eCmp .Eq (eIx (eVar 1) (eVal (.int (0)))) (eVal (.str "class")))) (tNotS (tTru (eMeth C D.bs.mt "is_class" (eVar 0) (evs [(eMeth C D.bs.mt "body_of" (eVar 0) (evs [(eVar 2), (eVar 6)]))]))))) (sSeq (sRaise (excF 2 ["word"] (evs [(eVar 6)]))) <|
        sNil) sNil) <|
      sNil)) <|
    sNil)) <|
  sNil)
theorem sem14 (C Cl : CT) : D.bs.sem f14.fn0 C Cl = s14 C Cl := by kernel_rfl
def s15 (C Cl : CT) : SS := (sSeq (sForA 2000 true .keys (eMeth C D.bs.mt "parents" (eVar 0) (evs [(eVar 1)])) (.nm 3) (sSeq (sForA 2000 true .keys (eIx (eIx (eFld D.bs.at_ "rows" (eVar 0)) (eIx (eVar 3) (eVal (.int (1))))) (eVal (.int (7)))) (.nm 4) (sSeq (sIf (tVal (eCmp .Eq (eIx (eVar 4) (eVal (.int (0)))) (eVar 2))) (sSeq (sRet (eIx (eVar 3) (eVal (.int (1))))) <|
        sNil) sNil) <|
      sNil)) <|
    sNil)) <|
  sSeq (sRet (eIx (eIx (eMeth C D.bs.mt "heads" (eVar 0) (evs [(eMeth C D.bs.mt "own_kind" (eVar 0) (evs [(eVar 1)]))])) (eVar 2)) (eVal (.int (2))))) <|
  sNil)
theorem sem15 (C Cl : CT) : D.bs.sem f15.fn0 C Cl = s15 C Cl := by kernel_rfl
def s16 (C Cl : CT) : SS := (sSeq (sDrop eBad) <|
  sNil)
theorem sem16 (C Cl : CT) : D.bs.sem f16.fn0 C Cl = s16 C Cl := by kernel_rfl
def s17 (C Cl : CT) : SS := (sSeq (sDrop eBad) <|
  sNil)
theorem sem17 (C Cl : CT) : D.bs.sem f17.fn0 C Cl = s17 C Cl := by kernel_rfl
def s18 (C Cl : CT) : SS := (sSeq (sFor 2000 (iEvL (evs [(eVar 0)]) enmAS) (.tp [(.nm 1), (.nm 2)]) (sSeq (sIf (tVal (eCmp .In (eVar 2) (eSl (eVar 0) none (some (eVar 1))))) (sSeq (sRaise (excF 2 ["word"] (evs [(eVar 2)]))) <|
      sNil) sNil) <|
    sNil)) <|
  sNil)
theorem sem18 (C Cl : CT) : D.bs.sem f18.fn0 C Cl = s18 C Cl := by kernel_rfl
def s19 (C Cl : CT) : SS := (sSeq (sIf (tVal (eChain .Lt .Lt (eBin .Sub (eVal (.int (0))) (eVal (.int (10)))) (eVar 0) (eVal (.int (10))))) (sSeq (sRet (eLst (evs [(eB (one absF) (evs [(eVar 0)])), (eVal (.int (0))), (eVal (.int (2)))]))) <|
    sNil) sNil) <|
  sSeq (sRet (eLst (evs [(eVar 0), (eBin .Add (eVal (.int (1))) (eBin .Mod (eB (one intF) (evs [(eVar 0)])) (eVal (.int (1009))))), (eB (one intF) (evs [(eCmp .GtE (eVar 0) (eBin .Pow (eVal (.int (10))) (eVal (.int (18)))))]))]))) <|
  sNil)
theorem sem19 (C Cl : CT) : D.bs.sem f19.fn0 C Cl = s19 C Cl := by kernel_rfl
def s20 (C Cl : CT) : SS := (sSeq (sIf (tOrS (tVal (eCmp .Eq (eIx (eVar 0) (eVal (.int (2)))) (eVal (.int (2))))) (tAndS (tVal (eCmp .Eq (eIx (eVar 0) (eVal (.int (2)))) (eVal (.int (1))))) (tVal (eCmp .Gt (eIx (eVar 0) (eVal (.int (0)))) (eVal (.int (0))))))) (sSeq (sAsg' (eBin .Mod (eB (one intF) (evs [(eIx (eVar 0) (eVal (.int (0))))])) (eVar 1)) (gN 2)) <|
    sSeq (sAsg' (eBin .FloorDiv (eIx (eVar 0) (eVal (.int (0)))) (eVar 1)) (gSubS (eVar 0) (eVal (.int (0))))) <|
    sSeq (sRet (eVar 2)) <|
    sNil) sNil) <|
  sSeq (sAsg' (eVal (.int (0))) (gSubS (eVar 0) (eVal (.int (2))))) <|
  sSeq (sAsg' (eBin .Mod (eB (one intF) (evs [(eBin .Add (eBin .Add (eBin .Mult (eIx (eVar 0) (eVal (.int (0)))) (eVal (.int (48271)))) (eBin .Mult (eIx (eVar 0) (eVal (.int (1)))) (eVal (.int (69621))))) (eVal (.int (11))))])) (eVal (.int (2147483647)))) (gSubS (eVar 0) (eVal (.int (0))))) <|
  sSeq (sAsg' (eBin .Add (eIx (eVar 0) (eVal (.int (1)))) (eVal (.int (1)))) (gSubS (eVar 0) (eVal (.int (1))))) <|
  sSeq (sRet (eBin .Mod (eB (one intF) (evs [(eBin .Add (eBin .FloorDiv (eIx (eVar 0) (eVal (.int (0)))) (eVal (.int (7)))) (eIx (eVar 0) (eVal (.int (0)))))])) (eVar 1))) <|
  sNil)
theorem sem20 (C Cl : CT) : D.bs.sem f20.fn0 C Cl = s20 C Cl := by kernel_rfl
def s21 (C Cl : CT) : SS := (sSeq (sAsg' (eSl (eVar 0) none (some (eVar 1))) (gN 2)) <|
  sSeq (sIf (tVal (eCmp .Eq (eVar 2) (eLst (evs [])))) (sSeq (sAsg' (eLst (evs [(eVal (.int (0)))])) (gN 2)) <|
    sNil) sNil) <|
  sSeq (sRet (eLcA 2000 true .keys (eVar 2) [3] (.nm 3) (fun _ h => .ok true h) (eCall C 19 1 (evs [(eVar 3)])))) <|
  sNil)
theorem sem21 (C Cl : CT) : D.bs.sem f21.fn0 C Cl = s21 C Cl := by kernel_rfl
def s22 (C Cl : CT) : SS := (sSeq (sRet (eTup (evs [(eVal (.str "own")), (eVar 0), eNul]))) <|
  sNil)
theorem sem22 (C Cl : CT) : D.bs.sem f22.fn0 C Cl = s22 C Cl := by kernel_rfl
def s23 (C Cl : CT) : SS := (sSeq (sFld' D.bs.at_ "classes" (eVar 1) (eVar 0)) <|
  sSeq (sFld' D.bs.at_ "held" (eVar 2) (eVar 0)) <|
  sSeq (sFld' D.bs.at_ "own" (eVar 3) (eVar 0)) <|
  sSeq (sFld' D.bs.at_ "goal" (eVar 4) (eVar 0)) <|
  sSeq (sFld' D.bs.at_ "names" eDct (eVar 0)) <|
  sSeq (sFld' D.bs.at_ "result" (eVal (.non)) (eVar 0)) <|
  sSeq (sFld' D.bs.at_ "is_contract" (eVal (.bl false)) (eVar 0)) <|
  sNil)
theorem sem23 (C Cl : CT) : D.bs.sem f23.fn0 C Cl = s23 C Cl := by kernel_rfl
def s24 (C Cl : CT) : SS := (sSeq (sAsg' (eMeth C D.bs.mt "kind_of" (eVar 0) (evs [(eVar 1), (eVar 3)])) (gN 4)) <|
  sSeq (sIf (tNotS (tTru (eMeth C D.bs.mt "is_under" (eFld D.bs.at_ "classes" (eVar 0)) (evs [(eVar 4), (eVar 2), (eFld D.bs.at_ "held" (eVar 0))])))) (sSeq (sRaise (excF 3 ["stands", "due"] (evs [(eVar 4), (eVar 2)]))) <|
    sNil) sNil) <|
  sNil)
theorem sem24 (C Cl : CT) : D.bs.sem f24.fn0 C Cl = s24 C Cl := by kernel_rfl
def s25 (C Cl : CT) : SS := (sSeq (sAsg' (eIx (eVar 1) (eVal (.int (0)))) (gN 3)) <|
  sSeq (sIf (tVal (eCmp .Eq (eVar 3) (eVal (.str "num")))) (sSeq (sRet (eVal (.tup [.str "own", .str "Int", .tup []]))) <|
    sNil) sNil) <|
  sSeq (sIf (tVal (eCmp .Eq (eVar 3) (eVal (.str "truth")))) (sSeq (sRet (eVal (.tup [.str "own", .str "Bool", .tup []]))) <|
    sNil) sNil) <|
  sSeq (sIf (tVal (eCmp .Eq (eVar 3) (eVal (.str "null")))) (sSeq (sRet (eVal (.tup [.str "null"]))) <|
    sNil) sNil) <|
  sSeq (sIf (tVal (eCmp .Eq (eVar 3) (eVal (.str "name")))) (sSeq (sIf (tVal (eCmp .NotIn (eIx (eVar 1) (eVal (.int (1)))) (eFld D.bs.at_ "names" (eVar 0)))) (sSeq (sRaise (excF 2 ["word"] (evs [(eIx (eVar 1) (eVal (.int (1))))]))) <|
      sNil) sNil) <|
    sSeq (sIf (tVal (eCmp .NotIn (eIx (eVar 1) (eVal (.int (1)))) (eVar 2))) (sSeq (sRaise (excF 4 [] (evs [(eIx (eVar 1) (eVal (.int (1))))]))) <|
      sNil) sNil) <|
    sSeq (sRet (eIx (eFld D.bs.at_ "names" (eVar 0)) (eIx (eVar 1) (eVal (.int (1)))))) <|
    sNil) sNil) <|
  sSeq (sIf (tVal (eCmp .Eq (eVar 3) (eVal (.str "this")))) (sSeq (sRet (eMeth C D.bs.mt "need_own" (eVar 0) (evs []))) <|
    sNil) sNil) <|
  sSeq (sIf (tVal (eCmp .Eq (eVar 3) (eVal (.str "result")))) (sSeq (sIf (tVal (eCmp .Is (eFld D.bs.at_ "result" (eVar 0)) (eVal (.non)))) (sSeq (sRaise (excF 2 ["word"] (evs [(eVal (.str "result"))]))) <|
      sNil) sNil) <|
    sSeq (sRet (eFld D.bs.at_ "result" (eVar 0))) <|
    sNil) sNil) <|
  sSeq (sIf (tVal (eCmp .Eq (eVar 3) (eVal (.str "not")))) (sSeq (sDrop (eMeth C D.bs.mt "need" (eVar 0) (evs [(eIx (eVar 1) (eVal (.int (1)))), (eVal (.tup [.str "own", .str "Bool", .tup []])), (eVar 2)]))) <|
    sSeq (sRet (eVal (.tup [.str "own", .str "Bool", .tup []]))) <|
    sNil) sNil) <|
  sSeq (sIf (tVal (eCmp .Eq (eVar 3) (eVal (.str "op")))) (sSeq (sRet (eMeth C D.bs.mt "of_op" (eVar 0) (evs [(eVar 1), (eVar 2)]))) <|
    sNil) sNil) <|
  sSeq (sIf (tVal (eCmp .In (eVar 3) (eTup (evs [(eVal (.str "new")), (eVal (.str "super")), (eVal (.str "call"))])))) (sSeq (sRet (eMeth C D.bs.mt "of_call" (eVar 0) (evs [(eVar 1), (eVar 2)]))) <|
    sNil) sNil) <|
  sSeq (sIf (tVal (eCmp .Eq (eVar 3) (eVal (.str "get")))) (sSeq (sRet (eMeth C D.bs.mt "field" (eVar 0) (evs [(eMeth C D.bs.mt "kind_of" (eVar 0) (evs [(eIx (eVar 1) (eVal (.int (1)))), (eVar 2)])), (eIx (eVar 1) (eVal (.int (2))))]))) <|
    sNil) sNil) <|
  sSeq (sRet (eMeth C D.bs.mt "of_look" (eVar 0) (evs [(eVar 1), (eVar 2)]))) <|
  sNil)
theorem sem25 (C Cl : CT) : D.bs.sem f25.fn0 C Cl = s25 C Cl := by kernel_rfl
def s26 (C Cl : CT) : SS := (sSeq (sIf (tVal (eCmp .Is (eFld D.bs.at_ "own" (eVar 0)) (eVal (.non)))) (sSeq (sRaise (excF 2 ["word"] (evs [(eVal (.str "this"))]))) <|
    sNil) sNil) <|
  sSeq (sRet (eFld D.bs.at_ "own" (eVar 0))) <|
  sNil)
theorem sem26 (C Cl : CT) : D.bs.sem f26.fn0 C Cl = s26 C Cl := by kernel_rfl
def s27 (C Cl : CT) : SS := (sSeq (sAsg' (eIx (eVar 1) (eVal (.int (1)))) (gN 3)) <|
  sSeq (sIf (tVal (eTabIn [("+", .tup [.str "own", .str "Int", .tup []]), ("-", .tup [.str "own", .str "Int", .tup []]), ("*", .tup [.str "own", .str "Int", .tup []]), ("/", .tup [.str "own", .str "Int", .tup []]), ("^", .tup [.str "own", .str "Int", .tup []]), ("<", .tup [.str "own", .str "Int", .tup []]), ("<=", .tup [.str "own", .str "Int", .tup []]), ("&&", .tup [.str "own", .str "Bool", .tup []]), ("||", .tup [.str "own", .str "Bool", .tup []])] (eVar 3))) (sSeq (sDrop (eMeth C D.bs.mt "need" (eVar 0) (evs [(eIx (eVar 1) (eVal (.int (2)))), (eTabIx [("+", .tup [.str "own", .str "Int", .tup []]), ("-", .tup [.str "own", .str "Int", .tup []]), ("*", .tup [.str "own", .str "Int", .tup []]), ("/", .tup [.str "own", .str "Int", .tup []]), ("^", .tup [.str "own", .str "Int", .tup []]), ("<", .tup [.str "own", .str "Int", .tup []]), ("<=", .tup [.str "own", .str "Int", .tup []]), ("&&", .tup [.str "own", .str "Bool", .tup []]), ("||", .tup [.str "own", .str "Bool", .tup []])] (eVar 3)), (eVar 2)]))) <|
    sSeq (sDrop (eMeth C D.bs.mt "need" (eVar 0) (evs [(eIx (eVar 1) (eVal (.int (3)))), (eTabIx [("+", .tup [.str "own", .str "Int", .tup []]), ("-", .tup [.str "own", .str "Int", .tup []]), ("*", .tup [.str "own", .str "Int", .tup []]), ("/", .tup [.str "own", .str "Int", .tup []]), ("^", .tup [.str "own", .str "Int", .tup []]), ("<", .tup [.str "own", .str "Int", .tup []]), ("<=", .tup [.str "own", .str "Int", .tup []]), ("&&", .tup [.str "own", .str "Bool", .tup []]), ("||", .tup [.str "own", .str "Bool", .tup []])] (eVar 3)), (eVar 2)]))) <|
    sSeq (sRet (eIf (tVal (eCmp .In (eVar 3) (eVal (.tup [.str "<", .str "<=", .str "&&", .str "||"])))) (eVal (.tup [.str "own", .str "Bool", .tup []])) (eVal (.tup [.str "own", .str "Int", .tup []])))) <|
    sNil) sNil) <|
  sSeq (sPar 4 5 (evs [(eMeth C D.bs.mt "kind_of" (eVar 0) (evs [(eIx (eVar 1) (eVal (.int (2)))), (eVar 2)])), (eMeth C D.bs.mt "kind_of" (eVar 0) (evs [(eIx (eVar 1) (eVal (.int (3)))), (eVar 2)]))])) <|
  sSeq (sIf (tAndS (tNotS (tTru (eMeth C D.bs.mt "is_under" (eFld D.bs.at_ "classes" (eVar 0)) (evs [(eVar 4), (eVar 5), (eFld D.bs.at_ "held" (eVar 0))])))) (tNotS (tTru (eMeth C D.bs.mt "is_under" (eFld D.bs.at_ "classes" (eVar 0)) (evs [(eVar 5), (eVar 4), (eFld D.bs.at_ "held" (eVar 0))]))))) (sSeq (sRaise (excF 3 ["stands", "due"] (evs [(eVar 4), (eVar 5)]))) <|
    sNil) sNil) <|
  sSeq (sRet (eVal (.tup [.str "own", .str "Bool", .tup []]))) <|
  sNil)
theorem sem27 (C Cl : CT) : D.bs.sem f27.fn0 C Cl = s27 C Cl := by kernel_rfl
def s28 (C Cl : CT) : SS := (sSeq (sWhile 2000 (tAndS (tVal (eCmp .Eq (eIx (eVar 1) (eVal (.int (0)))) (eVal (.str "own")))) (tAndS (tVal (eCmp .Eq (eIx (eVar 1) (eVal (.int (2)))) eNul)) (tAndS (tVal (eCmp .In (eIx (eVar 1) (eVal (.int (1)))) (eFld D.bs.at_ "held" (eVar 0)))) (tVal (eCmp .IsNot (eIx (eFld D.bs.at_ "held" (eVar 0)) (eIx (eVar 1) (eVal (.int (1))))) (eVal (.non))))))) (sSeq (sAsg' (eIx (eFld D.bs.at_ "held" (eVar 0)) (eIx (eVar 1) (eVal (.int (1))))) (gN 1)) <|
    sNil)) <|
  sSeq (sIf (tOrS (tVal (eCmp .NotEq (eIx (eVar 1) (eVal (.int (0)))) (eVal (.str "own")))) (tVal (eCmp .NotIn (eIx (eVar 1) (eVal (.int (1)))) (eFld D.bs.at_ "rows" (eFld D.bs.at_ "classes" (eVar 0)))))) (sSeq (sRaise (excF 3 ["stands", "due"] (evs [(eVar 1), (eTup (evs [(eVal (.str "own")), (eVal (.str "Object")), eNul]))]))) <|
    sNil) sNil) <|
  sSeq (sRet (eVar 1)) <|
  sNil)
theorem sem28 (C Cl : CT) : D.bs.sem f28.fn0 C Cl = s28 C Cl := by kernel_rfl
def s29 (C Cl : CT) : SS := (sSeq (sAsg' (eMeth C D.bs.mt "bounded" (eVar 0) (evs [(eVar 1)])) (gN 1)) <|
  sSeq (sIf (tNotS (tTru (eMeth C D.bs.mt "is_class" (eFld D.bs.at_ "classes" (eVar 0)) (evs [(eIx (eVar 1) (eVal (.int (1))))])))) (sSeq (sRaise (excF 2 ["word"] (evs [(eVar 2)]))) <|
    sNil) sNil) <|
  sSeq (sAsg' (eDc 2000 (iEvL (evs [(eMeth C D.bs.mt "variables" (eFld D.bs.at_ "classes" (eVar 0)) (evs [(eIx (eVar 1) (eVal (.int (1))))])), (eIx (eVar 1) (eVal (.int (2))))]) zipS) [8, 9, 7] (.tp [(.tp [(.nm 8), (.nm 9)]), (.nm 7)]) (fun _ h => .ok true h) (eVar 8) (eVar 7)) (gN 3)) <|
  sSeq (sForA 2000 true .keys (eMeth C D.bs.mt "fields" (eFld D.bs.at_ "classes" (eVar 0)) (evs [(eIx (eVar 1) (eVal (.int (1))))])) (.tp [(.nm 4), (.nm 5), (.nm 6)]) (sSeq (sIf (tVal (eCmp .Eq (eVar 4) (eVar 2))) (sSeq (sRet (eCall C 0 2 (evs [(eVar 5), (eVar 3)]))) <|
      sNil) sNil) <|
    sNil)) <|
  sSeq (sRaise (excF 2 ["word"] (evs [(eVar 2)]))) <|
  sNil)
theorem sem29 (C Cl : CT) : D.bs.sem f29.fn0 C Cl = s29 C Cl := by kernel_rfl
def s30 (C Cl : CT) : SS := (sSeq (sIf (tAndS (tVal (eCmp .Eq (eIx (eVar 1) (eVal (.int (0)))) (eVal (.str "super")))) (tTru (eFld D.bs.at_ "is_contract" (eVar 0)))) (sSeq (sRaise (excF 2 ["word"] (evs [(eVal (.str "super"))]))) <|
    sNil) sNil) <|
  sSeq (sIf (tVal (eCmp .Eq (eIx (eVar 1) (eVal (.int (0)))) (eVal (.str "new")))) (sSeq (sDrop (eMeth C D.bs.mt "check_kind" (eFld D.bs.at_ "classes" (eVar 0)) (evs [(eIx (eVar 1) (eVal (.int (1)))), (eFld D.bs.at_ "held" (eVar 0))]))) <|
    sSeq (sIf (tNotS (tTru (eMeth C D.bs.mt "is_class" (eFld D.bs.at_ "classes" (eVar 0)) (evs [(eIx (eIx (eVar 1) (eVal (.int (1)))) (eVal (.int (1))))])))) (sSeq (sRaise (excF 2 ["word"] (evs [(eIx (eIx (eVar 1) (eVal (.int (1)))) (eVal (.int (1))))]))) <|
      sNil) sNil) <|
    sSeq (sAsg' (eIx (eFld D.bs.at_ "rows" (eFld D.bs.at_ "classes" (eVar 0))) (eIx (eIx (eVar 1) (eVal (.int (1)))) (eVal (.int (1))))) (gN 4)) <|
    sSeq (sAsg' (eDc 2000 (iEvL (evs [(eIx (eVar 4) (eVal (.int (2)))), (eIx (eIx (eVar 1) (eVal (.int (1)))) (eVal (.int (2))))]) zipS) [11, 12, 10] (.tp [(.tp [(.nm 11), (.nm 12)]), (.nm 10)]) (fun _ h => .ok true h) (eVar 11) (eVar 10)) (gN 5)) <|
    sSeq (sDrop (eMeth C D.bs.mt "need_all" (eVar 0) (evs [(eIx (eVar 1) (eVal (.int (2)))), (eB (one tupleF) (evs [(eLcA 2000 true .keys (eIx (eIx (eVar 4) (eVal (.int (6)))) (eVal (.int (0)))) [13, 14] (.tp [(.nm 13), (.nm 14)]) (fun _ h => .ok true h) (eCall C 0 2 (evs [(eVar 14), (eVar 5)])))])), (eVar 2), (eIx (eIx (eVar 1) (eVal (.int (1)))) (eVal (.int (1))))]))) <|
    sSeq (sRet (eIx (eVar 1) (eVal (.int (1))))) <|
    sNil) sNil) <|
  sSeq (sIf (tVal (eCmp .Eq (eIx (eVar 1) (eVal (.int (0)))) (eVal (.str "super")))) (sSeq (sAsg' (eMeth C D.bs.mt "parents" (eFld D.bs.at_ "classes" (eVar 0)) (evs [(eIx (eMeth C D.bs.mt "need_own" (eVar 0) (evs [])) (eVal (.int (1))))])) (gN 6)) <|
    sSeq (sIf (tVal (eCmp .Lt (eB (one lenF) (evs [(eVar 6)])) (eVal (.int (2))))) (sSeq (sRaise (excF 2 ["word"] (evs [(eVal (.str "super"))]))) <|
      sNil) sNil) <|
    sSeq (sPar3 7 8 9 (evs [(eIx (eVar 6) (eVal (.int (1)))), (eIx (eVar 1) (eVal (.int (1)))), (eIx (eVar 1) (eVal (.int (2))))])) <|
    sNil) (sSeq (sPar3 7 8 9 (evs [(eMeth C D.bs.mt "bounded" (eVar 0) (evs [(eMeth C D.bs.mt "kind_of" (eVar 0) (evs [(eIx (eVar 1) (eVal (.int (1)))), (eVar 2)]))])), (eIx (eVar 1) (eVal (.int (2)))), (eIx (eVar 1) (eVal (.int (3))))])) <|
    sNil)) <|
  sSeq (sAsg' (eMeth C D.bs.mt "heads" (eFld D.bs.at_ "classes" (eVar 0)) (evs [(eVar 7)])) (gN 3)) <|
  sSeq (sIf (tOrS (tVal (eCmp .NotIn (eVar 8) (eVar 3))) (tAndS (tVal (eCmp .Eq (eIx (eVar 1) (eVal (.int (0)))) (eVal (.str "super")))) (tNotS (tTru (eMeth C D.bs.mt "is_class" (eFld D.bs.at_ "classes" (eVar 0)) (evs [(eMeth C D.bs.mt "body_of" (eFld D.bs.at_ "classes" (eVar 0)) (evs [(eIx (eVar 7) (eVal (.int (1)))), (eVar 8)]))])))))) (sSeq (sRaise (excF 2 ["word"] (evs [(eVar 8)]))) <|
    sNil) sNil) <|
  sSeq (sDrop (eMeth C D.bs.mt "need_all" (eVar 0) (evs [(eVar 9), (eIx (eIx (eVar 3) (eVar 8)) (eVal (.int (0)))), (eVar 2), (eVar 8)]))) <|
  sSeq (sRet (eIx (eIx (eVar 3) (eVar 8)) (eVal (.int (1))))) <|
  sNil)
theorem sem30 (C Cl : CT) : D.bs.sem f30.fn0 C Cl = s30 C Cl := by kernel_rfl
def s31 (C Cl : CT) : SS := (sSeq (sIf (tVal (eCmp .NotEq (eB (one lenF) (evs [(eVar 1)])) (eB (one lenF) (evs [(eVar 2)])))) (sSeq (sRaise (excF 2 ["word"] (evs [(eVar 4)]))) <|
    sNil) sNil) <|
  sSeq (sFor 2000 (iEvL (evs [(eVar 1), (eVar 2)]) zipS) (.tp [(.nm 5), (.nm 6)]) (sSeq (sDrop (eMeth C D.bs.mt "need" (eVar 0) (evs [(eVar 5), (eVar 6), (eVar 3)]))) <|
    sNil)) <|
  sNil)
theorem sem31 (C Cl : CT) : D.bs.sem f31.fn0 C Cl = s31 C Cl := by kernel_rfl
def s32 (C Cl : CT) : SS := (sSeq (sAsg' (eMeth C D.bs.mt "kind_of" (eVar 0) (evs [(eIx (eVar 1) (eVal (.int (1)))), (eVar 2)])) (gN 3)) <|
  sSeq (sAsg' (eIf (tVal (eCmp .Eq (eIx (eVar 1) (eVal (.int (0)))) (eVal (.str "is")))) (eIx (eVar 1) (eVal (.int (2)))) (eIx (eIx (eVar 1) (eVal (.int (2)))) (eVal (.int (1))))) (gN 4)) <|
  sSeq (sIf (tVal (eCmp .Eq (eIx (eVar 1) (eVal (.int (0)))) (eVal (.str "as")))) (sSeq (sDrop (eMeth C D.bs.mt "check_kind" (eFld D.bs.at_ "classes" (eVar 0)) (evs [(eIx (eVar 1) (eVal (.int (2)))), (eFld D.bs.at_ "held" (eVar 0))]))) <|
    sSeq (sIf (tVal (eCmp .NotEq (eIx (eIx (eVar 1) (eVal (.int (2)))) (eVal (.int (2)))) eNul)) (sSeq (sRaise (excF 3 ["stands", "due"] (evs [(eIx (eVar 1) (eVal (.int (2)))), (eVar 3)]))) <|
      sNil) sNil) <|
    sNil) sNil) <|
  sSeq (sIf (tOrS (tVal (eCmp .NotIn (eVar 4) (eFld D.bs.at_ "rows" (eFld D.bs.at_ "classes" (eVar 0))))) (tAndS (tVal (eCmp .Eq (eIx (eVar 3) (eVal (.int (0)))) (eVal (.str "own")))) (tVal (eCmp .In (eIx (eVar 3) (eVal (.int (1)))) (eVal (.tup [.str "Int", .str "Bool", .str "Unit"])))))) (sSeq (sRaise (excF 2 ["word"] (evs [(eVar 4)]))) <|
    sNil) sNil) <|
  sSeq (sRet (eIf (tVal (eCmp .Eq (eIx (eVar 1) (eVal (.int (0)))) (eVal (.str "is")))) (eVal (.tup [.str "own", .str "Bool", .tup []])) (eIx (eVar 1) (eVal (.int (2)))))) <|
  sNil)
theorem sem32 (C Cl : CT) : D.bs.sem f32.fn0 C Cl = s32 C Cl := by kernel_rfl
def s33 (C Cl : CT) : SS := (sSeq (sPar3 2 5 6 (evs [(eB (one dictF) (evs [(eVar 2)])), (eLst (evs [])), (eVal (.bl true))])) <|
  sSeq (sForA 2000 true .keys (eVar 1) (.nm 3) (sSeq (sIf (tNotS (tTru (eVar 6))) (sSeq (sRaise (excF 4 [] (evs [(eVal (.str "never reached"))]))) <|
      sNil) sNil) <|
    sSeq (sAsg' (eIx (eVar 3) (eVal (.int (0)))) (gN 7)) <|
    sSeq (sIf (tVal (eCmp .Eq (eVar 7) (eVal (.str "var")))) (sSeq (sIf (tVal (eCmp .In (eIx (eVar 3) (eVal (.int (1)))) (eFld D.bs.at_ "names" (eVar 0)))) (sSeq (sRaise (excF 2 ["word"] (evs [(eIx (eVar 3) (eVal (.int (1))))]))) <|
        sNil) sNil) <|
      sSeq (sDrop (eMeth C D.bs.mt "check_kind" (eFld D.bs.at_ "classes" (eVar 0)) (evs [(eIx (eVar 3) (eVal (.int (2)))), (eFld D.bs.at_ "held" (eVar 0))]))) <|
      sSeq (sIf (tVal (eCmp .IsNot (eIx (eVar 3) (eVal (.int (3)))) (eVal (.non)))) (sSeq (sDrop (eMeth C D.bs.mt "need" (eVar 0) (evs [(eIx (eVar 3) (eVal (.int (3)))), (eIx (eVar 3) (eVal (.int (2)))), (eVar 2)]))) <|
        sSeq (sAsg' (eVal (.bl true)) (gSubS (eVar 2) (eIx (eVar 3) (eVal (.int (1)))))) <|
        sNil) sNil) <|
      sSeq (sAsg' (eIx (eVar 3) (eVal (.int (2)))) (gSubS (eFld D.bs.at_ "names" (eVar 0)) (eIx (eVar 3) (eVal (.int (1)))))) <|
      sSeq (sDrop (eBm .append (eVar 5) (evs [(eIx (eVar 3) (eVal (.int (1))))]))) <|
      sNil) (sSeq (sIf (tVal (eCmp .Eq (eVar 7) (eVal (.str "return")))) (sSeq (sDrop (eMeth C D.bs.mt "need" (eVar 0) (evs [(eIx (eVar 3) (eVal (.int (1)))), (eFld D.bs.at_ "goal" (eVar 0)), (eVar 2)]))) <|
        sSeq (sAsg' (eVal (.bl false)) (gN 6)) <|
        sNil) (sSeq (sIf (tVal (eCmp .In (eVar 7) (eTup (evs [(eVal (.str "if")), (eVal (.str "while"))])))) (sSeq (sAsgP (eMeth C D.bs.mt "branch" (eVar 0) (evs [(eVar 3), (eVar 2)])) (.tp [(.nm 2), (.nm 6)])) <|
          sNil) (sSeq (sDrop (eMeth C D.bs.mt "plain_step" (eVar 0) (evs [(eVar 3), (eVar 2)]))) <|
          sNil)) <|
        sNil)) <|
      sNil)) <|
    sNil)) <|
  sSeq (sForA 2000 true .keys (eVar 5) (.nm 4) (sSeq (sDrop (eBm .pop (eFld D.bs.at_ "names" (eVar 0)) (evs [(eVar 4)]))) <|
    sSeq (sDrop (eBm .pop (eVar 2) (evs [(eVar 4), (eVal (.non))]))) <|
    sNil)) <|
  sSeq (sRet (eTup (evs [(eVar 2), (eVar 6)]))) <|
  sNil)
theorem sem33 (C Cl : CT) : D.bs.sem f33.fn0 C Cl = s33 C Cl := by kernel_rfl
def s34 (C Cl : CT) : SS := (sSeq (sIf (tVal (eCmp .Eq (eIx (eVar 1) (eVal (.int (0)))) (eVal (.str "set")))) (sSeq (sIf (tVal (eCmp .NotIn (eIx (eVar 1) (eVal (.int (1)))) (eFld D.bs.at_ "names" (eVar 0)))) (sSeq (sRaise (excF 2 ["word"] (evs [(eIx (eVar 1) (eVal (.int (1))))]))) <|
      sNil) sNil) <|
    sSeq (sDrop (eMeth C D.bs.mt "need" (eVar 0) (evs [(eIx (eVar 1) (eVal (.int (2)))), (eIx (eFld D.bs.at_ "names" (eVar 0)) (eIx (eVar 1) (eVal (.int (1))))), (eVar 2)]))) <|
    sSeq (sAsg' (eVal (.bl true)) (gSubS (eVar 2) (eIx (eVar 1) (eVal (.int (1)))))) <|
    sNil) (sSeq (sIf (tVal (eCmp .Eq (eIx (eVar 1) (eVal (.int (0)))) (eVal (.str "put")))) (sSeq (sAsg' (eMeth C D.bs.mt "field" (eVar 0) (evs [(eMeth C D.bs.mt "kind_of" (eVar 0) (evs [(eIx (eVar 1) (eVal (.int (1)))), (eVar 2)])), (eIx (eVar 1) (eVal (.int (2))))])) (gN 3)) <|
      sSeq (sDrop (eMeth C D.bs.mt "need" (eVar 0) (evs [(eIx (eVar 1) (eVal (.int (3)))), (eVar 3), (eVar 2)]))) <|
      sNil) (sSeq (sDrop (eMeth C D.bs.mt "kind_of" (eVar 0) (evs [(eIx (eVar 1) (eVal (.int (1)))), (eVar 2)]))) <|
      sNil)) <|
    sNil)) <|
  sNil)
theorem sem34 (C Cl : CT) : D.bs.sem f34.fn0 C Cl = s34 C Cl := by kernel_rfl
def s35 (C Cl : CT) : SS := (sSeq (sDrop (eMeth C D.bs.mt "need" (eVar 0) (evs [(eIx (eVar 1) (eVal (.int (1)))), (eVal (.tup [.str "own", .str "Bool", .tup []])), (eVar 2)]))) <|
  sSeq (sAsgP (eMeth C D.bs.mt "steps" (eVar 0) (evs [(eIx (eVar 1) (eVal (.int (2)))), (eVar 2)])) (.tp [(.nm 3), (.nm 4)])) <|
  sSeq (sIf (tVal (eCmp .Eq (eIx (eVar 1) (eVal (.int (0)))) (eVal (.str "while")))) (sSeq (sRet (eTup (evs [(eVar 2), (eVal (.bl true))]))) <|
    sNil) sNil) <|
  sSeq (sAsgP (eMeth C D.bs.mt "steps" (eVar 0) (evs [(eIx (eVar 1) (eVal (.int (3)))), (eVar 2)])) (.tp [(.nm 5), (.nm 6)])) <|
  sSeq (sIf (tNotS (tTru (eVar 4))) (sSeq (sRet (eTup (evs [(eVar 5), (eVar 6)]))) <|
    sNil) sNil) <|
  sSeq (sIf (tNotS (tTru (eVar 6))) (sSeq (sRet (eTup (evs [(eVar 3), (eVar 4)]))) <|
    sNil) sNil) <|
  sSeq (sRet (eTup (evs [(eDcA 2000 true .keys (eVar 3) [7] (.nm 7) (tVal (eCmp .In (eVar 7) (eVar 5))) (eVar 7) (eVal (.bl true))), (eVal (.bl true))]))) <|
  sNil)
theorem sem35 (C Cl : CT) : D.bs.sem f35.fn0 C Cl = s35 C Cl := by kernel_rfl
def s36 (C Cl : CT) : SS := (sSeq (sAsg' (eMake C 10 23 5 (evs [(eVar 0), (eVar 1), (eVar 2), (eVar 4)])) (gN 6)) <|
  sSeq (sForA 2000 true .keys (eVar 3) (.tp [(.nm 7), (.nm 8)]) (sSeq (sIf (tVal (eCmp .In (eVar 7) (eFld D.bs.at_ "names" (eVar 6)))) (sSeq (sRaise (excF 2 ["word"] (evs [(eVar 7)]))) <|
      sNil) sNil) <|
    sSeq (sAsg' (eVar 8) (gSubS (eFld D.bs.at_ "names" (eVar 6)) (eVar 7))) <|
    sNil)) <|
  sSeq (sAsgP (eMeth C D.bs.mt "steps" (eVar 6) (evs [(eVar 5), (eB (one dictF) (evs [(eFld D.bs.at_ "names" (eVar 6))]))])) (.tp [(.nm 9), (.nm 10)])) <|
  sSeq (sIf (tAndS (tTru (eVar 10)) (tVal (eCmp .NotEq (eVar 4) (eVal (.tup [.str "own", .str "Unit", .tup []]))))) (sSeq (sRaise (excF 4 [] (evs [(eVal (.str "no return"))]))) <|
    sNil) sNil) <|
  sNil)
theorem sem36 (C Cl : CT) : D.bs.sem f36.fn0 C Cl = s36 C Cl := by kernel_rfl
def s37 (C Cl : CT) : SS := (sSeq (sPar 2 3 (evs [(eB (one dictF) (evs [(eIx (eVar 1) (eVal (.int (2))))])), (eMeth C D.bs.mt "own_kind" (eVar 0) (evs [(eIx (eVar 1) (eVal (.int (1))))]))])) <|
  sSeq (sForA 2000 true .keys (eIx (eVar 1) (eVal (.int (5)))) (.tp [(.nm 4), (.nm 5), (.nm 6)]) (sSeq (sDrop (eMeth C D.bs.mt "need" (eMake C 10 23 5 (evs [(eVar 0), (eVar 2), (eVal (.non)), (eVar 5)])) (evs [(eVar 6), (eVar 5), eDct]))) <|
    sNil)) <|
  sSeq (sDrop (eCall C 36 6 (evs [(eVar 0), (eVar 2), (eVar 3), (eIx (eIx (eVar 1) (eVal (.int (6)))) (eVal (.int (0)))), (eVal (.tup [.str "own", .str "Unit", .tup []])), (eIx (eIx (eVar 1) (eVal (.int (6)))) (eVal (.int (1))))]))) <|
  sSeq (sForA 2000 true .keys (eIx (eVar 1) (eVal (.int (7)))) (.tp [(.nm 4), (.nm 7), (.nm 5), (.nm 8), (.nm 9), (.nm 10)]) (sSeq (sDrop (eCall C 36 6 (evs [(eVar 0), (eVar 2), (eVar 3), (eVar 7), (eVar 5), (eVar 10)]))) <|
    sSeq (sAsg' (eMake C 10 23 5 (evs [(eVar 0), (eVar 2), (eVar 3), (eVar 5)])) (gN 11)) <|
    sSeq (sFldP D.bs.at_ "names" "is_contract" (eTup (evs [(eB (one dictF) (evs [(eVar 7)])), (eVal (.bl true))])) (eVar 11) (eVar 11)) <|
    sSeq (sIf (tVal (eCmp .IsNot (eVar 8) (eVal (.non)))) (sSeq (sDrop (eMeth C D.bs.mt "need" (eVar 11) (evs [(eVar 8), (eVal (.tup [.str "own", .str "Bool", .tup []])), (eFld D.bs.at_ "names" (eVar 11))]))) <|
      sNil) sNil) <|
    sSeq (sFld' D.bs.at_ "result" (eVar 5) (eVar 11)) <|
    sSeq (sIf (tVal (eCmp .IsNot (eVar 9) (eVal (.non)))) (sSeq (sDrop (eMeth C D.bs.mt "need" (eVar 11) (evs [(eVar 9), (eVal (.tup [.str "own", .str "Bool", .tup []])), (eFld D.bs.at_ "names" (eVar 11))]))) <|
      sNil) sNil) <|
    sNil)) <|
  sNil)
theorem sem37 (C Cl : CT) : D.bs.sem f37.fn0 C Cl = s37 C Cl := by kernel_rfl
def s38 (C Cl : CT) : SS := (sSeq (sDrop (eCall C 36 6 (evs [(eVar 0), eDct, (eVal (.non)), eNul, (eVal (.tup [.str "own", .str "Int", .tup []])), (eVar 1)]))) <|
  sNil)
theorem sem38 (C Cl : CT) : D.bs.sem f38.fn0 C Cl = s38 C Cl := by kernel_rfl
def s39 (C Cl : CT) : SS := (sSeq (sForA 2000 true .keys (eFld D.bs.at_ "rows" (eVar 0)) (.nm 1) (sSeq (sIf (tTru (eMeth C D.bs.mt "is_class" (eVar 0) (evs [(eVar 1)]))) (sSeq (sDrop (eCall C 37 2 (evs [(eVar 0), (eIx (eFld D.bs.at_ "rows" (eVar 0)) (eVar 1))]))) <|
      sNil) sNil) <|
    sNil)) <|
  sNil)
theorem sem39 (C Cl : CT) : D.bs.sem f39.fn0 C Cl = s39 C Cl := by kernel_rfl
def s40 (C Cl : CT) : SS := (sSeq (sRet (eTup (evs [(eVal (.str "call")), (eVar 0), (eVar 1), eNul]))) <|
  sNil)
theorem sem40 (C Cl : CT) : D.bs.sem f40.fn0 C Cl = s40 C Cl := by kernel_rfl
def s41 (C Cl : CT) : SS := (sSeq (sAsg' (eCall C 20 2 (evs [(eVar 0), (eVal (.int (7)))])) (gN 4)) <|
  sSeq (sIf (tOrS (tVal (eCmp .Eq (eVar 1) (eVal (.int (0))))) (tVal (eCmp .Lt (eVar 4) (eVal (.int (2)))))) (sSeq (sRet (eIf (tAndS (tVal (eCmp .NotEq (eVar 2) (eLst (evs [])))) (tVal (eCmp .Eq (eCall C 20 2 (evs [(eVar 0), (eVal (.int (2)))])) (eVal (.int (0)))))) (eTup (evs [(eVal (.str "name")), (eIx (eVar 2) (eCall C 20 2 (evs [(eVar 0), (eB (one lenF) (evs [(eVar 2)]))])))])) (eTup (evs [(eVal (.str "num")), (eBin .Sub (eCall C 20 2 (evs [(eVar 0), (eVal (.int (9)))])) (eVal (.int (2))))])))) <|
    sNil) sNil) <|
  sSeq (sIf (tOrS (tVal (eCmp .Lt (eVar 4) (eVal (.int (5))))) (tVal (eCmp .Eq (eVar 3) (eLst (evs []))))) (sSeq (sAsg' (eIx (eLst (evs [(eVal (.str "+")), (eVal (.str "-")), (eVal (.str "*")), (eVal (.str "/")), (eVal (.str "^"))])) (eCall C 20 2 (evs [(eVar 0), (eVal (.int (5)))]))) (gN 6)) <|
    sSeq (sRet (eTup (evs [(eVal (.str "op")), (eVar 6), (eCall C 41 4 (evs [(eVar 0), (eBin .Sub (eVar 1) (eVal (.int (1)))), (eVar 2), (eVar 3)])), (eCall C 41 4 (evs [(eVar 0), (eBin .Sub (eVar 1) (eVal (.int (1)))), (eVar 2), (eVar 3)]))]))) <|
    sNil) sNil) <|
  sSeq (sAsg' (eTup (evs [(eVal (.str "name")), (eIx (eVar 3) (eCall C 20 2 (evs [(eVar 0), (eB (one lenF) (evs [(eVar 3)]))])))])) (gN 5)) <|
  sSeq (sRet (eIf (tVal (eCmp .Eq (eVar 4) (eVal (.int (5))))) (eCall C 40 2 (evs [(eVar 5), (eVal (.str "m"))])) (eTup (evs [(eVal (.str "get")), (eVar 5), (eVal (.str "x"))])))) <|
  sNil)
theorem sem41 (C Cl : CT) : D.bs.sem f41.fn0 C Cl = s41 C Cl := by kernel_rfl
def s42 (C Cl : CT) : SS := (sSeq (sAsg' (eCall C 20 2 (evs [(eVar 0), (eVal (.int (5)))])) (gN 3)) <|
  sSeq (sIf (tAndS (tVal (eCmp .NotEq (eVar 2) (eLst (evs [])))) (tVal (eCmp .Eq (eVar 3) (eVal (.int (0)))))) (sSeq (sRet (eTup (evs [(eVal (.str "is")), (eTup (evs [(eVal (.str "name")), (eIx (eVar 2) (eCall C 20 2 (evs [(eVar 0), (eB (one lenF) (evs [(eVar 2)]))])))])), (eIx (eLst (evs [(eVal (.str "A")), (eVal (.str "B"))])) (eCall C 20 2 (evs [(eVar 0), (eVal (.int (2)))])))]))) <|
    sNil) sNil) <|
  sSeq (sAsg' (eIx (eLst (evs [(eVal (.str "<")), (eVal (.str "<=")), (eVal (.str "==")), (eVal (.str "!="))])) (eCall C 20 2 (evs [(eVar 0), (eVal (.int (4)))]))) (gN 4)) <|
  sSeq (sAsg' (eTup (evs [(eVal (.str "op")), (eVar 4), (eCall C 41 4 (evs [(eVar 0), (eVal (.int (1))), (eVar 1), (eVar 2)])), (eCall C 41 4 (evs [(eVar 0), (eVal (.int (1))), (eVar 1), (eVar 2)]))])) (gN 5)) <|
  sSeq (sIf (tVal (eCmp .Eq (eVar 3) (eVal (.int (1))))) (sSeq (sRet (eTup (evs [(eVal (.str "not")), (eVar 5)]))) <|
    sNil) sNil) <|
  sSeq (sIf (tVal (eCmp .Eq (eVar 3) (eVal (.int (2))))) (sSeq (sAsg' (eTup (evs [(eVal (.str "op")), (eVal (.str "<")), (eCall C 41 4 (evs [(eVar 0), (eVal (.int (1))), (eVar 1), (eVar 2)])), (eCall C 41 4 (evs [(eVar 0), (eVal (.int (1))), (eVar 1), (eVar 2)]))])) (gN 6)) <|
    sSeq (sRet (eTup (evs [(eVal (.str "op")), (eIx (eLst (evs [(eVal (.str "&&")), (eVal (.str "||"))])) (eCall C 20 2 (evs [(eVar 0), (eVal (.int (2)))]))), (eVar 5), (eVar 6)]))) <|
    sNil) sNil) <|
  sSeq (sRet (eVar 5)) <|
  sNil)
theorem sem42 (C Cl : CT) : D.bs.sem f42.fn0 C Cl = s42 C Cl := by kernel_rfl
def s43 (C Cl : CT) : SS := (sSeq (sPar 11 12 (evs [(eCall C 22 1 (evs [(eVal (.str "Int"))])), (eTup (evs [(eVal (.str "this"))]))])) <|
  sSeq (sAsg' (eTup (evs [(eVal (.str "put")), (eVar 12), (eVal (.str "x")), (eTup (evs [(eVal (.str "name")), (eVal (.str "p"))]))])) (gN 1)) <|
  sSeq (sAsg' (eTup (evs [(eVal (.str "op")), (eIx (eLst (evs [(eVal (.str "+")), (eVal (.str "*")), (eVal (.str "-"))])) (eCall C 20 2 (evs [(eVar 0), (eVal (.int (3)))]))), (eTup (evs [(eVal (.str "get")), (eVar 12), (eVal (.str "x"))])), (eTup (evs [(eVal (.str "num")), (eCall C 20 2 (evs [(eVar 0), (eVal (.int (6)))]))]))])) (gN 2)) <|
  sSeq (sAsg' (eIx (eLst (evs [(eVal (.non)), (eTup (evs [(eVal (.str "op")), (eVal (.str "<")), (eTup (evs [(eVal (.str "name")), (eVal (.str "n"))])), (eTup (evs [(eVal (.str "num")), (eCall C 20 2 (evs [(eVar 0), (eVal (.int (9)))]))]))]))])) (eCall C 20 2 (evs [(eVar 0), (eVal (.int (2)))]))) (gN 3)) <|
  sSeq (sAsg' (eIx (eLst (evs [(eVal (.non)), (eTup (evs [(eVal (.str "op")), (eVal (.str "<=")), (eTup (evs [(eVal (.str "num")), (eBin .Sub (eVal (.int (0))) (eVal (.int (30))))])), (eTup (evs [(eVal (.str "result"))]))]))])) (eCall C 20 2 (evs [(eVar 0), (eVal (.int (2)))]))) (gN 4)) <|
  sSeq (sAsg' (eTup (evs [(eVal (.str "return")), (eTup (evs [(eVal (.str "op")), (eVal (.str "+")), (eCall C 40 2 (evs [(eVar 12), (eVal (.str "m"))])), (eTup (evs [(eVal (.str "name")), (eVal (.str "n"))]))]))])) (gN 5)) <|
  sSeq (sAsg' (eTup (evs [(eTup (evs [(eVal (.str "m")), eNul, (eVar 11), (eVal (.non)), (eVal (.non)), (eTup (evs [(eTup (evs [(eVal (.str "return")), (eVar 2)]))]))])), (eTup (evs [(eVal (.str "s")), (eTup (evs [(eTup (evs [(eVal (.str "n")), (eVar 11)]))])), (eVar 11), (eVar 3), (eVar 4), (eTup (evs [(eVar 5)]))]))])) (gN 6)) <|
  sSeq (sAsg' (eTup (evs [(eVal (.str "class")), (eVal (.str "A")), eNul, (eVal (.non)), eNul, (eTup (evs [(eTup (evs [(eVal (.str "x")), (eVar 11), (eTup (evs [(eVal (.str "num")), (eCall C 20 2 (evs [(eVar 0), (eVal (.int (5)))]))]))]))])), (eTup (evs [(eTup (evs [(eTup (evs [(eVal (.str "p")), (eVar 11)]))])), (eTup (evs [(eVar 1)]))])), (eVar 6)])) (gN 7)) <|
  sSeq (sAsg' (eTup (evs [(eVal (.str "get")), (eVar 12), (eVal (.str "next"))])) (gN 8)) <|
  sSeq (sAsg' (eTup (evs [(eTup (evs [(eVal (.str "if")), (eTup (evs [(eVal (.str "op")), (eVal (.str "==")), (eVar 8), (eTup (evs [(eVal (.str "null"))]))])), (eTup (evs [(eTup (evs [(eVal (.str "return")), (eTup (evs [(eVal (.str "get")), (eVar 12), (eVal (.str "x"))]))]))])), eNul]))])) (gN 9)) <|
  sSeq (sAsg' (eBin .Add (eVar 9) (eTup (evs [(eTup (evs [(eVal (.str "return")), (eTup (evs [(eVal (.str "op")), (eVal (.str "^")), (eCall C 40 2 (evs [(eVar 8), (eVal (.str "m"))])), (eTup (evs [(eVal (.str "num")), (eVal (.int (7)))]))]))]))]))) (gN 9)) <|
  sSeq (sAsg' (eTup (evs [(eTup (evs [(eVal (.str "next")), (eCall C 22 1 (evs [(eVal (.str "A"))])), (eTup (evs [(eVal (.str "null"))]))]))])) (gN 10)) <|
  sSeq (sRet (eTup (evs [(eVar 7), (eTup (evs [(eVal (.str "class")), (eVal (.str "B")), eNul, (eCall C 22 1 (evs [(eVal (.str "A"))])), eNul, (eVar 10), (eTup (evs [(eTup (evs [(eTup (evs [(eVal (.str "p")), (eVar 11)]))])), (eTup (evs [(eVar 1)]))])), (eTup (evs [(eTup (evs [(eVal (.str "m")), eNul, (eVar 11), (eVal (.non)), (eVal (.non)), (eVar 9)]))]))]))]))) <|
  sNil)
theorem sem43 (C Cl : CT) : D.bs.sem f43.fn0 C Cl = s43 C Cl := by kernel_rfl
def s44 (C Cl : CT) : SS := (sSeq (sAsg' (eCall C 20 2 (evs [(eVar 0), (eVal (.int (5)))])) (gN 2)) <|
  sSeq (sIf (tVal (eCmp .Eq (eVar 2) (eVal (.int (4))))) (sSeq (sRet (eTup (evs [(eVal (.str "null"))]))) <|
    sNil) sNil) <|
  sSeq (sRet (eTup (evs [(eVal (.str "new")), (eCall C 22 1 (evs [(eIx (eLst (evs [(eVal (.str "A")), (eVal (.str "B"))])) (eBin .Mod (eVar 2) (eVal (.int (2)))))])), (eTup (evs [(eCall C 41 4 (evs [(eVar 0), (eVal (.int (1))), (eVar 1), (eLst (evs []))]))]))]))) <|
  sNil)
theorem sem44 (C Cl : CT) : D.bs.sem f44.fn0 C Cl = s44 C Cl := by kernel_rfl
def s45 (C Cl : CT) : SS := (sSeq (sAsg' (eCall C 22 1 (evs [(eVal (.str "Int"))])) (gN 1)) <|
  sSeq (sAsg' (eLst (evs [(eTup (evs [(eVal (.str "var")), (eVal (.str "a")), (eCall C 22 1 (evs [(eVal (.str "A"))])), (eCall C 44 2 (evs [(eVar 0), (eLst (evs []))]))])), (eTup (evs [(eVal (.str "var")), (eVal (.str "b")), (eCall C 22 1 (evs [(eVal (.str "A"))])), (eCall C 44 2 (evs [(eVar 0), (eLst (evs []))]))]))])) (gN 2)) <|
  sSeq (sDrop (eBm .append (eVar 2) (evs [(eTup (evs [(eVal (.str "var")), (eVal (.str "i")), (eVar 1), (eTup (evs [(eVal (.str "num")), (eVal (.int (0)))]))]))]))) <|
  sSeq (sAsg' (eTup (evs [(eTup (evs [(eVal (.str "set")), (eVal (.str "i")), (eTup (evs [(eVal (.str "op")), (eVal (.str "+")), (eTup (evs [(eVal (.str "name")), (eVal (.str "i"))])), (eTup (evs [(eVal (.str "num")), (eVal (.int (1)))]))]))]))])) (gN 3)) <|
  sSeq (sIf (tVal (eCmp .Eq (eCall C 20 2 (evs [(eVar 0), (eVal (.int (2)))])) (eVal (.int (0))))) (sSeq (sAsg' (eBin .Add (eVar 3) (eTup (evs [(eTup (evs [(eVal (.str "put")), (eTup (evs [(eVal (.str "name")), (eVal (.str "a"))])), (eVal (.str "x")), (eCall C 41 4 (evs [(eVar 0), (eVal (.int (1))), (eLst (evs [(eVal (.str "i"))])), (eLst (evs [(eVal (.str "b"))]))]))]))]))) (gN 3)) <|
    sNil) sNil) <|
  sSeq (sDrop (eBm .append (eVar 2) (evs [(eTup (evs [(eVal (.str "while")), (eTup (evs [(eVal (.str "op")), (eVal (.str "<")), (eTup (evs [(eVal (.str "name")), (eVal (.str "i"))])), (eTup (evs [(eVal (.str "num")), (eCall C 20 2 (evs [(eVar 0), (eVal (.int (3)))]))]))])), (eVar 3)]))]))) <|
  sSeq (sAsg' (eTup (evs [(eVal (.str "put")), (eTup (evs [(eVal (.str "as")), (eTup (evs [(eVal (.str "name")), (eVal (.str "b"))])), (eCall C 22 1 (evs [(eVal (.str "B"))]))])), (eVal (.str "next")), (eTup (evs [(eVal (.str "name")), (eVal (.str "a"))]))])) (gN 4)) <|
  sSeq (sDrop (eBm .append (eVar 2) (evs [(eTup (evs [(eVal (.str "if")), (eTup (evs [(eVal (.str "is")), (eTup (evs [(eVal (.str "name")), (eVal (.str "b"))])), (eVal (.str "B"))])), (eTup (evs [(eVar 4)])), eNul]))]))) <|
  sSeq (sAsg' (eCall C 41 4 (evs [(eVar 0), (eVal (.int (2))), (eLst (evs [(eVal (.str "i"))])), (eLst (evs [(eVal (.str "a")), (eVal (.str "b"))]))])) (gN 5)) <|
  sSeq (sIf (tVal (eCmp .Eq (eCall C 20 2 (evs [(eVar 0), (eVal (.int (3)))])) (eVal (.int (0))))) (sSeq (sAsg' (eTup (evs [(eVal (.str "call")), (eTup (evs [(eVal (.str "name")), (eVal (.str "a"))])), (eVal (.str "s")), (eTup (evs [(eVar 5)]))])) (gN 5)) <|
    sNil) sNil) <|
  sSeq (sDrop (eBm .append (eVar 2) (evs [(eTup (evs [(eVal (.str "if")), (eCall C 42 3 (evs [(eVar 0), (eLst (evs [(eVal (.str "i"))])), (eLst (evs [(eVal (.str "a")), (eVal (.str "b"))]))])), (eTup (evs [(eTup (evs [(eVal (.str "return")), (eVar 5)]))])), eNul]))]))) <|
  sSeq (sRet (eBin .Add (eB (one tupleF) (evs [(eVar 2)])) (eTup (evs [(eTup (evs [(eVal (.str "return")), (eCall C 41 4 (evs [(eVar 0), (eVal (.int (1))), (eLst (evs [(eVal (.str "i"))])), (eLst (evs [(eVal (.str "a")), (eVal (.str "b"))]))]))]))])))) <|
  sNil)
theorem sem45 (C Cl : CT) : D.bs.sem f45.fn0 C Cl = s45 C Cl := by kernel_rfl
def s46 (C Cl : CT) : SS := (sSeq (sForA 2000 true .keys (eCall C 21 2 (evs [(eVar 0), (eVal (.int (1)))])) (.nm 1) (sSeq (sAsgP (eTup (evs [(eMake C 9 1 2 (evs [(eCall C 43 1 (evs [(eVar 1)]))])), (eCall C 45 1 (evs [(eVar 1)]))])) (.tp [(.nm 5), (.nm 6)])) <|
    sSeq (sDrop (eCall C 39 1 (evs [(eVar 5)]))) <|
    sSeq (sDrop (eCall C 38 2 (evs [(eVar 5), (eVar 6)]))) <|
    sSeq (sPar3 7 8 9 (evs [(eTup (evs [(eVal (.str "num")), (eVal (.int (1)))])), (eTup (evs [(eVal (.str "truth")), (eVal (.bl true))])), (eTup (evs [(eVal (.str "name")), (eVal (.str "z"))]))])) <|
    sSeq (sPar 10 11 (evs [(eTup (evs [(eVal (.str "var")), (eVal (.str "z")), (eVal (.tup [.str "own", .str "Int", .tup []])), (eVal (.non))])), (eTup (evs [(eVal (.str "return")), (eTup (evs [(eVal (.str "name")), (eVal (.str "z"))]))]))])) <|
    sSeq (sAsg' (eLst (evs [(eTup (evs [(eSl (eVar 6) none (some (eBin .Sub (eB (one lenF) (evs [(eVar 6)])) (eVal (.int (1)))))), (eVal (.str "unset"))])), (eTup (evs [(eBin .Add (eVar 6) (eTup (evs [(eVar 11)]))), (eVal (.str "unset"))])), (eTup (evs [(eBin .Add (eSl (eVar 6) none (some (eVal (.int (1))))) (eVar 6)), (eVal (.str "name"))])), (eTup (evs [(eTup (evs [(eVar 11)])), (eVal (.str "name"))])), (eTup (evs [(eTup (evs [(eVar 10), (eVar 11)])), (eVal (.str "unset"))])), (eTup (evs [(eTup (evs [(eVar 10), (eTup (evs [(eVal (.str "if")), (eVar 8), (eTup (evs [(eTup (evs [(eVal (.str "set")), (eVal (.str "z")), (eVar 7)]))])), eNul])), (eVar 11)])), (eVal (.str "unset"))])), (eTup (evs [(eTup (evs [(eVar 10), (eTup (evs [(eVal (.str "while")), (eVar 8), (eTup (evs [(eTup (evs [(eVal (.str "set")), (eVal (.str "z")), (eVar 7)]))]))])), (eVar 11)])), (eVal (.str "unset"))])), (eTup (evs [(eTup (evs [(eVar 10), (eTup (evs [(eVal (.str "set")), (eVal (.str "z")), (eVar 8)])), (eVar 11)])), (eVal (.str "kind"))])), (eTup (evs [(eTup (evs [(eTup (evs [(eVal (.str "return")), (eVar 8)]))])), (eVal (.str "kind"))])), (eTup (evs [(eTup (evs [(eTup (evs [(eVal (.str "return")), (eTup (evs [(eVal (.str "op")), (eVal (.str "+")), (eVar 8), (eVar 7)]))]))])), (eVal (.str "kind"))])), (eTup (evs [(eTup (evs [(eTup (evs [(eVal (.str "if")), (eVar 7), eNul, eNul])), (eTup (evs [(eVal (.str "return")), (eVar 7)]))])), (eVal (.str "kind"))])), (eTup (evs [(eTup (evs [(eTup (evs [(eVal (.str "do")), (eTup (evs [(eVal (.str "new")), (eCall C 22 1 (evs [(eVal (.str "A"))])), eNul]))])), (eTup (evs [(eVal (.str "return")), (eVar 7)]))])), (eVal (.str "name"))])), (eTup (evs [(eTup (evs [(eTup (evs [(eVal (.str "do")), (eTup (evs [(eVal (.str "new")), (eCall C 22 1 (evs [(eVal (.str "Z"))])), eNul]))])), (eTup (evs [(eVal (.str "return")), (eVar 7)]))])), (eVal (.str "name"))])), (eTup (evs [(eTup (evs [(eTup (evs [(eVal (.str "var")), (eVal (.str "z")), (eCall C 22 1 (evs [(eVal (.str "B"))])), (eTup (evs [(eVal (.str "new")), (eCall C 22 1 (evs [(eVal (.str "A"))])), (eTup (evs [(eVar 7)]))]))])), (eTup (evs [(eVal (.str "return")), (eVar 7)]))])), (eVal (.str "kind"))])), (eTup (evs [(eTup (evs [(eTup (evs [(eVal (.str "do")), (eTup (evs [(eVal (.str "this"))]))])), (eTup (evs [(eVal (.str "return")), (eVar 7)]))])), (eVal (.str "name"))])), (eTup (evs [(eTup (evs [(eTup (evs [(eVal (.str "do")), (eTup (evs [(eVal (.str "get")), (eVar 7), (eVal (.str "x"))]))])), (eTup (evs [(eVal (.str "return")), (eVar 7)]))])), (eVal (.str "kind"))])), (eTup (evs [(eTup (evs [(eTup (evs [(eVal (.str "do")), (eTup (evs [(eVal (.str "get")), (eTup (evs [(eVal (.str "new")), (eCall C 22 1 (evs [(eVal (.str "A"))])), (eTup (evs [(eVar 7)]))])), (eVal (.str "y"))]))])), (eTup (evs [(eVal (.str "return")), (eVar 7)]))])), (eVal (.str "name"))])), (eTup (evs [(eTup (evs [(eTup (evs [(eVal (.str "do")), (eTup (evs [(eVal (.str "result"))]))])), (eTup (evs [(eVal (.str "return")), (eVar 7)]))])), (eVal (.str "name"))]))])) (gN 2)) <|
    sSeq (sAsg' (eCall C 20 2 (evs [(eVar 1), (eB (one lenF) (evs [(eVar 2)]))])) (gN 3)) <|
    sSeq (sForA 2000 true .keys (eLst (evs [(eIx (eVar 2) (eVar 3)), (eIx (eVar 2) (eBin .Mod (eBin .Add (eVar 3) (eVal (.int (7)))) (eB (one lenF) (evs [(eVar 2)])))), (eIx (eVar 2) (eBin .Mod (eBin .Add (eVar 3) (eVal (.int (11)))) (eB (one lenF) (evs [(eVar 2)]))))])) (.tp [(.nm 12), (.nm 13)]) (sSeq (sIf (tVal (eCmp .NotEq (eTold D.bs.ex 2 [⟨1, none, .ret (.str "text")⟩, ⟨2, none, .ret (.str "name")⟩, ⟨3, none, .ret (.str "kind")⟩, ⟨4, none, .ret (.str "unset")⟩, ⟨5, some 1, .ret (.fld "why")⟩, ⟨6, none, .ret (.str "program")⟩, ⟨7, none, .ret (.str "long")⟩, ⟨8, none, .ret (.str "large")⟩] (eCall Cl 38 2 (evs [(eVar 5), (eVar 12)]))) (eVar 13))) (sSeq (sRet (eVal (.bl false))) <|
        sNil) sNil) <|
      sNil)) <|
    sSeq (sAsg' (eTup (evs [(eVar 10), (eTup (evs [(eVal (.str "if")), (eCall C 42 3 (evs [(eVar 1), (eLst (evs [])), (eLst (evs []))])), (eTup (evs [(eTup (evs [(eVal (.str "set")), (eVal (.str "z")), (eVar 7)]))])), (eTup (evs [(eTup (evs [(eVal (.str "set")), (eVal (.str "z")), (eTup (evs [(eVal (.str "num")), (eVal (.int (2)))]))]))]))])), (eVar 11)])) (gN 4)) <|
    sSeq (sDrop (eCall C 38 2 (evs [(eVar 5), (eVar 4)]))) <|
    sSeq (sDrop (eCall C 38 2 (evs [(eVar 5), (eTup (evs [(eTup (evs [(eVal (.str "var")), (eVal (.str "z")), (eCall C 22 1 (evs [(eVal (.str "A"))])), (eTup (evs [(eVal (.str "new")), (eCall C 22 1 (evs [(eVal (.str "B"))])), (eTup (evs [(eVar 7)]))]))])), (eTup (evs [(eVal (.str "return")), (eCall C 40 2 (evs [(eVar 9), (eVal (.str "m"))]))]))]))]))) <|
    sSeq (sDrop (eCall C 38 2 (evs [(eVar 5), (eTup (evs [(eTup (evs [(eVal (.str "var")), (eVal (.str "t")), (eVal (.tup [.str "own", .str "Bool", .tup []])), (eTup (evs [(eVal (.str "op")), (eVal (.str "==")), (eTup (evs [(eVal (.str "null"))])), (eTup (evs [(eVal (.str "new")), (eCall C 22 1 (evs [(eVal (.str "B"))])), (eTup (evs [(eVar 7)]))]))]))])), (eTup (evs [(eVal (.str "return")), (eVar 7)]))]))]))) <|
    sNil)) <|
  sSeq (sRet (eVal (.bl true))) <|
  sNil)
theorem sem46 (C Cl : CT) : D.bs.sem f46.fn0 C Cl = s46 C Cl := by kernel_rfl
end K07
set_option Elab.async false
set_option linter.all false
set_option maxRecDepth 100000
set_option maxHeartbeats 0
/-! NA: k07: the two rows; what the classes' functions give, by closed runs. -/
namespace DD
open PySem PySem.Spec PyProof.Rows L2
/-- what a closed run comes to -/
inductive OR where
  | val (w : PV) | new (o : Option Ob) | exc (c : Nat) (fs : List (Str × PV)) | bad
def obsR (n : Nat) : Res PV → OR × List (Option Ob)
  | .ok (.obj m) h => (if n ≤ m then .new (h.get m) else .bad, (List.range n).map h.get)
  | .ok w h => (.val w, (List.range n).map h.get)
  | .exc c fs h => (.exc c fs, (List.range n).map h.get)
  | .bad => (.bad, [])
theorem kept {n : Nat} {os : List Ob} {h : Hh} (e : (List.range n).map h.get = os.map some) (hn : os.length = n) : ∀ i, i < os.length → h.get i = os[i]? := fun i hi => by
  have := congrArg (·[i]?) e
  simp only [List.getElem?_map] at this
  rw [List.getElem?_range (by omega), List.getElem?_eq_getElem hi] at this
  rw [List.getElem?_eq_getElem hi]
  simpa using this
theorem obs_val {h : Hh} {φ : List Nat} {os : List Ob} (F : Fit h φ os) {r : Res PV} {w : PV} (e : obsR os.length r = (.val w, os.map some)) (p : pureB w = true) : RnR h φ r (.ok w h) := by
  cases r with
  | ok v g =>
    have k : obsR os.length (.ok v g) = (.val w, os.map some) → v = w ∧ (List.range os.length).map g.get = os.map some := by
      cases v <;> simp [obsR]
      split <;> simp
    obtain ⟨rfl, k2⟩ := k e
    exact RnR.same F p (kept k2 rfl)
  | exc c fs g => simp [obsR] at e
  | bad => simp [obsR] at e
theorem obs_new {h : Hh} {φ : List Nat} {os : List Ob} (F : Fit h φ os) {r : Res PV} {o : Ob} (e : obsR os.length r = (.new (some o), os.map some)) (p : pureO o = true) : RnR h φ r (.ok (.obj h.n) (h.push o)) := by
  cases r with
  | ok v g =>
    have k : obsR os.length (.ok v g) = (.new (some o), os.map some) → ∃ m, v = .obj m ∧ os.length ≤ m ∧ g.get m = some o ∧ (List.range os.length).map g.get = os.map some := by
      cases v with
      | obj m =>
        simp only [obsR]
        split
        · rename_i l
          intro e
          simp only [Prod.mk.injEq, OR.new.injEq] at e
          exact ⟨m, rfl, l, e.1, e.2⟩
        · intro e; simp at e
      | _ => simp [obsR]
    obtain ⟨m, rfl, l, g1, k2⟩ := k e
    exact RnR.new F p (kept k2 rfl) l g1
  | exc c fs g => simp [obsR] at e
  | bad => simp [obsR] at e
theorem obs_exc {h : Hh} {φ : List Nat} {os : List Ob} (F : Fit h φ os) {r : Res PV} {c : Nat} {fs : List (Str × PV)} (e : obsR os.length r = (.exc c fs, os.map some)) (p : pureF fs = true) : RnR h φ r (.exc c fs h) := by
  cases r with
  | ok v g => cases v <;> simp [obsR] at e; split at e <;> simp at e
  | exc c' fs' g =>
    simp only [obsR, Prod.mk.injEq, OR.exc.injEq] at e
    obtain ⟨⟨rfl, rfl⟩, k2⟩ := e
    exact RnR.sameX F p (kept k2 rfl)
  | bad => simp [obsR] at e
mutual
def beqP : PV → PV → Bool
  | .non, .non => true
  | .bl a, .bl b => a == b
  | .int a, .int b => decide (a = b)
  | .str a, .str b => decide (a = b)
  | .tup a, .tup b => beqPs a b
  | _, _ => false
def beqPs : List PV → List PV → Bool
  | [], [] => true
  | a :: x, b :: y => beqP a b && beqPs x y
  | _, _ => false
end
mutual
theorem beqP_eq : ∀ {x y : PV}, beqP x y = true → x = y
  | .non, y, e => by cases y <;> simp [beqP] at e; rfl
  | .bl a, y, e => by cases y <;> simp [beqP] at e; rw [e]
  | .int a, y, e => by cases y <;> simp [beqP] at e; rw [e]
  | .str a, y, e => by cases y <;> simp [beqP] at e; rw [e]
  | .tup a, y, e => by
    cases y <;> simp [beqP] at e
    rw [beqPs_eq e]
  | .unk _, y, e => by cases y <;> simp [beqP] at e
  | .obj _, y, e => by cases y <;> simp [beqP] at e
  | .exn _ _, y, e => by cases y <;> simp [beqP] at e
theorem beqPs_eq : ∀ {x y : List PV}, beqPs x y = true → x = y
  | [], y, e => by cases y <;> simp [beqPs] at e; rfl
  | a :: x, y, e => by
    cases y <;> simp [beqPs] at e
    rw [beqP_eq e.1, beqPs_eq e.2]
end
/-- what stands behind the arguments -/
def gOf (cs : List (List PV × OR)) (args : List PV) : Option OR := (cs.find? fun p => beqPs p.1 args).map (·.2)
theorem gOf_mem {cs : List (List PV × OR)} {args : List PV} {o : OR} (h : gOf cs args = some o) : (args, o) ∈ cs := by
  unfold gOf at h
  cases e : cs.find? fun p => beqPs p.1 args with
  | none => rw [e] at h; cases h
  | some p =>
    rw [e] at h
    cases h
    have a := List.mem_of_find?_eq_some e
    have b := List.find?_some e
    rw [← beqPs_eq b]
    exact a
def OR.res : OR → Hh → Res PV
  | .val w, h => .ok w h
  | .new (some o), h => .ok (.obj h.n) (h.push o)
  | .exc c fs, h => .exc c fs h
  | _, _ => .bad
def OR.plain : OR → Bool
  | .val w => pureB w
  | .new (some o) => pureO o
  | .exc _ fs => pureF fs
  | _ => false
theorem obs_ok {h : Hh} {φ : List Nat} {os : List Ob} (F : Fit h φ os) {r : Res PV} {o : OR} (e : obsR os.length r = (o, os.map some)) (p : o.plain = true) : RnR h φ r (o.res h) := by
  match o, p with
  | .val w, p => exact obs_val F e p
  | .new (some o), p => exact obs_new F e p
  | .exc c fs, p => exact obs_exc F e p
section
variable {P : Program} {w : World} {K : PySem.W.Frag} {mg : Str → Option Value} {base : Heap} {ca fa : Nat → Addr} {B : Bs}
open Classical in
/-- a function that is run as it stands, or keeps a word where the word says something -/
noncomputable def FPor (W : Wd) (F : List PV → Hh → Res PV) : List PV → Hh → Res PV := fun ws h => if ∃ r, W ws h r then FP W ws h else F ws h
theorem FPor_word {W : Wd} {F : List PV → Hh → Res PV} {ws : List PV} {h : Hh} {r : Res PV} (f : ∀ r', W ws h r' → r' = r) (p : W ws h r) : FPor W F ws h = r := by
  unfold FPor
  rw [if_pos ⟨r, p⟩]
  exact FP_of f p
theorem FPor_run {W : Wd} {F : List PV → Hh → Res PV} {ws : List PV} {h : Hh} (f : ∀ r, ¬ W ws h r) : FPor W F ws h = F ws h := by
  unfold FPor
  rw [if_neg fun ⟨r, p⟩ => f r p]
theorem or_ok (S : Sta P w K mg base ca fa B) {U : Ups} {k id : Nat} {f : Fn0} (hT : B.T id = some f) {W : Wd} {G : Ups → Prop} {C Cl C2 Cl2 : CT} (hU : G U) (hC : CtOk P w K mg base ca fa B G C k)
    (hl : (∀ x n hs, B.gl x ≠ .told n hs) ∨ ∃ k', k = k' + 2 ∧ CtOk P w K mg base ca fa B G Cl k') (hC2 : CtOk P w K mg base ca fa B G C2 k)
    (hl2 : (∀ x n hs, B.gl x ≠ .told n hs) ∨ ∃ k', k = k' + 2 ∧ CtOk P w K mg base ca fa B G Cl2 k')
    (hW : ∀ ws h r, W ws h r → ∃ φ os ws', Fit h φ os ∧ Rns (fun i j : Nat => φ[i]? = some j) ws' ws ∧ RnR h φ (runF (B.sem f C Cl) f.N ws' (mkH os)) r) : FnGood P w K mg base ca fa U (k + 2) id f (FPor W (runF (B.sem f C2 Cl2) f.N)) :=
  step_ok S hT fun ws h ρ H vs Q E R r x => by
    by_cases q : ∃ r, W ws h r
    · unfold FPor at x
      rw [if_pos q] at x
      rcases FP_cases W ws h with e | p
      · rw [e] at x; exact x.elim
      · obtain ⟨φ, os, ws', F, rn, rr⟩ := hW ws h _ p
        have R' := R.sub F.lt F.nd (h' := mkH os) (by rw [mkH_n, F.len]) fun i j e => by
          obtain ⟨o', o, a, b, c⟩ := F.at_ i j e
          exact ⟨o', o, by rw [mkH_get]; exact a, b, c⟩
        exact ⟨U, G, C, Cl, hU, hC, hl, subR ρ φ, ws', mkH os, R', (rn.rv (fun i j e a => subR_at R F.lt e a) vs).mpr r, rr.wf R F.lt F.nd x⟩
    · unfold FPor at x
      rw [if_neg q] at x
      exact ⟨U, G, C2, Cl2, hU, hC2, hl2, ρ, ws, h, R, r, x⟩
end
end DD
namespace K07
open PySem PySem.Spec PyProof.Rows L2 DD
def kd (x : Str) : PV := .tup [.str "own", .str x, .tup []]
def NUL : PV := .tup [.str "null"]
/-- the two rows: their bodies, numbers and contracts are left open -/
structure Rw where
  mi : PV
  be : PV
  af : PV
  zt : PV
def setX : PV := .tup [.str "put", .tup [.str "this"], .str "x", .tup [.str "name", .str "p"]]
def stepS : PV := .tup [.str "return", .tup [.str "op", .str "+", .tup [.str "call", .tup [.str "this"], .str "m", .tup []], .tup [.str "name", .str "n"]]]
def newM : PV := .tup [.tup [.tup [.str "p", kd "Int"]], .tup [setX]]
def rowA (R : Rw) : PV := .tup [.str "class", .str "A", .tup [], .non, .tup [], .tup [.tup [.str "x", kd "Int", R.zt]], newM,
  .tup [.tup [.str "m", .tup [], kd "Int", .non, .non, .tup [.tup [.str "return", R.mi]]], .tup [.str "s", .tup [.tup [.str "n", kd "Int"]], kd "Int", R.be, R.af, .tup [stepS]]]]
def getN : PV := .tup [.str "get", .tup [.str "this"], .str "next"]
def stepsB : PV := .tup [.tup [.str "if", .tup [.str "op", .str "==", getN, NUL], .tup [.tup [.str "return", .tup [.str "get", .tup [.str "this"], .str "x"]]], .tup []],
  .tup [.str "return", .tup [.str "op", .str "^", .tup [.str "call", getN, .str "m", .tup []], .tup [.str "num", .int 7]]]]
def rowB : PV := .tup [.str "class", .str "B", .tup [], kd "A", .tup [], .tup [.tup [.str "next", kd "A", NUL]], newM,
  .tup [.tup [.str "m", .tup [], kd "Int", .non, .non, stepsB]]]
def rowsD (R : Rw) : List (Key × PV) := [(.inr "A", rowA R), (.inr "B", rowB)]
def oI : Ob := .ins 9 [("rows", .obj 1)]
def oR (R : Rw) : List Ob := [oI, .dct (rowsD R)]
def cl (id : Nat) (ws : List PV) (h : Hh) : Res PV := D.bs.step (D.bs.call 24) (D.bs.call 23) id ws h
theorem cl_eq {id : Nat} {f : FD} (hT : D.bs.T id = some f.fn0) (ws : List PV) (h : Hh) : cl id ws h = runF (D.bs.sem f.fn0 (D.bs.call 24) (D.bs.call 23)) f.fn0.N ws h := by
  unfold cl Bs.step
  rw [hT]
def headsA : List (Key × PV) := [(.inr "m", .tup [.tup [], kd "Int", .str "A"]), (.inr "s", .tup [.tup [kd "Int"], kd "Int", .str "A"])]
def headsB : List (Key × PV) := [(.inr "m", .tup [.tup [], kd "Int", .str "B"]), (.inr "s", .tup [.tup [kd "Int"], kd "Int", .str "A"])]
end K07
set_option Elab.async false
set_option linter.all false
set_option maxRecDepth 100000
set_option maxHeartbeats 400000
/-! NB: k07: words of the classes' functions at the two rows. -/
namespace K07
open PySem PySem.Spec PyProof.Rows L2 DD
def plainR (R : Rw) : Bool := pureB R.mi && pureB R.be && pureB R.af && pureB R.zt
theorem plain_rows {R : Rw} (p : plainR R = true) : pureF (rowsD R) = true := by
  unfold plainR at p
  simp only [Bool.and_eq_true] at p
  obtain ⟨⟨⟨a, b⟩, c⟩, d⟩ := p
  have eB : pureB rowB = true := by rfl
  have eN : pureB newM = true := by rfl
  have eS : pureB stepS = true := by rfl
  have eK : pureB (kd "Int") = true := by rfl
  have eA : pureB (rowA R) = true := by
    unfold rowA
    simp [pureB, puresB, a, b, c, d, eN, eS, eK]
  show (pureB (rowA R) && (pureB rowB && true)) = true
  rw [eA, eB]
  rfl
def CL (h : Hh) (s : Nat) (R : Rw) : Prop := ∃ d, h.get s = some (.ins 9 [("rows", .obj d)]) ∧ h.get d = some (.dct (rowsD R)) ∧ plainR R = true
theorem CL.keep {h h2 : Hh} {s : Nat} {R : Rw} (c : CL h s R) (k : ∀ (i : Nat) (o : Ob), h.get i = some o → h2.get i = some o) : CL h2 s R := by
  obtain ⟨d, a, b, p⟩ := c
  exact ⟨d, k _ _ a, k _ _ b, p⟩
theorem rows_inj {R R2 : Rw} (e : rowsD R = rowsD R2) : R = R2 := by
  obtain ⟨a, b, c, d⟩ := R
  obtain ⟨a2, b2, c2, d2⟩ := R2
  simp [rowsD, rowA] at e
  simp [e]
theorem CL.uniq {h : Hh} {s : Nat} {R R2 : Rw} (a : CL h s R) (b : CL h s R2) : R = R2 := by
  obtain ⟨d, e1, e2, _⟩ := a
  obtain ⟨d2, f1, f2, _⟩ := b
  rw [e1] at f1
  simp at f1
  subst f1
  rw [e2] at f2
  simp at f2
  exact rows_inj f2
theorem fit_cl {h : Hh} {s d : Nat} {R : Rw} (a : h.get s = some (.ins 9 [("rows", .obj d)])) (b : h.get d = some (.dct (rowsD R))) (p : plainR R = true) : Fit h [s, d] (oR R) := by
  have ne : s ≠ d := fun z => by rw [z, b] at a; cases a
  refine ⟨rfl, by simp [ne], fun i j q => ?_⟩
  match i, q with
  | 0, q =>
    have q : s = j := by simpa using q
    subst q
    exact ⟨_, _, rfl, a, [("rows", .obj d)], rfl, .obj d, [], rfl, by unfold Rn; exact ⟨d, rfl, rfl⟩, rfl⟩
  | 1, q =>
    have q : d = j := by simpa using q
    subst q
    exact ⟨_, _, rfl, b, RnO.pure (by exact plain_rows p)⟩
theorem fit_clh {h : Hh} {s d e : Nat} {R : Rw} (a : h.get s = some (.ins 9 [("rows", .obj d)])) (b : h.get d = some (.dct (rowsD R))) (p : plainR R = true) (c : h.get e = some (.dct [])) : Fit h [s, d, e] (oR R ++ [.dct []]) := by
  have F := fit_cl a b p
  have n1 : s ≠ e := fun z => by rw [z, c] at a; cases a
  have n2 : d ≠ e := fun z => by rw [z, c] at b; cases b
  have n0 : s ≠ d := fun z => by rw [z, b] at a; cases a
  refine ⟨rfl, by simp [n0, n1, n2], fun i j q => ?_⟩
  match i, q with
  | 0, q =>
    have q : s = j := by simpa using q
    subst q
    exact ⟨_, _, rfl, a, [("rows", .obj d)], rfl, .obj d, [], rfl, by unfold Rn; exact ⟨d, rfl, rfl⟩, rfl⟩
  | 1, q =>
    have q : d = j := by simpa using q
    subst q
    exact ⟨_, _, rfl, b, RnO.pure (by exact plain_rows p)⟩
  | 2, q =>
    have q : e = j := by simpa using q
    subst q
    exact ⟨_, _, rfl, c, [], rfl, rfl⟩
/-- methods of the classes at the two rows -/
def WC (PR : Rw → Prop) (cs : List (List PV × OR)) : Wd := fun ws h r => ∃ s R args o, ws = .obj s :: args ∧ CL h s R ∧ PR R ∧ gOf cs args = some o ∧ r = o.res h
theorem WC_fn {PR : Rw → Prop} {cs : List (List PV × OR)} {ws : List PV} {h : Hh} {r r' : Res PV} (a : WC PR cs ws h r) (b : WC PR cs ws h r') : r' = r := by
  obtain ⟨s, R, args, o, e1, _, _, e2, e3⟩ := a
  obtain ⟨s', R', args', o', f1, _, _, f2, f3⟩ := b
  rw [e1] at f1
  simp only [List.cons.injEq] at f1
  rw [← f1.2, e2] at f2
  rw [f3, e3, Option.some.inj f2]
theorem WC_call {PR : Rw → Prop} {cs : List (List PV × OR)} {h : Hh} {s : Nat} {R : Rw} {args : List PV} {o : OR} (c : CL h s R) (p : PR R) (e : gOf cs args = some o) : FP (WC PR cs) (.obj s :: args) h = o.res h :=
  have w : WC PR cs (.obj s :: args) h (o.res h) := ⟨s, R, args, o, rfl, c, p, e, rfl⟩
  FP_of (fun r' q => WC_fn w q) w
/-- those that are handed an empty table behind -/
def WCh (cs : List (List PV × OR)) : Wd := fun ws h r => ∃ s R args e o, ws = .obj s :: (args ++ [.obj e]) ∧ CL h s R ∧ h.get e = some (.dct []) ∧ gOf cs args = some o ∧ r = o.res h
theorem WCh_call {cs : List (List PV × OR)} {h : Hh} {s e : Nat} {R : Rw} {args : List PV} {o : OR} (c : CL h s R) (he : h.get e = some (.dct [])) (g : gOf cs args = some o) : FP (WCh cs) (.obj s :: (args ++ [.obj e])) h = o.res h :=
  FP_of (fun r' ⟨s', R', args', e', o', f1, _, _, f2, f3⟩ => by
    simp only [List.cons.injEq] at f1
    have := List.append_inj_left' f1.2 rfl
    rw [← this, g] at f2
    rw [f3, Option.some.inj f2]) ⟨s, R, args, e, o, rfl, c, he, g, rfl⟩
/-- put with an empty table -/
def Wput (cs : List (List PV × OR)) : Wd := fun ws h r => ∃ args e o, ws = args ++ [.obj e] ∧ h.get e = some (.dct []) ∧ gOf cs args = some o ∧ r = o.res h
theorem Wput_call {cs : List (List PV × OR)} {h : Hh} {e : Nat} {args : List PV} {o : OR} (he : h.get e = some (.dct [])) (g : gOf cs args = some o) : FP (Wput cs) (args ++ [.obj e]) h = o.res h :=
  FP_of (fun r' ⟨args', e', o', f1, _, f2, f3⟩ => by
    have := List.append_inj_left' f1 rfl
    rw [← this, g] at f2
    rw [f3, Option.some.inj f2]) ⟨args, e, o, rfl, he, g, rfl⟩
theorem map_all {α β : Type} {f g : α → β} : ∀ {l : List α}, l.map f = l.map g → ∀ x ∈ l, f x = g x
  | a :: l, e, x, hx => by
    rw [List.map_cons, List.map_cons, List.cons.injEq] at e
    rcases List.mem_cons.mp hx with rfl | q
    · exact e.1
    · exact map_all e.2 x q
def okC (cs : List (List PV × OR)) : Bool := cs.all fun p => puresB p.1 && p.2.plain
theorem okC_at {cs : List (List PV × OR)} (h : okC cs = true) {p : List PV × OR} (q : p ∈ cs) : puresB p.1 = true ∧ p.2.plain = true := by
  have := List.all_eq_true.mp h p q
  rwa [Bool.and_eq_true] at this
section
variable {P : Program} {w : World} {K : PySem.W.Frag} {mg : Str → Option Value} {base : Heap} {ca fa : Nat → Addr}
theorem rns_self {Φ : Nat → Nat → Prop} {s : Nat} {args : List PV} (a : Φ 0 s) (p : puresB args = true) : Rns Φ (.obj 0 :: args) (.obj s :: args) := by
  unfold Rns
  exact ⟨.obj s, args, rfl, by unfold Rn; exact ⟨s, a, rfl⟩, Rns.pure p⟩
theorem rns_last {Φ : Nat → Nat → Prop} {j e : Nat} (a : Φ j e) : ∀ {args : List PV}, puresB args = true → Rns Φ (args ++ [.obj j]) (args ++ [.obj e])
  | [], _ => by
    show Rns Φ [.obj j] [.obj e]
    unfold Rns
    exact ⟨.obj e, [], rfl, by unfold Rn; exact ⟨e, a, rfl⟩, by unfold Rns; rfl⟩
  | x :: args, p => by
    have p : (pureB x && puresB args) = true := by simpa [puresB] using p
    rw [Bool.and_eq_true] at p
    show Rns Φ (x :: (args ++ [.obj j])) (x :: (args ++ [.obj e]))
    unfold Rns
    exact ⟨x, _, rfl, Rn.pure p.1, rns_last a p.2⟩
theorem wc_hW {PR : Rw → Prop} {id : Nat} {f : FD} (hT : D.bs.T id = some f.fn0) {cs : List (List PV × OR)} (hp : okC cs = true)
    (hc : ∀ R, PR R → cs.map (fun p => obsR 2 (cl id (.obj 0 :: p.1) (mkH (oR R)))) = cs.map (fun p => (p.2, (oR R).map some))) :
    ∀ ws h r, WC PR cs ws h r → ∃ φ os ws', Fit h φ os ∧ Rns (fun i j : Nat => φ[i]? = some j) ws' ws ∧ RnR h φ (runF (D.bs.sem f.fn0 (D.bs.call 24) (D.bs.call 23)) f.fn0.N ws' (mkH os)) r := fun ws h r ⟨s, R, args, o, e1, ⟨d, a, b, p⟩, pr, e2, e3⟩ => by
    subst e1 e3
    have m := gOf_mem e2
    have q := okC_at hp m
    have F := fit_cl a b p
    refine ⟨[s, d], oR R, .obj 0 :: args, F, rns_self rfl q.1, ?_⟩
    rw [← cl_eq hT]
    exact obs_ok F (map_all (hc R pr) _ m) q.2
theorem c11 (S : Sta P w K mg base ca fa D.bs) : CtOk P w K mg base ca fa D.bs (fun _ => True) (D.bs.call 24) 50 := (ctok_call S (fun _ => True) 24).1
theorem c10 (S : Sta P w K mg base ca fa D.bs) : CtOk P w K mg base ca fa D.bs (fun _ => True) (D.bs.call 23) 48 := (ctok_call S (fun _ => True) 23).1
theorem wc_ok (S : Sta P w K mg base ca fa D.bs) {U : Ups} {PR : Rw → Prop} {id : Nat} {f : FD} (hT : D.bs.T id = some f.fn0) {cs : List (List PV × OR)} (hp : okC cs = true)
    (hc : ∀ R, PR R → cs.map (fun p => obsR 2 (cl id (.obj 0 :: p.1) (mkH (oR R)))) = cs.map (fun p => (p.2, (oR R).map some))) : FnGood P w K mg base ca fa U 52 id f.fn0 (FP (WC PR cs)) :=
  word_ok S hT (G := fun _ => True) True.intro (C := D.bs.call 24) (Cl := D.bs.call 23) (c11 S) (.inr ⟨48, rfl, c10 S⟩) (wc_hW hT hp hc)
theorem wch_ok (S : Sta P w K mg base ca fa D.bs) {U : Ups} {id : Nat} {f : FD} (hT : D.bs.T id = some f.fn0) {cs : List (List PV × OR)} (hp : okC cs = true)
    (hc : ∀ R, cs.map (fun p => obsR 3 (cl id (.obj 0 :: (p.1 ++ [.obj 2])) (mkH (oR R ++ [.dct []])))) = cs.map (fun p => (p.2, (oR R ++ [Ob.dct []]).map some))) : FnGood P w K mg base ca fa U 52 id f.fn0 (FP (WCh cs)) :=
  word_ok S hT (G := fun _ => True) True.intro (C := D.bs.call 24) (Cl := D.bs.call 23) (c11 S) (.inr ⟨48, rfl, c10 S⟩) fun ws h r ⟨s, R, args, e, o, e1, ⟨d, a, b, p⟩, he, e2, e3⟩ => by
    subst e1 e3
    have m := gOf_mem e2
    have q := okC_at hp m
    have F := fit_clh a b p he
    refine ⟨[s, d, e], oR R ++ [.dct []], .obj 0 :: (args ++ [.obj 2]), F, ?_, ?_⟩
    · unfold Rns
      exact ⟨.obj s, _, rfl, by unfold Rn; exact ⟨s, rfl, rfl⟩, rns_last (j := 2) (e := e) (args := args) (Φ := fun i j : Nat => [s, d, e][i]? = some j) (show ([s, d, e] : List Nat)[2]? = some e from rfl) q.1⟩
    rw [← cl_eq hT]
    exact obs_ok F (map_all (hc R) _ m) q.2
theorem wput_ok (S : Sta P w K mg base ca fa D.bs) {U : Ups} {id : Nat} {f : FD} (hT : D.bs.T id = some f.fn0) {cs : List (List PV × OR)} (hp : okC cs = true)
    (hc : cs.map (fun p => obsR 1 (cl id (p.1 ++ [.obj 0]) (mkH [.dct []]))) = cs.map (fun p => (p.2, [Ob.dct []].map some))) : FnGood P w K mg base ca fa U 52 id f.fn0 (FP (Wput cs)) :=
  word_ok S hT (G := fun _ => True) True.intro (C := D.bs.call 24) (Cl := D.bs.call 23) (c11 S) (.inr ⟨48, rfl, c10 S⟩) fun ws h r ⟨args, e, o, e1, he, e2, e3⟩ => by
    subst e1 e3
    have m := gOf_mem e2
    have q := okC_at hp m
    have F : Fit h [e] [.dct []] := ⟨rfl, by simp, fun i j q => by
      match i, q with
      | 0, q =>
        have q : e = j := by simpa using q
        subst q
        exact ⟨_, _, rfl, he, [], rfl, rfl⟩⟩
    refine ⟨[e], [.dct []], args ++ [.obj 0], F, rns_last (j := 0) (e := e) (args := args) (Φ := fun i j : Nat => [e][i]? = some j) (show ([e] : List Nat)[0]? = some e from rfl) q.1, ?_⟩
    rw [← cl_eq hT]
    exact obs_ok F (map_all hc _ m) q.2
end
end K07
set_option Elab.async false
set_option linter.all false
set_option maxRecDepth 100000
set_option maxHeartbeats 0
/-! NC: k07: the closed runs. -/
namespace K07
open PySem PySem.Spec PyProof.Rows L2 DD
abbrev INT : PV := kd "Int"
abbrev BOO : PV := kd "Bool"
abbrev KA : PV := kd "A"
abbrev KB : PV := kd "B"
def cs2 : List (List PV × OR) := [([.str "A"], .val (.bl true)), ([.str "B"], .val (.bl true))]
def cs5 : List (List PV × OR) := [([.str "A"], .val (.tup [])), ([.str "B"], .val (.tup []))]
def fX : PV := .tup [.str "x", INT, .str "A"]
def cs12 : List (List PV × OR) := [([.str "A"], .val (.tup [fX])), ([.str "B"], .val (.tup [fX, .tup [.str "next", KA, .str "B"]]))]
def cs13 : List (List PV × OR) := [([KA], .new (some (.dct headsA))), ([KB], .new (some (.dct headsB)))]
def ch6 : List (List PV × OR) := [([INT], .val .non), ([BOO], .val .non), ([KA], .val .non), ([KB], .val .non)]
def ch9 : List (List PV × OR) := [([INT, INT], .val (.bl true)), ([BOO, BOO], .val (.bl true)), ([KA, KA], .val (.bl true)), ([KB, KB], .val (.bl true)), ([KB, KA], .val (.bl true)), ([KA, KB], .val (.bl false)),
  ([NUL, KA], .val (.bl true)), ([NUL, KB], .val (.bl true)), ([BOO, INT], .val (.bl false)), ([INT, BOO], .val (.bl false))]
def cp0 : List (List PV × OR) := [([INT], .val INT), ([KA], .val KA), ([KB], .val KB)]
theorem r2 (R : Rw) (_ : True) : cs2.map (fun p => obsR 2 (cl 2 (.obj 0 :: p.1) (mkH (oR R)))) = cs2.map (fun p => (p.2, (oR R).map some)) := by kernel_rfl
theorem r5 (R : Rw) (_ : True) : cs5.map (fun p => obsR 2 (cl 5 (.obj 0 :: p.1) (mkH (oR R)))) = cs5.map (fun p => (p.2, (oR R).map some)) := by kernel_rfl
theorem r12 (R : Rw) (_ : True) : cs12.map (fun p => obsR 2 (cl 12 (.obj 0 :: p.1) (mkH (oR R)))) = cs12.map (fun p => (p.2, (oR R).map some)) := by kernel_rfl
theorem r13 (R : Rw) (_ : True) : cs13.map (fun p => obsR 2 (cl 13 (.obj 0 :: p.1) (mkH (oR R)))) = cs13.map (fun p => (p.2, (oR R).map some)) := by kernel_rfl
theorem r6 (R : Rw) : ch6.map (fun p => obsR 3 (cl 6 (.obj 0 :: (p.1 ++ [.obj 2])) (mkH (oR R ++ [.dct []])))) = ch6.map (fun p => (p.2, (oR R ++ [Ob.dct []]).map some)) := by kernel_rfl
theorem r9 (R : Rw) : ch9.map (fun p => obsR 3 (cl 9 (.obj 0 :: (p.1 ++ [.obj 2])) (mkH (oR R ++ [.dct []])))) = ch9.map (fun p => (p.2, (oR R ++ [Ob.dct []]).map some)) := by kernel_rfl
theorem r0 : cp0.map (fun p => obsR 1 (cl 0 (p.1 ++ [.obj 0]) (mkH [.dct []]))) = cp0.map (fun p => (p.2, [Ob.dct []].map some)) := by kernel_rfl
/-- the first row as it is drawn: sign, numbers, contracts -/
structure Dr where
  g : Nat
  z1 : Int
  be : Option Int
  af : Bool
  z3 : Int
def sgn : Nat → Str
  | 0 => "+"
  | 1 => "*"
  | _ => "-"
def numP (z : Int) : PV := .tup [.str "num", .int z]
def nameP (x : Str) : PV := .tup [.str "name", .str x]
def Dr.rw (q : Dr) : Rw where
  mi := .tup [.str "op", .str (sgn q.g), .tup [.str "get", .tup [.str "this"], .str "x"], numP q.z1]
  be := match q.be with
    | none => .non
    | some z => .tup [.str "op", .str "<", nameP "n", numP z]
  af := match q.af with
    | false => .non
    | true => .tup [.str "op", .str "<=", numP (0 - 30), .tup [.str "result"]]
  zt := numP q.z3
def isDr (R : Rw) : Prop := ∃ q : Dr, R = q.rw
def cs39 : List (List PV × OR) := [([], .val .non)]
abbrev P39 (R : Rw) : Prop := cs39.map (fun p => obsR 2 (cl 39 (.obj 0 :: p.1) (mkH (oR R)))) = cs39.map (fun p => (p.2, (oR R).map some))
theorem r39_0 (z1 z3 : Int) : P39 (Dr.rw ⟨0, z1, none, false, z3⟩) := by kernel_rfl
theorem r39_1 (z1 z3 : Int) : P39 (Dr.rw ⟨1, z1, none, false, z3⟩) := by kernel_rfl
theorem r39_2 (n : Nat) (z1 z3 : Int) : P39 (Dr.rw ⟨(n + 2), z1, none, false, z3⟩) := by kernel_rfl
theorem r39_3 (z1 z3 : Int) (z : Int) : P39 (Dr.rw ⟨0, z1, (some z), false, z3⟩) := by kernel_rfl
theorem r39_4 (z1 z3 : Int) (z : Int) : P39 (Dr.rw ⟨1, z1, (some z), false, z3⟩) := by kernel_rfl
theorem r39_5 (n : Nat) (z1 z3 : Int) (z : Int) : P39 (Dr.rw ⟨(n + 2), z1, (some z), false, z3⟩) := by kernel_rfl
theorem r39_6 (z1 z3 : Int) : P39 (Dr.rw ⟨0, z1, none, true, z3⟩) := by kernel_rfl
theorem r39_7 (z1 z3 : Int) : P39 (Dr.rw ⟨1, z1, none, true, z3⟩) := by kernel_rfl
theorem r39_8 (n : Nat) (z1 z3 : Int) : P39 (Dr.rw ⟨(n + 2), z1, none, true, z3⟩) := by kernel_rfl
theorem r39_9 (z1 z3 : Int) (z : Int) : P39 (Dr.rw ⟨0, z1, (some z), true, z3⟩) := by kernel_rfl
theorem r39_10 (z1 z3 : Int) (z : Int) : P39 (Dr.rw ⟨1, z1, (some z), true, z3⟩) := by kernel_rfl
theorem r39_11 (n : Nat) (z1 z3 : Int) (z : Int) : P39 (Dr.rw ⟨(n + 2), z1, (some z), true, z3⟩) := by kernel_rfl
theorem r39 (R : Rw) (h : isDr R) : cs39.map (fun p => obsR 2 (cl 39 (.obj 0 :: p.1) (mkH (oR R)))) = cs39.map (fun p => (p.2, (oR R).map some)) := by
  obtain ⟨⟨g, z1, be, af, z3⟩, rfl⟩ := h
  match g, be, af with
  | 0, none, false => exact r39_0 z1 z3
  | 1, none, false => exact r39_1 z1 z3
  | n + 2, none, false => exact r39_2 n z1 z3
  | 0, some z, false => exact r39_3 z1 z3 z
  | 1, some z, false => exact r39_4 z1 z3 z
  | n + 2, some z, false => exact r39_5 n z1 z3 z
  | 0, none, true => exact r39_6 z1 z3
  | 1, none, true => exact r39_7 z1 z3
  | n + 2, none, true => exact r39_8 n z1 z3
  | 0, some z, true => exact r39_9 z1 z3 z
  | 1, some z, true => exact r39_10 z1 z3 z
  | n + 2, some z, true => exact r39_11 n z1 z3 z
end K07
set_option Elab.async false
set_option linter.all false
set_option maxRecDepth 100000
set_option maxHeartbeats 1000000
/-! OA: own runs with unknown values; towers of tables in which some calls are answered by words. -/
namespace DD
open PySem PySem.Spec PyProof.Rows L2
mutual
/-- plain, nothing unknown -/
def nfB : PV → Bool
  | .obj _ => false
  | .exn _ _ => false
  | .unk _ => false
  | .tup xs => nfsB xs
  | _ => true
def nfsB : List PV → Bool
  | [] => true
  | x :: xs => nfB x && nfsB xs
end
def nfF {κ : Type} : List (κ × PV) → Bool
  | [] => true
  | (_, x) :: xs => nfB x && nfF xs
mutual
/-- what unknown ones stand for put in -/
def sub (σ : Nat → PV) : PV → PV
  | .non => .non
  | .bl b => .bl b
  | .int i => .int i
  | .str x => .str x
  | .obj i => .obj i
  | .exn c fs => .exn c fs
  | .unk n => σ n
  | .tup xs => .tup (subs σ xs)
def subs (σ : Nat → PV) : List PV → List PV
  | [] => []
  | x :: xs => sub σ x :: subs σ xs
end
def subF {κ : Type} (σ : Nat → PV) : List (κ × PV) → List (κ × PV)
  | [] => []
  | (k, x) :: xs => (k, sub σ x) :: subF σ xs
def subO (σ : Nat → PV) : Ob → Ob
  | .lst xs => .lst (subs σ xs)
  | .dct kvs => .dct (subF σ kvs)
  | .ins c fs => .ins c (subF σ fs)
  | .frz o => .frz (subO σ o)
theorem nf_tup {xs : List PV} (h : nfB (.tup xs) = true) : nfsB xs = true := by simpa [nfB] using h
theorem nf_cons {x : PV} {xs : List PV} (h : nfsB (x :: xs) = true) : nfB x = true ∧ nfsB xs = true := by simpa [nfsB] using h
theorem nfF_cons {κ : Type} {k : κ} {x : PV} {xs : List (κ × PV)} (h : nfF ((k, x) :: xs) = true) : nfB x = true ∧ nfF xs = true := by simpa [nfF] using h
mutual
theorem nf_sub {σ : Nat → PV} : ∀ {w : PV}, nfB w = true → sub σ w = w
  | .non, _ => by unfold sub; rfl
  | .bl _, _ => by unfold sub; rfl
  | .int _, _ => by unfold sub; rfl
  | .str _, _ => by unfold sub; rfl
  | .obj _, h => by simp [nfB] at h
  | .exn _ _, h => by simp [nfB] at h
  | .unk _, h => by simp [nfB] at h
  | .tup xs, h => by unfold sub; rw [nfs_sub (nf_tup h)]
theorem nfs_sub {σ : Nat → PV} : ∀ {ws : List PV}, nfsB ws = true → subs σ ws = ws
  | [], _ => by unfold subs; rfl
  | x :: xs, h => by unfold subs; rw [nf_sub (nf_cons h).1, nfs_sub (nf_cons h).2]
end
theorem nfF_sub {κ : Type} {σ : Nat → PV} : ∀ {ws : List (κ × PV)}, nfF ws = true → subF σ ws = ws
  | [], _ => rfl
  | (k, x) :: xs, h => by unfold subF; rw [nf_sub (nfF_cons h).1, nfF_sub (nfF_cons h).2]
mutual
theorem nf_pure : ∀ {w : PV}, nfB w = true → pureB w = true
  | .non, _ => by unfold pureB; rfl
  | .bl _, _ => by unfold pureB; rfl
  | .int _, _ => by unfold pureB; rfl
  | .str _, _ => by unfold pureB; rfl
  | .obj _, h => by simp [nfB] at h
  | .exn _ _, h => by simp [nfB] at h
  | .unk _, h => by simp [nfB] at h
  | .tup xs, h => by unfold pureB; exact nfs_pure (nf_tup h)
theorem nfs_pure : ∀ {ws : List PV}, nfsB ws = true → puresB ws = true
  | [], _ => by unfold puresB; rfl
  | x :: xs, h => by unfold puresB; rw [nf_pure (nf_cons h).1, nfs_pure (nf_cons h).2]; rfl
end
theorem nfF_pure {κ : Type} : ∀ {ws : List (κ × PV)}, nfF ws = true → pureF ws = true
  | [], _ => rfl
  | (k, x) :: xs, h => by
    show (pureB x && pureF xs) = true
    rw [nf_pure (nfF_cons h).1, nfF_pure (nfF_cons h).2]; rfl
section
variable {K : PySem.W.Frag} {ρ : List Addr} {H : Hp}
mutual
theorem nf_rv (U : Ups) : ∀ {w : PV}, nfB w = true → ∀ v, RPu K H w v ↔ RV K ρ H w v
  | .non, _, v => by unfold RPu RV; rfl
  | .bl _, _, v => by unfold RPu RV; rfl
  | .int _, _, v => by unfold RPu RV; rfl
  | .str _, _, v => by unfold RPu RV; rfl
  | .obj _, h, v => by simp [nfB] at h
  | .exn _ _, h, v => by simp [nfB] at h
  | .unk _, h, v => by simp [nfB] at h
  | .tup xs, h, v => by
    unfold RPu RV
    exact ⟨fun ⟨a, vs, e, s, r⟩ => ⟨a, vs, e, s, (nfs_rv U (nf_tup h) vs).mp r⟩, fun ⟨a, vs, e, s, r⟩ => ⟨a, vs, e, s, (nfs_rv U (nf_tup h) vs).mpr r⟩⟩
theorem nfs_rv (U : Ups) : ∀ {ws : List PV}, nfsB ws = true → ∀ vs, RPus K H ws vs ↔ RVs K ρ H ws vs
  | [], _, vs => by unfold RPus RVs; rfl
  | x :: xs, h, vs => by
    unfold RPus RVs
    exact ⟨fun ⟨v, t, e, a, b⟩ => ⟨v, t, e, (nf_rv U (nf_cons h).1 v).mp a, (nfs_rv U (nf_cons h).2 t).mp b⟩, fun ⟨v, t, e, a, b⟩ => ⟨v, t, e, (nf_rv U (nf_cons h).1 v).mpr a, (nfs_rv U (nf_cons h).2 t).mpr b⟩⟩
end
/-- what unknown ones stand for: plain ones -/
def Nf (σ : Nat → PV) : Prop := ∀ n, nfB (σ n) = true
mutual
theorem sub_rv (U : Ups) {σ : Nat → PV} (hσ : Nf σ) : ∀ (w : PV) (v : V), @RV ⟨σ⟩ K ρ H w v ↔ RV K ρ H (sub σ w) v
  | .non, v => by unfold sub RV; rfl
  | .bl _, v => by unfold sub RV; rfl
  | .int _, v => by unfold sub RV; rfl
  | .str _, v => by unfold sub RV; rfl
  | .obj _, v => by unfold sub RV; rfl
  | .exn _ _, v => by unfold sub RV; rfl
  | .unk n, v => by
    unfold sub
    rw [← nf_rv U (hσ n) v]
    unfold RV
    rfl
  | .tup xs, v => by
    unfold sub RV
    exact ⟨fun ⟨a, vs, e, s, r⟩ => ⟨a, vs, e, s, (subs_rv U hσ xs vs).mp r⟩, fun ⟨a, vs, e, s, r⟩ => ⟨a, vs, e, s, (subs_rv U hσ xs vs).mpr r⟩⟩
theorem subs_rv (U : Ups) {σ : Nat → PV} (hσ : Nf σ) : ∀ (ws : List PV) (vs : List V), @RVs ⟨σ⟩ K ρ H ws vs ↔ RVs K ρ H (subs σ ws) vs
  | [], vs => by unfold subs RVs; rfl
  | x :: xs, vs => by
    unfold subs RVs
    exact ⟨fun ⟨v, t, e, a, b⟩ => ⟨v, t, e, (sub_rv U hσ x v).mp a, (subs_rv U hσ xs t).mp b⟩, fun ⟨v, t, e, a, b⟩ => ⟨v, t, e, (sub_rv U hσ x v).mpr a, (subs_rv U hσ xs t).mpr b⟩⟩
end
theorem subF_rv (U : Ups) {κ : Type} {σ : Nat → PV} (hσ : Nf σ) : ∀ (ws : List (κ × PV)) (vs : List (κ × V)), @RFs ⟨σ⟩ K ρ H κ ws vs ↔ RFs K ρ H (subF σ ws) vs
  | [], vs => Iff.rfl
  | (k, x) :: xs, vs => ⟨fun ⟨v, t, e, a, b⟩ => ⟨v, t, e, (sub_rv U hσ x v).mp a, (subF_rv U hσ xs t).mp b⟩, fun ⟨v, t, e, a, b⟩ => ⟨v, t, e, (sub_rv U hσ x v).mpr a, (subF_rv U hσ xs t).mpr b⟩⟩
theorem subO_ro (U : Ups) {ca : Nat → Addr} {σ : Nat → PV} (hσ : Nf σ) : ∀ (o : Ob) (u : HO), @RO ⟨σ⟩ K ρ H ca o u ↔ RO K ρ H ca (subO σ o) u
  | .lst xs, u => ⟨fun ⟨v, e, a⟩ => ⟨v, e, (subs_rv U hσ xs v).mp a⟩, fun ⟨v, e, a⟩ => ⟨v, e, (subs_rv U hσ xs v).mpr a⟩⟩
  | .dct xs, u => ⟨fun ⟨v, e, a⟩ => ⟨v, e, (subF_rv U hσ xs v).mp a⟩, fun ⟨v, e, a⟩ => ⟨v, e, (subF_rv U hσ xs v).mpr a⟩⟩
  | .ins c xs, u => ⟨fun ⟨d, v, e, a⟩ => ⟨d, v, e, (subF_rv U hσ xs v).mp a⟩, fun ⟨d, v, e, a⟩ => ⟨d, v, e, (subF_rv U hσ xs v).mpr a⟩⟩
  | .frz o, u => ⟨fun ⟨b, v, e, a, m⟩ => ⟨b, v, e, (subO_ro U hσ o v).mp a, m⟩, fun ⟨b, v, e, a, m⟩ => ⟨b, v, e, (subO_ro U hσ o v).mpr a, m⟩⟩
end
/-- a heap with what unknown ones stand for put in -/
def SubH (σ : Nat → PV) (h' h : Hh) : Prop := h.n = h'.n ∧ ∀ i, i < h'.n → h.get i = (h'.get i).map (subO σ)
section
variable {K : PySem.W.Frag} {ca : Nat → Addr} {ρ : List Addr} {H : Hp} {h h' : Hh}
theorem SubH.rel (U : Ups) {σ : Nat → PV} (hσ : Nf σ) (s : SubH σ h' h) : @Rel ⟨σ⟩ K ca ρ h' H ↔ Rel K ca ρ h H := by
  constructor
  · intro R
    refine ⟨by rw [s.1]; exact @Rel.len ⟨σ⟩ _ _ _ _ _ R, @Rel.nd ⟨σ⟩ _ _ _ _ _ R, fun i a e => ?_, @Rel.tb ⟨σ⟩ _ _ _ _ _ R⟩
    obtain ⟨o, u, h1, h2, r⟩ := @Rel.at_ ⟨σ⟩ _ _ _ _ _ R i a e
    exact ⟨subO σ o, u, by rw [s.2 i (Hh.get_lt h1), h1]; rfl, h2, (subO_ro U hσ o u).mp r⟩
  · intro R
    have ln : ρ.length = h'.n := by rw [← s.1]; exact R.len
    refine @Rel.mk ⟨σ⟩ _ _ _ _ _ ln R.nd (fun i a e => ?_) R.tb
    obtain ⟨o, u, h1, h2, r⟩ := R.at_ i a e
    have li : i < h'.n := by rw [← ln]; exact (List.getElem?_eq_some_iff.mp e).1
    rw [s.2 i li] at h1
    cases q : h'.get i with
    | none => rw [q] at h1; cases h1
    | some o' =>
      rw [q] at h1
      cases h1
      exact ⟨o', u, rfl, h2, (subO_ro U hσ o' u).mpr r⟩
def subH (σ : Nat → PV) (h : Hh) : Hh := mkH ((List.range h.n).map fun i => subO σ ((h.get i).getD (.lst [])))
theorem subH_n (σ : Nat → PV) (h : Hh) : (subH σ h).n = h.n := by unfold subH; rw [mkH_n, List.length_map, List.length_range]
theorem subH_get {σ : Nat → PV} {h : Hh} {i : Nat} {o : Ob} (e : h.get i = some o) : (subH σ h).get i = some (subO σ o) := by
  unfold subH
  rw [mkH_get, List.getElem?_map, List.getElem?_range (Hh.get_lt e), Option.map_some, e]
  rfl
/-- where all is there -/
theorem SubH.of [U : Ups] {σ : Nat → PV} (R : Rel K ca ρ h H) : SubH σ h (subH σ h) := ⟨subH_n σ h, fun i l => by
  have : i < ρ.length := by rw [R.len]; exact l
  obtain ⟨o, _, g, _⟩ := R.at_ i ρ[i] (by simp [this])
  rw [subH_get g, g]
  rfl⟩
theorem SubH.mk {σ : Nat → PV} (os : List Ob) : SubH σ (mkH os) (mkH (os.map (subO σ))) := ⟨by rw [mkH_n, mkH_n, List.length_map], fun i _ => by rw [mkH_get, mkH_get, List.getElem?_map]⟩
end
def OR.nf : OR → Bool
  | .val w => nfB w
  | .exc _ fs => nfF fs
  | _ => false
section
variable {P : Program} {w : World} {K : PySem.W.Frag} {mg : Str → Option Value} {base : Heap} {ca fa : Nat → Addr} {B : Bs}
theorem obs_cases {n : Nat} {os : List (Option Ob)} {r : Res PV} {o : OR} (e : obsR n r = (o, os)) (p : o.nf = true) : (∃ w h2, r = .ok w h2 ∧ o = .val w ∧ nfB w = true ∧ (List.range n).map h2.get = os) ∨ ∃ c fs h2, r = .exc c fs h2 ∧ o = .exc c fs ∧ nfF fs = true ∧ (List.range n).map h2.get = os := by
  cases r with
  | ok v g =>
    cases v with
    | obj m =>
      simp only [obsR] at e
      split at e
      · simp only [Prod.mk.injEq] at e
        obtain ⟨rfl, _⟩ := e
        cases p
      · simp only [Prod.mk.injEq] at e
        obtain ⟨rfl, _⟩ := e
        cases p
    | _ =>
      simp only [obsR, Prod.mk.injEq] at e
      obtain ⟨rfl, e2⟩ := e
      exact .inl ⟨_, g, rfl, rfl, p, e2⟩
  | exc c fs g =>
    simp only [obsR, Prod.mk.injEq] at e
    obtain ⟨rfl, e2⟩ := e
    exact .inr ⟨c, fs, g, rfl, rfl, p, e2⟩
  | bad =>
    simp only [obsR, Prod.mk.injEq] at e
    obtain ⟨rfl, _⟩ := e
    cases p
/-- a function keeps a word if its body, run at a fitting heap of few things with unknown values, comes to what the word says -/
theorem wordU_ok (S : Sta P w K mg base ca fa B) {U : Ups} {k id : Nat} {f : Fn0} (hT : B.T id = some f) {W : Wd}
    (hW : ∀ ws h r, W ws h r → ∃ (σ : Nat → PV) (G : Ups → Prop) (C Cl : CT) (φ : List Nat) (os : List Ob) (ws' : List PV) (o : OR), Nf σ ∧ G ⟨σ⟩ ∧ CtOk P w K mg base ca fa B G C k ∧
      ((∀ x n hs, B.gl x ≠ .told n hs) ∨ ∃ k', k = k' + 2 ∧ CtOk P w K mg base ca fa B G Cl k') ∧ Fit h φ (os.map (subO σ)) ∧ Rns (fun i j : Nat => φ[i]? = some j) (subs σ ws') ws ∧
      obsR os.length (runF (B.sem f C Cl) f.N ws' (mkH os)) = (o, os.map some) ∧ o.nf = true ∧ r = o.res h) : FnGood P w K mg base ca fa U (k + 2) id f (FP W) :=
  step_ok S hT fun ws h ρ H vs Q E R r x => by
    rcases FP_cases W ws h with e | p
    · rw [e] at x; exact x.elim
    · obtain ⟨σ, G, C, Cl, φ, os, ws', o, hσ, hG, hC, hl, F, rn, eo, po, er⟩ := hW ws h _ p
      have R' := R.sub F.lt F.nd (h' := mkH (os.map (subO σ))) (by rw [mkH_n, F.len]) fun i j e => by
        obtain ⟨o', o, a, b, c⟩ := F.at_ i j e
        exact ⟨o', o, by rw [mkH_get]; exact a, b, c⟩
      have R2 := ((SubH.mk (σ := σ) os).rel U hσ).mpr R'
      have r2 := (subs_rv U (ρ := subR ρ φ) (H := H) (K := K) hσ ws' vs).mpr ((rn.rv (fun i j e a => subR_at R F.lt e a) vs).mpr r)
      refine ⟨⟨σ⟩, G, C, Cl, hG, hC, hl, subR ρ φ, ws', mkH os, R2, r2, ?_⟩
      have kp : ∀ {h2 : Hh}, (List.range os.length).map h2.get = os.map some → (∀ i, i < h2.n → ∃ o, h2.get i = some o) → ∀ i, i < (os.map (subO σ)).length → (subH σ h2).get i = (os.map (subO σ))[i]? := fun {h2} e g i hi => by
        rw [List.length_map] at hi
        have e1 := kept e rfl i hi
        have e2 : os[i]? = some os[i] := by simp [hi]
        rw [e2] at e1
        rw [subH_get e1, List.getElem?_map, e2]
        rfl
      rw [er] at x
      rcases obs_cases eo po with ⟨v, h2, e1, e2, pn, ek⟩ | ⟨c, fs, h2, e1, e2, pn, ek⟩
      · subst e2
        rw [e1]
        intro ρ2 H2 u E2 Rn2 rv
        have sh := SubH.of (U := ⟨σ⟩) (σ := σ) Rn2
        have Rn3 := (sh.rel U hσ).mp Rn2
        have rv3 := (sub_rv U hσ v u).mp rv
        rw [nf_sub pn] at rv3
        have al : ∀ i, i < h2.n → ∃ o, h2.get i = some o := fun i l => by
          have : i < ρ2.length := by rw [@Rel.len ⟨σ⟩ _ _ _ _ _ Rn2]; exact l
          obtain ⟨o, _, g, _⟩ := @Rel.at_ ⟨σ⟩ _ _ _ _ _ Rn2 i ρ2[i] (by simp [this])
          exact ⟨o, g⟩
        exact (RnR.same F (nf_pure pn) (kp ek al)).wf R F.lt F.nd x ρ2 H2 u E2 Rn3 rv3
      · subst e2
        rw [e1]
        intro ρ2 H2 E2 Rn2 d hd
        have sh := SubH.of (U := ⟨σ⟩) (σ := σ) Rn2
        have Rn3 := (sh.rel U hσ).mp Rn2
        have al : ∀ i, i < h2.n → ∃ o, h2.get i = some o := fun i l => by
          have : i < ρ2.length := by rw [@Rel.len ⟨σ⟩ _ _ _ _ _ Rn2]; exact l
          obtain ⟨o, _, g, _⟩ := @Rel.at_ ⟨σ⟩ _ _ _ _ _ Rn2 i ρ2[i] (by simp [this])
          exact ⟨o, g⟩
        refine (RnR.sameX F (nfF_pure pn) (kp ek al)).wf R F.lt F.nd x ρ2 H2 E2 Rn3 d ?_
        rcases hd with ⟨a, b⟩ | ⟨dd, us, a, b, c⟩
        · exact .inl ⟨a, b⟩
        · have c := (subF_rv U hσ fs us).mp c
          rw [nfF_sub pn] at c
          exact .inr ⟨dd, us, a, b, c⟩
/-- a function's promise by others' promises -/
theorem good_any (S : Sta P w K mg base ca fa B) {U : Ups} {k id : Nat} {f : Fn0} (hT : B.T id = some f) {F : List PV → Hh → Res PV}
    (h : ∀ ws h ρ H vs Q (E : XK), Rel K ca ρ h H → RVs K ρ H ws vs → Wf K ca U ρ H Q E (F ws h) →
      ∃ (U1 : Ups) (F1 : List PV → Hh → Res PV), FnGood P w K mg base ca fa U1 k id f F1 ∧ ∃ ρ' ws' h', Rel K ca ρ' h' H ∧ RVs K ρ' H ws' vs ∧ Wf K ca U1 ρ' H Q E (F1 ws' h')) : FnGood P w K mg base ca fa U k id f F := by
  obtain ⟨x, qual, st, oc, od, kV, doc, pm, an, cdv, ct, osl, lk, hcd, e1, e2, S1, b1, _, _, _⟩ := S.T id f hT
  refine ⟨_, ⟨_, _, _, lk⟩, ⟨fun vs H Q E h => h.1, fun A outer s H args us vs Q E hr he hb hv hs => ?_⟩, b1⟩
  obtain ⟨hl, ρ, ws, hh, R, rw_, x⟩ := hs
  obtain ⟨U1, F1, ⟨fd, ⟨oc', od', osl', lk'⟩, fk, _⟩, ρ', ws', h', R', r', x'⟩ := h ws hh ρ H vs Q E R rw_ x
  rw [lk] at lk'
  cases lk'
  exact fk.run A outer s H args us vs Q E hr he hb hv ⟨hl, ρ', ws', h', R', r', x'⟩
/-! ### towers -/
abbrev VT := Nat → List PV → Hh → Option (Res PV)
def ovr (V : VT) (C : CT) : CT := fun id ws h => match V id ws h with
  | some r => r
  | none => C id ws h
def Bs.twr (B : Bs) (V : VT) (m : Nat) : Nat → CT
  | 0 => B.call (m + 1)
  | 1 => ovr V (B.step (B.call (m + 1)) (B.call m))
  | n + 2 => ovr V (B.step (B.twr V m (n + 1)) (B.twr V m n))
/-- answers that are kept -/
def OvOk (P : Program) (w : World) (K : PySem.W.Frag) (mg : Str → Option Value) (base : Heap) (ca fa : Nat → Addr) (B : Bs) (σ : Nat → PV) (V : VT) (k : Nat) : Prop :=
  ∀ (id : Nat) (f : Fn0), B.T id = some f → ∀ ws h r, V id ws h = some r → ∃ F1, FnGood P w K mg base ca fa U0 k id f F1 ∧
    ((∃ w h2 h3, r = .ok w h2 ∧ F1 (subs σ ws) (subH σ h) = .ok (sub σ w) h3 ∧ ((∀ i, i < h.n → ∃ o, h.get i = some o) → SubH σ h2 h3)) ∨
     ∃ c fs h2 h3, r = .exc c fs h2 ∧ F1 (subs σ ws) (subH σ h) = .exc c (subF σ fs) h3 ∧ ((∀ i, i < h.n → ∃ o, h.get i = some o) → SubH σ h2 h3))
theorem ovr_ok (S : Sta P w K mg base ca fa B) {σ : Nat → PV} (hσ : Nf σ) {V : VT} {k : Nat} (hV : OvOk P w K mg base ca fa B σ V k) {C : CT} (hC : CtOk P w K mg base ca fa B (fun U => U = ⟨σ⟩) C k) : CtOk P w K mg base ca fa B (fun U => U = ⟨σ⟩) (ovr V C) k := by
  intro U hU id f hT
  subst hU
  refine good_any S hT fun ws h ρ H vs Q E R r x => ?_
  cases e : V id ws h with
  | none =>
    have x : Wf K ca ⟨σ⟩ ρ H Q E (match V id ws h with
      | some r => r
      | none => C id ws h) := x
    rw [e] at x
    exact ⟨⟨σ⟩, C id, hC _ rfl id f hT, ρ, ws, h, R, r, x⟩
  | some q =>
    have x : Wf K ca ⟨σ⟩ ρ H Q E (match V id ws h with
      | some r => r
      | none => C id ws h) := x
    rw [e] at x
    have x : Wf K ca ⟨σ⟩ ρ H Q E q := x
    obtain ⟨F1, g1, r1⟩ := hV id f hT ws h q e
    have al : ∀ i, i < h.n → ∃ o, h.get i = some o := fun i l => by
      have : i < ρ.length := by rw [@Rel.len ⟨σ⟩ _ _ _ _ _ R]; exact l
      obtain ⟨o, _, g, _⟩ := @Rel.at_ ⟨σ⟩ _ _ _ _ _ R i ρ[i] (by simp [this])
      exact ⟨o, g⟩
    have sh := SubH.of (U := ⟨σ⟩) (σ := σ) R
    refine ⟨U0, F1, g1, ρ, subs σ ws, subH σ h, (sh.rel U0 hσ).mp R, (subs_rv U0 hσ ws vs).mp r, ?_⟩
    rcases r1 with ⟨w', h2, h3, e1, e2, e3⟩ | ⟨c, fs, h2, h3, e1, e2, e3⟩
    · subst e1
      rw [e2]
      intro ρ2 H2 v E2 R2 rv
      exact x ρ2 H2 v E2 (((e3 al).rel U0 hσ).mpr R2) ((sub_rv U0 hσ w' v).mpr rv)
    · subst e1
      rw [e2]
      intro ρ2 H2 E2 R2 d hd
      refine x ρ2 H2 E2 (((e3 al).rel U0 hσ).mpr R2) d ?_
      rcases hd with ⟨a, b⟩ | ⟨dd, us, a, b, c'⟩
      · cases fs with
        | nil => exact .inl ⟨rfl, b⟩
        | cons p fs => obtain ⟨_, _⟩ := p; cases a
      · exact .inr ⟨dd, us, a, b, (subF_rv U0 hσ fs us).mpr c'⟩
theorem OvOk.mono {σ : Nat → PV} {V : VT} {k k' : Nat} (h : OvOk P w K mg base ca fa B σ V k) (le : k ≤ k') : OvOk P w K mg base ca fa B σ V k' := fun id f hT ws h' r e => by
  obtain ⟨F1, g, q⟩ := h id f hT ws h' r e
  exact ⟨F1, g.mono le, q⟩
theorem twr_ok (S : Sta P w K mg base ca fa B) {σ : Nat → PV} (hσ : Nf σ) {V : VT} {m : Nat} (hV : OvOk P w K mg base ca fa B σ V (2 * m + 6)) :
    ∀ n, CtOk P w K mg base ca fa B (fun U => U = ⟨σ⟩) (B.twr V m n) (2 * m + 4 + 2 * n) ∧ CtOk P w K mg base ca fa B (fun U => U = ⟨σ⟩) (B.twr V m (n + 1)) (2 * m + 4 + 2 * (n + 1))
  | 0 => by
    have c1 := (ctok_call S (fun U => U = (⟨σ⟩ : Ups)) m).1
    have c2 := (ctok_call S (fun U => U = (⟨σ⟩ : Ups)) m).2
    refine ⟨by simpa [Nat.mul_add, Nat.add_assoc, Bs.twr] using c2, ?_⟩
    refine ovr_ok S hσ (hV.mono (by omega)) ?_
    have := ctok_step S (k := 2 * m + 4) (by simpa [Nat.mul_add, Nat.add_assoc] using c2) (.inr ⟨2 * m + 2, rfl, c1⟩)
    exact this
  | n + 1 => by
    obtain ⟨a, b⟩ := twr_ok S hσ hV n
    refine ⟨b, ?_⟩
    refine ovr_ok S hσ (hV.mono (by omega)) ?_
    have := ctok_step S (k := 2 * m + 4 + 2 * (n + 1)) b (.inr ⟨2 * m + 4 + 2 * n, by omega, a⟩)
    exact this
end
end DD
set_option Elab.async false
set_option linter.all false
set_option maxRecDepth 100000
set_option maxHeartbeats 1000000
/-! OB: k07: equality of own things by a Bool; a look at a body, its states. -/
namespace DD
open PySem PySem.Spec PyProof.Rows L2
mutual
def eqV : PV → PV → Bool
  | .non, .non => true
  | .bl a, .bl b => a == b
  | .int a, .int b => decide (a = b)
  | .str a, .str b => decide (a = b)
  | .tup a, .tup b => eqVs a b
  | .obj a, .obj b => Nat.beq a b
  | .unk a, .unk b => Nat.beq a b
  | _, _ => false
def eqVs : List PV → List PV → Bool
  | [], [] => true
  | a :: x, b :: y => eqV a b && eqVs x y
  | _, _ => false
end
mutual
theorem eqV_eq : ∀ {x y : PV}, eqV x y = true → x = y
  | .non, y, e => by cases y <;> simp [eqV] at e; rfl
  | .bl a, y, e => by cases y <;> simp [eqV] at e; rw [e]
  | .int a, y, e => by cases y <;> simp [eqV] at e; rw [e]
  | .str a, y, e => by cases y <;> simp [eqV] at e; rw [e]
  | .tup a, y, e => by
    cases y <;> simp [eqV] at e
    rw [eqVs_eq e]
  | .unk _, y, e => by cases y <;> simp [eqV] at e; rw [e]
  | .obj _, y, e => by cases y <;> simp [eqV] at e; rw [e]
  | .exn _ _, y, e => by cases y <;> simp [eqV] at e
theorem eqVs_eq : ∀ {x y : List PV}, eqVs x y = true → x = y
  | [], y, e => by cases y <;> simp [eqVs] at e; rfl
  | a :: x, y, e => by
    cases y <;> simp [eqVs] at e
    rw [eqV_eq e.1, eqVs_eq e.2]
end
def eqF {κ : Type} [DecidableEq κ] : List (κ × PV) → List (κ × PV) → Bool
  | [], [] => true
  | (k, a) :: x, (j, b) :: y => decide (k = j) && (eqV a b && eqF x y)
  | _, _ => false
theorem eqF_eq {κ : Type} [DecidableEq κ] : ∀ {x y : List (κ × PV)}, eqF x y = true → x = y
  | [], y, e => by cases y <;> simp [eqF] at e; rfl
  | (k, a) :: x, y, e => by
    cases y with
    | nil => simp [eqF] at e
    | cons p y =>
      obtain ⟨j, b⟩ := p
      simp [eqF] at e
      rw [e.1, eqV_eq e.2.1, eqF_eq e.2.2]
def eqO : Ob → Ob → Bool
  | .lst a, .lst b => eqVs a b
  | .dct a, .dct b => eqF a b
  | .ins c a, .ins d b => Nat.beq c d && eqF a b
  | _, _ => false
theorem eqO_eq : ∀ {x y : Ob}, eqO x y = true → x = y
  | .lst a, y, e => by cases y <;> simp [eqO] at e; rw [eqVs_eq e]
  | .dct a, y, e => by cases y <;> simp [eqO] at e; rw [eqF_eq e]
  | .ins c a, y, e => by cases y <;> simp [eqO] at e; rw [e.1, eqF_eq e.2]
  | .frz _, y, e => by simp [eqO] at e
def atB (h : Hh) (i : Nat) (o : Ob) : Bool := match h.get i with
  | some o' => eqO o' o
  | none => false
theorem atB_eq {h : Hh} {i : Nat} {o : Ob} (e : atB h i o = true) : h.get i = some o := by
  unfold atB at e
  split at e
  · rename_i o' q
    rw [q, eqO_eq e]
  · cases e
def ndB : List Nat → Bool
  | [] => true
  | x :: xs => xs.all (fun y => !Nat.beq x y) && ndB xs
theorem ndB_ok : ∀ {xs : List Nat}, ndB xs = true → xs.Nodup
  | [], _ => List.nodup_nil
  | x :: xs, e => by
    have e : (xs.all (fun y => !Nat.beq x y) && ndB xs) = true := e
    rw [Bool.and_eq_true, List.all_eq_true] at e
    rw [List.nodup_cons]
    refine ⟨fun m => ?_, ndB_ok e.2⟩
    have := e.1 x m
    simp at this
end DD
namespace K07
open PySem PySem.Spec PyProof.Rows L2 DD
abbrev cINT : PV := kd "Int"
abbrev cBOO : PV := kd "Bool"
abbrev cKA : PV := kd "A"
/-- names' kinds, names set -/
def nmS : Nat → List (Key × PV)
  | 0 => []
  | 1 => [(.inr "a", cKA)]
  | 2 => [(.inr "a", cKA), (.inr "b", cKA), (.inr "i", cINT)]
  | _ => [(.inr "z", cINT)]
def isS : Nat → List (Key × PV)
  | 0 => []
  | 1 => [(.inr "a", .bl true)]
  | 2 => [(.inr "a", .bl true), (.inr "b", .bl true), (.inr "i", .bl true)]
  | _ => []
def insR (r : Nat) : Ob := .ins 9 [("rows", .obj r)]
def lookO (c e n : Nat) : Ob := .ins 10 [("classes", .obj c), ("held", .obj e), ("own", .non), ("goal", cINT), ("names", .obj n), ("result", .non), ("is_contract", .bl false)]
/-- the rows, left open -/
def R0 : Rw := ⟨.unk 100, .unk 101, .unk 102, .unk 103⟩
def osS (s : Nat) : List Ob := [insR 1, .dct (rowsD R0), lookO 0 3 4, .dct [], .dct (nmS s), .dct (isS s)]
/-- a look at a body, in a state -/
structure Look (h : Hh) (l i s : Nat) (R : Rw) (c r e n : Nat) : Prop where
  nd : [c, r, l, e, n, i].Nodup
  gc : h.get c = some (insR r)
  gr : h.get r = some (.dct (rowsD R))
  gl : h.get l = some (lookO c e n)
  ge : h.get e = some (.dct [])
  gn : h.get n = some (.dct (nmS s))
  gi : h.get i = some (.dct (isS s))
def look? (h : Hh) (l : Nat) : Option (Nat × Nat × Nat × Nat) := match h.get l with
  | some (.ins _ [(_, .obj c), (_, .obj e), _, _, (_, .obj n), _, _]) => match h.get c with
    | some (.ins _ [(_, .obj r)]) => some (c, r, e, n)
    | _ => none
  | _ => none
def lookB (s : Nat) (h : Hh) (l i : Nat) : Bool := match look? h l with
  | some (c, r, e, n) => atB h c (insR r) && (atB h r (.dct (rowsD R0)) && (atB h l (lookO c e n) && (atB h e (.dct []) && (atB h n (.dct (nmS s)) && (atB h i (.dct (isS s)) && ndB [c, r, l, e, n, i])))))
  | none => false
def nfR (R : Rw) : Bool := nfB R.mi && (nfB R.be && (nfB R.af && nfB R.zt))
/-- the rows that unknown ones stand for -/
def rwOf (σ : Nat → PV) : Rw := ⟨σ 100, σ 101, σ 102, σ 103⟩
theorem sub_rows (σ : Nat → PV) : subF σ (rowsD R0) = rowsD (rwOf σ) := rfl
theorem look_sub {σ : Nat → PV} {s : Nat} {h : Hh} {l i : Nat} (e : lookB s h l i = true) : ∃ c r d n, Look (subH σ h) l i s (rwOf σ) c r d n := by
  unfold lookB at e
  split at e
  · rename_i c r d n q
    simp only [Bool.and_eq_true] at e
    obtain ⟨a, b, c', d', f, g, nd⟩ := e
    refine ⟨c, r, d, n, ndB_ok nd, subH_get (atB_eq a), subH_get (atB_eq b), subH_get (atB_eq c'), subH_get (atB_eq d'), ?_, ?_⟩
    · rw [subH_get (atB_eq f)]
      unfold nmS
      split <;> rfl
    · rw [subH_get (atB_eq g)]
      unfold isS
      split <;> rfl
  · cases e
theorem look_fit {σ : Nat → PV} {s : Nat} {h : Hh} {l i c r e n : Nat} {R : Rw} (L : Look h l i s R c r e n) (hR : R = rwOf σ) (hσ : Nf σ) : Fit h [c, r, l, e, n, i] ((osS s).map (subO σ)) := by
  subst hR
  have pn : ∀ {κ : Type} (ws : List (κ × PV)), nfF ws = true → RnF (fun i' j : Nat => [c, r, l, e, n, i][i']? = some j) ws ws := fun ws h => RnF.pure (nfF_pure h)
  have eR : subO σ (.dct (rowsD R0)) = .dct (rowsD (rwOf σ)) := rfl
  have pr : pureF (rowsD (rwOf σ)) = true := by
    apply plain_rows
    unfold plainR rwOf
    simp [nf_pure (hσ 100), nf_pure (hσ 101), nf_pure (hσ 102), nf_pure (hσ 103)]
  refine ⟨rfl, L.nd, fun j k q => ?_⟩
  match j, q with
  | 0, q =>
    have q : c = k := by simpa using q
    subst q
    exact ⟨_, _, rfl, L.gc, [("rows", .obj r)], rfl, .obj r, [], rfl, by unfold sub Rn; exact ⟨r, rfl, rfl⟩, rfl⟩
  | 1, q =>
    have q : r = k := by simpa using q
    subst q
    exact ⟨_, _, rfl, L.gr, RnO.pure (o := .dct (rowsD (rwOf σ))) pr⟩
  | 2, q =>
    have q : l = k := by simpa using q
    subst q
    refine ⟨_, _, rfl, L.gl, [("classes", .obj c), ("held", .obj e), ("own", .non), ("goal", cINT), ("names", .obj n), ("result", .non), ("is_contract", .bl false)], rfl, ?_⟩
    exact ⟨.obj c, _, rfl, by unfold sub Rn; exact ⟨c, rfl, rfl⟩, .obj e, _, rfl, by unfold sub Rn; exact ⟨e, rfl, rfl⟩, .non, _, rfl, by unfold sub Rn; rfl, cINT, _, rfl, Rn.pure rfl, .obj n, _, rfl, by unfold sub Rn; exact ⟨n, rfl, rfl⟩, .non, _, rfl, by unfold sub Rn; rfl, .bl false, _, rfl, by unfold sub Rn; rfl, rfl⟩
  | 3, q =>
    have q : e = k := by simpa using q
    subst q
    exact ⟨_, _, rfl, L.ge, [], rfl, rfl⟩
  | 4, q =>
    have q : n = k := by simpa using q
    subst q
    refine ⟨_, _, rfl, L.gn, nmS s, rfl, ?_⟩
    unfold nmS
    split
    · exact rfl
    · exact RnF.pure (by rfl)
    · exact RnF.pure (by rfl)
    · exact RnF.pure (by rfl)
  | 5, q =>
    have q : i = k := by simpa using q
    subst q
    refine ⟨_, _, rfl, L.gi, isS s, rfl, ?_⟩
    unfold isS
    split
    · exact rfl
    · exact RnF.pure (by rfl)
    · exact RnF.pure (by rfl)
    · exact rfl
end K07
set_option Elab.async false
set_option linter.all false
set_option maxRecDepth 100000
set_option maxHeartbeats 0
/-! OC: k07: need and kind_of where parts of a term are unknown: closed runs. -/
namespace K07
open PySem PySem.Spec PyProof.Rows L2 DD
def opP (g : Str) (a b : PV) : PV := .tup [.str "op", .str g, a, b]
def notP (a : PV) : PV := .tup [.str "not", a]
def callP (a : PV) (m : Str) (xs : List PV) : PV := .tup [.str "call", a, .str m, .tup xs]
def getP (a : PV) (f : Str) : PV := .tup [.str "get", a, .str f]
def isP (a : PV) (c : Str) : PV := .tup [.str "is", a, .str c]
def newP (k a : PV) : PV := .tup [.str "new", k, .tup [a]]
def numV (z : PV) : PV := .tup [.str "num", z]
def sg5 : Nat → Str
  | 0 => "+"
  | 1 => "-"
  | 2 => "*"
  | 3 => "/"
  | _ => "^"
def sg4 : Nat → Str
  | 0 => "<"
  | 1 => "<="
  | 2 => "=="
  | _ => "!="
def ab : Nat → Str
  | 0 => "a"
  | _ => "b"
def clAB : Nat → Str
  | 0 => "A"
  | _ => "B"
/-- answers at unknown terms: their kinds -/
def Vt (s : Nat) (sg : List (Nat × PV)) : VT := fun id ws h => match id, ws with
  | 24, [.obj l, .unk k, g, .obj i] => match sg.lookup k with
    | some g' => if eqV g g' && lookB s h l i then some (.ok .non h) else none
    | none => none
  | 25, [.obj l, .unk k, .obj i] => match sg.lookup k with
    | some g' => if eqV g' cINT && lookB s h l i then some (.ok cINT h) else none
    | none => none
  | _, _ => none
abbrev nT : Nat := 12
def clU (V : VT) (m id : Nat) (ws : List PV) (h : Hh) : Res PV := D.bs.step (D.bs.twr V m nT) (D.bs.twr V m (nT - 1)) id ws h
/-- a shape: state, what is known of parts, the term, its kind -/
structure Sh where
  s : Nat
  sg : List (Nat × PV)
  t : PV
  g : PV
def Sh.needR (m : Nat) (c : Sh) := obsR 6 (clU (Vt c.s c.sg) m 24 [.obj 2, c.t, c.g, .obj 5] (mkH (osS c.s)))
def Sh.kindR (m : Nat) (c : Sh) := obsR 6 (clU (Vt c.s c.sg) m 25 [.obj 2, c.t, .obj 5] (mkH (osS c.s)))
def u0 : PV := .unk 0
def u1 : PV := .unk 1
def ii : List (Nat × PV) := [(0, cINT), (1, cINT)]
def bb : List (Nat × PV) := [(0, cBOO), (1, cBOO)]
def st4 : List Nat := [0, 1, 2, 3]
def g5 : List Nat := [0, 1, 2, 3, 4]
def g4 : List Nat := [0, 1, 2, 3]
def shI : List Sh := (st4.map fun s => ⟨s, [], numV u0, cINT⟩) ++ [⟨2, [], nameP "i", cINT⟩] ++ (st4.flatMap fun s => g5.map fun g => ⟨s, ii, opP (sg5 g) u0 u1, cINT⟩) ++
  ([0, 1].map fun x => ⟨2, [], callP (nameP (ab x)) "m" [], cINT⟩) ++ ([0, 1].map fun x => ⟨2, [], getP (nameP (ab x)) "x", cINT⟩) ++ ([0, 1].map fun x => ⟨2, ii, callP (nameP (ab x)) "s" [u0], cINT⟩)
def shB : List Sh := ([0, 1].flatMap fun x => [0, 1].map fun c => ⟨2, [], isP (nameP (ab x)) (clAB c), cBOO⟩) ++ (st4.flatMap fun s => g4.map fun g => ⟨s, ii, opP (sg4 g) u0 u1, cBOO⟩) ++
  (st4.map fun s => ⟨s, bb, notP u0, cBOO⟩) ++ (st4.flatMap fun s => [⟨s, bb, opP "&&" u0 u1, cBOO⟩, ⟨s, bb, opP "||" u0 u1, cBOO⟩])
def shK : List Sh := (st4.map fun s => ⟨s, [], NUL, cKA⟩) ++ (st4.flatMap fun s => [0, 1].map fun c => ⟨s, ii, newP (kd (clAB c)) u0, cKA⟩)
theorem rIn (m : Nat) : shI.map (Sh.needR m) = shI.map fun c => (.val .non, (osS c.s).map some) := by kernel_rfl
theorem rIk (m : Nat) : shI.map (Sh.kindR m) = shI.map fun c => (.val cINT, (osS c.s).map some) := by kernel_rfl
theorem rBn (m : Nat) : shB.map (Sh.needR m) = shB.map fun c => (.val .non, (osS c.s).map some) := by kernel_rfl
theorem rKn (m : Nat) : shK.map (Sh.needR m) = shK.map fun c => (.val .non, (osS c.s).map some) := by kernel_rfl
end K07
set_option Elab.async false
set_option linter.all false
set_option maxRecDepth 100000
set_option maxHeartbeats 1000000
/-! OD: k07: terms that are let; need and kind_of keep their words at them. -/
namespace DD
open PySem PySem.Spec PyProof.Rows L2
theorem SubH.all {σ : Nat → PV} {h : Hh} (a : ∀ i, i < h.n → ∃ o, h.get i = some o) : SubH σ h (subH σ h) := ⟨subH_n σ h, fun i l => by
  obtain ⟨o, g⟩ := a i l
  rw [subH_get g, g]
  rfl⟩
end DD
namespace K07
open PySem PySem.Spec PyProof.Rows L2 DD
/-- a term's kind, in a state, by its depth -/
inductive Ty : Nat → PV → Nat → PV → Prop
  | num (s d : Nat) (z : Int) : Ty s cINT d (numV (.int z))
  | nm (d : Nat) : Ty 2 cINT d (nameP "i")
  | op (s d g : Nat) (a b : PV) (hg : g < 5) : Ty s cINT d a → Ty s cINT d b → Ty s cINT (d + 1) (opP (sg5 g) a b)
  | call (d x : Nat) (hx : x < 2) : Ty 2 cINT d (callP (nameP (ab x)) "m" [])
  | get (d x : Nat) (hx : x < 2) : Ty 2 cINT d (getP (nameP (ab x)) "x")
  | calls (d x : Nat) (a : PV) (hx : x < 2) : Ty 2 cINT d a → Ty 2 cINT (d + 1) (callP (nameP (ab x)) "s" [a])
  | is (d x c : Nat) (hx : x < 2) (hc : c < 2) : Ty 2 cBOO d (isP (nameP (ab x)) (clAB c))
  | cmp (s d g : Nat) (a b : PV) (hg : g < 4) : Ty s cINT d a → Ty s cINT d b → Ty s cBOO (d + 1) (opP (sg4 g) a b)
  | not (s d : Nat) (a : PV) : Ty s cBOO d a → Ty s cBOO (d + 1) (notP a)
  | and (s d : Nat) (a b : PV) : Ty s cBOO d a → Ty s cBOO d b → Ty s cBOO (d + 1) (opP "&&" a b)
  | or (s d : Nat) (a b : PV) : Ty s cBOO d a → Ty s cBOO d b → Ty s cBOO (d + 1) (opP "||" a b)
  | nul (s d : Nat) : Ty s cKA d NUL
  | new (s d c : Nat) (a : PV) (hc : c < 2) : Ty s cINT d a → Ty s cKA (d + 1) (newP (kd (clAB c)) a)
theorem Ty.nf {s d : Nat} {g t : PV} (h : Ty s g d t) : nfB t = true := by
  induction h with
  | num => rfl
  | nm => rfl
  | call => rfl
  | get => rfl
  | is => rfl
  | nul => rfl
  | op _ _ _ a b _ _ _ ia ib => simp [opP, nfB, nfsB, ia, ib]
  | cmp _ _ _ a b _ _ _ ia ib => simp [opP, nfB, nfsB, ia, ib]
  | and _ _ a b _ _ ia ib => simp [opP, nfB, nfsB, ia, ib]
  | or _ _ a b _ _ ia ib => simp [opP, nfB, nfsB, ia, ib]
  | not _ _ a _ ia => simp [notP, nfB, nfsB, ia]
  | calls _ _ a _ _ ia => simp [callP, nameP, nfB, nfsB, ia]
  | new _ _ _ a _ _ ia => simp [newP, kd, nfB, nfsB, ia]
theorem Ty.nfg {s d : Nat} {g t : PV} (h : Ty s g d t) : nfB g = true := by
  induction h <;> rfl
def σOf (a b : PV) (R : Rw) : Nat → PV
  | 0 => a
  | 1 => b
  | 100 => R.mi
  | 101 => R.be
  | 102 => R.af
  | 103 => R.zt
  | _ => .non
theorem σ_nf {a b : PV} {R : Rw} (ha : nfB a = true) (hb : nfB b = true) (hR : nfR R = true) : Nf (σOf a b R) := by
  unfold nfR at hR
  simp only [Bool.and_eq_true] at hR
  obtain ⟨h1, h2, h3, h4⟩ := hR
  intro n
  unfold σOf
  split
  · exact ha
  · exact hb
  · exact h1
  · exact h2
  · exact h3
  · exact h4
  · rfl
theorem σ_rw (a b : PV) (R : Rw) : R = rwOf (σOf a b R) := rfl
def shA : List Sh := shI ++ (shB ++ shK)
theorem rAn (m : Nat) : ∀ c ∈ shA, c.needR m = (.val .non, (osS c.s).map some) := by
  intro c hc
  rcases List.mem_append.mp hc with z | z
  · exact map_all (rIn m) c z
  · rcases List.mem_append.mp z with z | z
    · exact map_all (rBn m) c z
    · exact map_all (rKn m) c z
theorem m4 {s : Nat} (h : s < 4) : s ∈ st4 := by
  unfold st4; simp; omega
theorem m5 {s : Nat} (h : s < 5) : s ∈ g5 := by
  unfold g5; simp; omega
theorem m2 {x : Nat} (h : x < 2) : x ∈ ([0, 1] : List Nat) := by simp; omega
theorem shI1 {s : Nat} (h : s < 4) : (⟨s, [], numV u0, cINT⟩ : Sh) ∈ shI :=
  List.mem_append_left _ (List.mem_append_left _ (List.mem_append_left _ (List.mem_append_left _ (List.mem_append_left _ (List.mem_map.mpr ⟨s, m4 h, rfl⟩)))))
theorem shI2 : (⟨2, [], nameP "i", cINT⟩ : Sh) ∈ shI :=
  List.mem_append_left _ (List.mem_append_left _ (List.mem_append_left _ (List.mem_append_left _ (List.mem_append_right _ (List.mem_singleton.mpr rfl)))))
theorem shI3 {s g : Nat} (h : s < 4) (hg : g < 5) : (⟨s, ii, opP (sg5 g) u0 u1, cINT⟩ : Sh) ∈ shI :=
  List.mem_append_left _ (List.mem_append_left _ (List.mem_append_left _ (List.mem_append_right _ (List.mem_flatMap.mpr ⟨s, m4 h, List.mem_map.mpr ⟨g, m5 hg, rfl⟩⟩))))
theorem shI4 {x : Nat} (h : x < 2) : (⟨2, [], callP (nameP (ab x)) "m" [], cINT⟩ : Sh) ∈ shI :=
  List.mem_append_left _ (List.mem_append_left _ (List.mem_append_right _ (List.mem_map.mpr ⟨x, m2 h, rfl⟩)))
theorem shI5 {x : Nat} (h : x < 2) : (⟨2, [], getP (nameP (ab x)) "x", cINT⟩ : Sh) ∈ shI :=
  List.mem_append_left _ (List.mem_append_right _ (List.mem_map.mpr ⟨x, m2 h, rfl⟩))
theorem shI6 {x : Nat} (h : x < 2) : (⟨2, ii, callP (nameP (ab x)) "s" [u0], cINT⟩ : Sh) ∈ shI :=
  List.mem_append_right _ (List.mem_map.mpr ⟨x, m2 h, rfl⟩)
theorem shB1 {x c : Nat} (h : x < 2) (hc : c < 2) : (⟨2, [], isP (nameP (ab x)) (clAB c), cBOO⟩ : Sh) ∈ shB :=
  List.mem_append_left _ (List.mem_append_left _ (List.mem_append_left _ (List.mem_flatMap.mpr ⟨x, m2 h, List.mem_map.mpr ⟨c, m2 hc, rfl⟩⟩)))
theorem shB2 {s g : Nat} (h : s < 4) (hg : g < 4) : (⟨s, ii, opP (sg4 g) u0 u1, cBOO⟩ : Sh) ∈ shB :=
  List.mem_append_left _ (List.mem_append_left _ (List.mem_append_right _ (List.mem_flatMap.mpr ⟨s, m4 h, List.mem_map.mpr ⟨g, m4 hg, rfl⟩⟩)))
theorem shB3 {s : Nat} (h : s < 4) : (⟨s, bb, notP u0, cBOO⟩ : Sh) ∈ shB :=
  List.mem_append_left _ (List.mem_append_right _ (List.mem_map.mpr ⟨s, m4 h, rfl⟩))
theorem shB4 {s : Nat} (h : s < 4) : (⟨s, bb, opP "&&" u0 u1, cBOO⟩ : Sh) ∈ shB :=
  List.mem_append_right _ (List.mem_flatMap.mpr ⟨s, m4 h, by simp⟩)
theorem shB5 {s : Nat} (h : s < 4) : (⟨s, bb, opP "||" u0 u1, cBOO⟩ : Sh) ∈ shB :=
  List.mem_append_right _ (List.mem_flatMap.mpr ⟨s, m4 h, by simp⟩)
theorem shK1 {s : Nat} (h : s < 4) : (⟨s, [], NUL, cKA⟩ : Sh) ∈ shK := List.mem_append_left _ (List.mem_map.mpr ⟨s, m4 h, rfl⟩)
theorem shK2 {s c : Nat} (h : s < 4) (hc : c < 2) : (⟨s, ii, newP (kd (clAB c)) u0, cKA⟩ : Sh) ∈ shK := List.mem_append_right _ (List.mem_flatMap.mpr ⟨s, m4 h, List.mem_map.mpr ⟨c, m2 hc, rfl⟩⟩)
/-- a term by its shape -/
def Shp (s : Nat) (g : PV) (d : Nat) (t : PV) (c : Sh) : Prop := ∃ a b, c.s = s ∧ c.g = g ∧ nfB a = true ∧ nfB b = true ∧ (∀ R, t = sub (σOf a b R) c.t) ∧
  (c.sg = [] ∨ ∃ d' g', d = d' + 1 ∧ c.sg = [(0, g'), (1, g')] ∧ Ty s g' d' a ∧ Ty s g' d' b)
theorem sub_num (σ : Nat → PV) : sub σ (numV u0) = numV (σ 0) := by unfold numV u0 sub; unfold subs; unfold subs; unfold subs; unfold sub; rfl
theorem Ty.shapeI {s d : Nat} {g t : PV} (h : Ty s g d t) (hs : s < 4) (eg : g = cINT) : ∃ c ∈ shI, Shp s g d t c := by
  cases h with
  | num s d z => exact ⟨_, shI1 hs, .int z, .int z, rfl, rfl, rfl, rfl, fun R => by rw [sub_num]; rfl, .inl rfl⟩
  | nm d => exact ⟨_, shI2, .non, .non, rfl, rfl, rfl, rfl, fun R => (nf_sub (by rfl)).symm, .inl rfl⟩
  | op s d g a b hg ha hb => exact ⟨_, shI3 hs hg, a, b, rfl, rfl, ha.nf, hb.nf, fun R => by simp [opP, u0, u1, sub, subs, σOf], .inr ⟨d, cINT, rfl, rfl, ha, hb⟩⟩
  | call d x hx => exact ⟨_, shI4 hx, .non, .non, rfl, rfl, rfl, rfl, fun R => (nf_sub (by rfl)).symm, .inl rfl⟩
  | get d x hx => exact ⟨_, shI5 hx, .non, .non, rfl, rfl, rfl, rfl, fun R => (nf_sub (by rfl)).symm, .inl rfl⟩
  | calls d x a hx ha => exact ⟨_, shI6 hx, a, a, rfl, rfl, ha.nf, ha.nf, fun R => by simp [callP, nameP, u0, sub, subs, σOf], .inr ⟨d, cINT, rfl, rfl, ha, ha⟩⟩
  | _ => simp [kd] at eg
theorem Ty.shape {s d : Nat} {g t : PV} (h : Ty s g d t) (hs : s < 4) : ∃ c ∈ shA, Shp s g d t c := by
  have L : ∀ {c}, c ∈ shI → c ∈ shA := fun z => List.mem_append_left _ z
  have LB : ∀ {c}, c ∈ shB → c ∈ shA := fun z => List.mem_append_right _ (List.mem_append_left _ z)
  have LK : ∀ {c}, c ∈ shK → c ∈ shA := fun z => List.mem_append_right _ (List.mem_append_right _ z)
  have I : g = cINT → ∃ c ∈ shA, Shp s g d t c := fun e => by
    obtain ⟨c, hc, r⟩ := h.shapeI hs e
    exact ⟨c, L hc, r⟩
  cases h with
  | is d x c hx hc => exact ⟨_, LB (shB1 hx hc), .non, .non, rfl, rfl, rfl, rfl, fun R => (nf_sub (by rfl)).symm, .inl rfl⟩
  | cmp s d g a b hg ha hb => exact ⟨_, LB (shB2 hs hg), a, b, rfl, rfl, ha.nf, hb.nf, fun R => by simp [opP, u0, u1, sub, subs, σOf], .inr ⟨d, cINT, rfl, rfl, ha, hb⟩⟩
  | not s d a ha => exact ⟨_, LB (shB3 hs), a, a, rfl, rfl, ha.nf, ha.nf, fun R => by simp [notP, u0, sub, subs, σOf], .inr ⟨d, cBOO, rfl, rfl, ha, ha⟩⟩
  | and s d a b ha hb => exact ⟨_, LB (shB4 hs), a, b, rfl, rfl, ha.nf, hb.nf, fun R => by simp [opP, u0, u1, sub, subs, σOf], .inr ⟨d, cBOO, rfl, rfl, ha, hb⟩⟩
  | or s d a b ha hb => exact ⟨_, LB (shB5 hs), a, b, rfl, rfl, ha.nf, hb.nf, fun R => by simp [opP, u0, u1, sub, subs, σOf], .inr ⟨d, cBOO, rfl, rfl, ha, hb⟩⟩
  | nul s d => exact ⟨_, LK (shK1 hs), .non, .non, rfl, rfl, rfl, rfl, fun R => (nf_sub (by rfl)).symm, .inl rfl⟩
  | new s d c a hc ha => exact ⟨_, LK (shK2 hs hc), a, a, rfl, rfl, ha.nf, ha.nf, fun R => by simp [newP, kd, u0, sub, subs, σOf], .inr ⟨d, cINT, rfl, rfl, ha, ha⟩⟩
  | _ => exact I rfl
/-- need(t, g) at a term of kind g -/
def WN (d : Nat) : Wd := fun ws h r => ∃ l t g i s R c q e n, ws = [.obj l, t, g, .obj i] ∧ s < 4 ∧ Look h l i s R c q e n ∧ nfR R = true ∧ Ty s g d t ∧ r = .ok .non h
/-- kind_of(t) at a number's term -/
def WK (d : Nat) : Wd := fun ws h r => ∃ l t i s R c q e n, ws = [.obj l, t, .obj i] ∧ s < 4 ∧ Look h l i s R c q e n ∧ nfR R = true ∧ Ty s cINT d t ∧ r = .ok cINT h
theorem WN_call {d : Nat} {h : Hh} {l i s c q e n : Nat} {t g : PV} {R : Rw} (hs : s < 4) (L : Look h l i s R c q e n) (hR : nfR R = true) (T : Ty s g d t) : FP (WN d) [.obj l, t, g, .obj i] h = .ok .non h :=
  FP_of (fun r' ⟨_, _, _, _, _, _, _, _, _, _, _, _, _, _, _, e⟩ => e) ⟨l, t, g, i, s, R, c, q, e, n, rfl, hs, L, hR, T, rfl⟩
theorem WK_call {d : Nat} {h : Hh} {l i s c q e n : Nat} {t : PV} {R : Rw} (hs : s < 4) (L : Look h l i s R c q e n) (hR : nfR R = true) (T : Ty s cINT d t) : FP (WK d) [.obj l, t, .obj i] h = .ok cINT h :=
  FP_of (fun r' ⟨_, _, _, _, _, _, _, _, _, _, _, _, _, _, e⟩ => e) ⟨l, t, i, s, R, c, q, e, n, rfl, hs, L, hR, T, rfl⟩
section
variable {P : Program} {w : World} {K : PySem.W.Frag} {mg : Str → Option Value} {base : Heap} {ca fa : Nat → Addr}
/-- both words are kept at a depth -/
def NKok (P : Program) (w : World) (K : PySem.W.Frag) (mg : Str → Option Value) (base : Heap) (ca fa : Nat → Addr) (d k : Nat) : Prop := ∀ U f,
  (D.bs.T 24 = some f → FnGood P w K mg base ca fa U k 24 f (FP (WN d))) ∧ (D.bs.T 25 = some f → FnGood P w K mg base ca fa U k 25 f (FP (WK d)))
theorem vt_ok {σ : Nat → PV} (hσ : Nf σ) {d k s : Nat} {sg : List (Nat × PV)} (hk : NKok P w K mg base ca fa d k) (hs : s < 4) (hg : ∀ j g, sg.lookup j = some g → Ty s g d (σ j)) : OvOk P w K mg base ca fa D.bs σ (Vt s sg) k := by
  have nR : nfR (rwOf σ) = true := by unfold nfR rwOf; simp [hσ 100, hσ 101, hσ 102, hσ 103]
  intro id f hT ws h r e
  unfold Vt at e
  split at e
  · rename_i l j g i
    split at e
    · rename_i g' eg
      split at e
      · rename_i ok
        cases e
        rw [Bool.and_eq_true] at ok
        have := eqV_eq ok.1
        subst this
        obtain ⟨c, q, e', n, L⟩ := look_sub (σ := σ) ok.2
        have T := hg j g eg
        refine ⟨FP (WN d), (hk U0 f).1 hT, .inl ⟨.non, h, subH σ h, rfl, ?_, SubH.all⟩⟩
        have gn : subs σ [.obj l, .unk j, g, .obj i] = [.obj l, σ j, g, .obj i] := by
          have := T.nfg
          simp [subs, sub, nf_sub this]
        rw [gn]
        exact WN_call hs L nR T
      · cases e
    · cases e
  · rename_i l j i
    split at e
    · rename_i g' eg
      split at e
      · rename_i ok
        cases e
        rw [Bool.and_eq_true] at ok
        have := eqV_eq ok.1
        subst this
        obtain ⟨c, q, e', n, L⟩ := look_sub (σ := σ) ok.2
        have T := hg j _ eg
        refine ⟨FP (WK d), (hk U0 f).2 hT, .inl ⟨cINT, h, subH σ h, rfl, ?_, SubH.all⟩⟩
        have gn : subs σ [.obj l, .unk j, .obj i] = [.obj l, σ j, .obj i] := by
          simp [subs, sub]
        rw [gn, nf_sub (by rfl)]
        exact WK_call hs L nR T
      · cases e
    · cases e
  · cases e
theorem vt_nil {σ : Nat → PV} {s k : Nat} : OvOk P w K mg base ca fa D.bs σ (Vt s []) k := by
  intro id f hT ws h r e
  unfold Vt at e
  split at e <;> simp at e
theorem clU_eq {V : VT} {m id : Nat} {f : Fn0} (hT : D.bs.T id = some f) (ws : List PV) (h : Hh) : clU V m id ws h = runF (D.bs.sem f (D.bs.twr V m nT) (D.bs.twr V m (nT - 1))) f.N ws h := by
  unfold clU Bs.step
  rw [hT]
theorem nk_step (S : Sta P w K mg base ca fa D.bs) (d m : Nat) (hp : d = 0 ∨ ∃ d', d = d' + 1 ∧ NKok P w K mg base ca fa d' (2 * m + 6)) : NKok P w K mg base ca fa d (2 * m + 30) := by
  have ov : ∀ {s : Nat} {g t : PV} {R : Rw} {c : Sh} {a b : PV}, s < 4 → nfR R = true → nfB a = true → nfB b = true → (c.sg = [] ∨ ∃ d' g', d = d' + 1 ∧ c.sg = [(0, g'), (1, g')] ∧ Ty s g' d' a ∧ Ty s g' d' b) → OvOk P w K mg base ca fa D.bs (σOf a b R) (Vt s c.sg) (2 * m + 6) := by
    intro s g t R c a b hs hR ha hb q
    rcases q with q | ⟨d', g', ed, q, Ta, Tb⟩
    · rw [q]; exact vt_nil
    · rcases hp with z | ⟨d2, e2, hk⟩
      · omega
      · have : d2 = d' := by omega
        subst this
        rw [q]
        refine vt_ok (σ_nf ha hb hR) hk hs fun j g e => ?_
        match j, e with
        | 0, e => cases e; exact Ta
        | 1, e => cases e; exact Tb
        | j + 2, e => simp [List.lookup] at e
  intro U f
  constructor
  · intro hT
    refine wordU_ok (k := 2 * m + 4 + 2 * nT) S hT fun ws h r ⟨l, t, g, i, s, R, c, q, e, n, ew, hs, L, hR, T, er⟩ => ?_
    obtain ⟨cc, hc, a, b, es, eg, ha, hb, et, sgs⟩ := T.shape hs
    have hσ := σ_nf ha hb hR
    have tw := twr_ok S hσ (V := Vt s cc.sg) (m := m) (ov (g := g) (t := t) hs hR ha hb sgs) 11
    subst ew er
    refine ⟨σOf a b R, (fun U => U = ⟨σOf a b R⟩), _, _, [c, q, l, e, n, i], osS s, [.obj 2, cc.t, g, .obj 5], .val .non, hσ, rfl, tw.2, .inr ⟨_, rfl, tw.1⟩, look_fit L (σ_rw a b R) hσ, ?_, ?_, rfl, rfl⟩
    · have gn := T.nfg
      have : subs (σOf a b R) [.obj 2, cc.t, g, .obj 5] = [.obj 2, t, g, .obj 5] := by
        simp [subs, sub, nf_sub gn, ← et R]
      rw [this]
      unfold Rns
      refine ⟨.obj l, _, rfl, by unfold Rn; exact ⟨l, rfl, rfl⟩, ?_⟩
      unfold Rns
      refine ⟨t, _, rfl, Rn.pure (nf_pure T.nf), ?_⟩
      unfold Rns
      refine ⟨g, _, rfl, Rn.pure (nf_pure gn), ?_⟩
      unfold Rns
      exact ⟨.obj i, [], rfl, by unfold Rn; exact ⟨i, rfl, rfl⟩, by unfold Rns; rfl⟩
    · have := rAn m cc hc
      unfold Sh.needR at this
      rw [es, eg, clU_eq hT] at this
      exact this
  · intro hT
    refine wordU_ok (k := 2 * m + 4 + 2 * nT) S hT fun ws h r ⟨l, t, i, s, R, c, q, e, n, ew, hs, L, hR, T, er⟩ => ?_
    obtain ⟨cc, hc, a, b, es, eg, ha, hb, et, sgs⟩ := T.shapeI hs rfl
    have hσ := σ_nf ha hb hR
    have tw := twr_ok S hσ (V := Vt s cc.sg) (m := m) (ov (g := cINT) (t := t) hs hR ha hb sgs) 11
    subst ew er
    refine ⟨σOf a b R, (fun U => U = ⟨σOf a b R⟩), _, _, [c, q, l, e, n, i], osS s, [.obj 2, cc.t, .obj 5], .val cINT, hσ, rfl, tw.2, .inr ⟨_, rfl, tw.1⟩, look_fit L (σ_rw a b R) hσ, ?_, ?_, rfl, rfl⟩
    · have : subs (σOf a b R) [.obj 2, cc.t, .obj 5] = [.obj 2, t, .obj 5] := by
        simp [subs, sub, ← et R]
      rw [this]
      unfold Rns
      refine ⟨.obj l, _, rfl, by unfold Rn; exact ⟨l, rfl, rfl⟩, ?_⟩
      unfold Rns
      refine ⟨t, _, rfl, Rn.pure (nf_pure T.nf), ?_⟩
      unfold Rns
      exact ⟨.obj i, [], rfl, by unfold Rn; exact ⟨i, rfl, rfl⟩, by unfold Rns; rfl⟩
    · have := map_all (rIk m) cc hc
      unfold Sh.kindR at this
      rw [es, clU_eq hT] at this
      exact this
theorem nk_ok (S : Sta P w K mg base ca fa D.bs) : ∀ d, NKok P w K mg base ca fa d (24 * d + 30)
  | 0 => nk_step S 0 0 (.inl rfl)
  | d + 1 => by
    have := nk_step S (d + 1) (12 * (d + 1)) (.inr ⟨d, rfl, by
      have := nk_ok S d
      rw [show 2 * (12 * (d + 1)) + 6 = 24 * d + 30 by omega]
      exact this⟩)
    rw [show 24 * (d + 1) + 30 = 2 * (12 * (d + 1)) + 30 by omega]
    exact this
end
end K07
set_option Elab.async false
set_option linter.all false
set_option maxRecDepth 100000
set_option maxHeartbeats 0
/-! OE: k07: check_main at mains of which terms are unknown: closed runs. -/
namespace K07
open PySem PySem.Spec PyProof.Rows L2 DD
def varP (x : Str) (k t : PV) : PV := .tup [.str "var", .str x, k, t]
def setP (x : Str) (t : PV) : PV := .tup [.str "set", .str x, t]
def pttP (a : PV) (f : Str) (t : PV) : PV := .tup [.str "put", a, .str f, t]
def whlP (c : PV) (b : List PV) : PV := .tup [.str "while", c, .tup b]
def ifP (c : PV) (a b : List PV) : PV := .tup [.str "if", c, .tup a, .tup b]
def asP (a k : PV) : PV := .tup [.str "as", a, k]
def retP (t : PV) : PV := .tup [.str "return", t]
def doP (t : PV) : PV := .tup [.str "do", t]
def truP : PV := .tup [.str "truth", .bl true]
def num1 : PV := numV (.int 1)
/-- what is known of the unknown terms: kind, state -/
def kOf : Nat → Option (PV × Nat)
  | 0 => some (cINT, 0)
  | 1 => some (cINT, 1)
  | 2 => some (cINT, 2)
  | 3 => some (cINT, 2)
  | 4 => some (cBOO, 2)
  | 5 => some (cINT, 2)
  | 7 => some (cBOO, 3)
  | _ => none
def Vm : VT := fun id ws h => match id, ws with
  | 24, [.obj l, .unk k, g, .obj i] => match kOf k with
    | some (g', s) => if eqV g g' && lookB s h l i then some (.ok .non h) else none
    | none => none
  | _, _ => none
def inL : Bool → List PV
  | true => [pttP (nameP "a") "x" (.unk 2)]
  | false => []
/-- a thing's term by its shape -/
def thg (x : Nat) (u : PV) : PV := match x with
  | 0 => NUL
  | 1 => newP (kd "A") u
  | _ => newP (kd "B") u
def mainL (b : Bool) (x y : Nat) : List PV := [varP "a" cKA (thg x (.unk 0)), varP "b" cKA (thg y (.unk 1)), varP "i" cINT (numV (.int 0)),
  whlP (opP "<" (nameP "i") (numV (.unk 6))) ([setP "i" (opP "+" (nameP "i") num1)] ++ inL b),
  ifP (isP (nameP "b") "B") [pttP (asP (nameP "b") (kd "B")) "next" (nameP "a")] [],
  ifP (.unk 4) [retP (.unk 3)] [], retP (.unk 5)]
abbrev nM : Nat := 24
def clM (m id : Nat) (ws : List PV) (h : Hh) : Res PV := D.bs.step (D.bs.twr Vm m nM) (D.bs.twr Vm m (nM - 1)) id ws h
def os0 : List Ob := [insR 1, .dct (rowsD R0)]
def runM (m : Nat) (xs : List PV) := obsR 2 (clM m 38 [.obj 0, .tup xs] (mkH os0))
def lastP : PV := retP (nameP "z")
def varZ : PV := varP "z" cINT .non
def num2 : PV := numV (.int 2)
def newB1 : PV := newP (kd "B") num1
def xName (x : Str) : OR := .exc 2 [("word", .str x)]
def xKind (a b : PV) : OR := .exc 3 [("stands", a), ("due", b)]
def xUns : OR := .exc 4 []
/-- the mains by the drawn one, what is said of them -/
def tabM (mn : List PV) : List (List PV × OR) := [(mn, .val .non), (mn.take 6, xUns), (mn ++ [lastP], xUns), (mn.take 1 ++ mn, xName "a")]
def tabF : List (List PV × OR) := [
  ([lastP], xName "z"),
  ([varZ, lastP], xUns),
  ([varZ, ifP truP [setP "z" num1] [], lastP], xUns),
  ([varZ, whlP truP [setP "z" num1], lastP], xUns),
  ([varZ, setP "z" truP, lastP], xKind cBOO cINT),
  ([retP truP], xKind cBOO cINT),
  ([retP (opP "+" truP num1)], xKind cBOO cINT),
  ([ifP num1 [] [], retP num1], xKind cINT cBOO),
  ([doP (.tup [.str "new", kd "A", .tup []]), retP num1], xName "A"),
  ([doP (.tup [.str "new", kd "Z", .tup []]), retP num1], xName "Z"),
  ([varP "z" (kd "B") (newP (kd "A") num1), retP num1], xKind (kd "A") (kd "B")),
  ([doP (.tup [.str "this"]), retP num1], xName "this"),
  ([doP (getP num1 "x"), retP num1], xKind cINT (kd "Object")),
  ([doP (getP (newP (kd "A") num1) "y"), retP num1], xName "y"),
  ([doP (.tup [.str "result"]), retP num1], xName "result"),
  ([varZ, ifP (.unk 7) [setP "z" num1] [setP "z" num2], lastP], .val .non),
  ([varP "z" cKA newB1, retP (callP (nameP "z") "m" [])], .val .non),
  ([varP "t" cBOO (opP "==" NUL newB1), retP num1], .val .non)]
def shp : List (Nat × Nat) := [0, 1, 2].flatMap fun x => [0, 1, 2].map fun y => (x, y)
def allM : List (List PV × OR) := [true, false].flatMap fun b => shp.flatMap fun p => tabM (mainL b p.1 p.2)
theorem rMM (m : Nat) : allM.map (fun p => runM m p.1) = allM.map fun p => (p.2, os0.map some) := by kernel_rfl
theorem rMF (m : Nat) : tabF.map (fun p => runM m p.1) = tabF.map fun p => (p.2, os0.map some) := by kernel_rfl
end K07
set_option Elab.async false
set_option linter.all false
set_option maxRecDepth 100000
set_option maxHeartbeats 1000000
/-! OF: what is drawn by dice: own runs with unknown dice, all ways looked through. -/
namespace DD
open PySem PySem.Spec PyProof.Rows L2
abbrev Die := Int × Int × Int
def dieO (x : Die) : Ob := .lst [.int x.1, .int x.2.1, .int x.2.2]
/-- the dice behind j draws -/
def dieU (j : Nat) : Ob := .lst [.unk (100000 + 3 * j), .unk (100000 + 3 * j + 1), .unk (100000 + 3 * j + 2)]
def dieN (h : Hh) (d : Nat) : Option Nat := match h.get d with
  | some (.lst (.unk a :: _)) => if atB h d (dieU ((a - 100000) / 3)) then some ((a - 100000) / 3) else none
  | _ => none
theorem dieN_eq {h : Hh} {d j : Nat} (e : dieN h d = some j) : h.get d = some (dieU j) := by
  unfold dieN at e
  split at e
  · split at e
    · rename_i q
      cases e
      exact atB_eq q
    · cases e
  · cases e
theorem dieO_inj {x y : Die} (e : dieO x = dieO y) : x = y := by
  obtain ⟨a, b, c⟩ := x
  obtain ⟨a', b', c'⟩ := y
  simp [dieO] at e
  rw [e.1, e.2.1, e.2.2]
/-- arguments behind the dice -/
inductive Ag where
  | int (i : Int) | strs (xs : List Str)
def agB (h : Hh) : Ag → PV → Bool
  | .int i, .int j => decide (i = j)
  | .strs xs, .obj k => atB h k (.lst (xs.map .str))
  | _, _ => false
def agsB (h : Hh) : List Ag → List PV → Bool
  | [], [] => true
  | a :: as, w :: ws => agB h a w && agsB h as ws
  | _, _ => false
def AgP (h : Hh) : Ag → PV → Prop
  | .int i, .int j => i = j
  | .strs xs, .obj k => h.get k = some (.lst (xs.map .str))
  | _, _ => False
def AgsP (h : Hh) : List Ag → List PV → Prop
  | [], [] => True
  | a :: as, w :: ws => AgP h a w ∧ AgsP h as ws
  | _, _ => False
def objsOf : List PV → List Nat
  | [] => []
  | .obj k :: r => k :: objsOf r
  | _ :: r => objsOf r
def FitP (h : Hh) (d : Nat) (as : List Ag) (rest : List PV) : Prop := AgsP h as rest ∧ (d :: objsOf rest).Nodup
def fitB (h : Hh) (d : Nat) (as : List Ag) (rest : List PV) : Bool := agsB h as rest && ndB (d :: objsOf rest)
theorem strs_sub (σ : Nat → PV) : ∀ xs : List Str, subs σ (xs.map PV.str) = xs.map PV.str
  | [] => by unfold subs; rfl
  | x :: xs => by rw [List.map_cons]; unfold subs; rw [strs_sub σ xs]; unfold sub; rfl
theorem ags_sub {σ : Nat → PV} {h : Hh} : ∀ {as : List Ag} {ws : List PV}, agsB h as ws = true → AgsP (subH σ h) as (subs σ ws) ∧ objsOf (subs σ ws) = objsOf ws
  | [], [], _ => ⟨by unfold subs; trivial, by unfold subs; rfl⟩
  | [], _ :: _, e => by simp [agsB] at e
  | _ :: _, [], e => by simp [agsB] at e
  | a :: as, w :: ws, e => by
    have e : (agB h a w && agsB h as ws) = true := e
    rw [Bool.and_eq_true] at e
    obtain ⟨i1, i2⟩ := ags_sub (σ := σ) e.2
    have e1 := e.1
    rw [subs]
    match a, w, e1 with
    | .int i, .int j, e1 =>
      rw [show sub σ (.int j) = .int j by unfold sub; rfl]
      exact ⟨⟨show i = j from of_decide_eq_true e1, i1⟩, i2⟩
    | .strs xs, .obj k, e1 =>
      rw [show sub σ (.obj k) = .obj k by unfold sub; rfl]
      refine ⟨⟨?_, i1⟩, ?_⟩
      · show (subH σ h).get k = _
        rw [subH_get (atB_eq (show atB h k (.lst (xs.map .str)) = true from e1))]
        unfold subO
        rw [strs_sub]
      · show k :: objsOf (subs σ ws) = k :: objsOf ws
        rw [i2]
theorem fit_sub {σ : Nat → PV} {h : Hh} {d : Nat} {as : List Ag} {rest : List PV} (e : fitB h d as rest = true) : FitP (subH σ h) d as (subs σ rest) := by
  unfold fitB at e
  rw [Bool.and_eq_true] at e
  obtain ⟨a, b⟩ := ags_sub (σ := σ) e.1
  exact ⟨a, by rw [b]; exact ndB_ok e.2⟩
/-- a function that draws -/
def WD (as : List Ag) (f : Die → PV × Die) : Wd := fun ws h r => ∃ d rest x, ws = .obj d :: rest ∧ h.get d = some (dieO x) ∧ FitP h d as rest ∧ r = .ok (f x).1 (h.put d (dieO (f x).2))
theorem WD_call {as : List Ag} {f : Die → PV × Die} {h : Hh} {d : Nat} {rest : List PV} {x : Die} (e : h.get d = some (dieO x)) (q : FitP h d as rest) : FP (WD as f) (.obj d :: rest) h = .ok (f x).1 (h.put d (dieO (f x).2)) :=
  FP_of (fun r' ⟨d', rest', x', e1, e2, _, e3⟩ => by
    simp only [List.cons.injEq, PV.obj.injEq] at e1
    obtain ⟨p, _⟩ := e1
    subst p
    rw [e] at e2
    have := dieO_inj (Option.some.inj e2)
    subst this
    exact e3) ⟨d, rest, x, rfl, e, q, rfl⟩
/-- kinds of terms: state, kind, depth -/
abbrev Tsp := Nat × PV × Nat
/-- what a draw gives: its function, arguments, value, what is known of its unknown parts -/
structure Ev where
  id : Nat
  as : List Ag
  res : PV
  tys : List (Nat × Tsp) := []
def Vd (path : List Ev) : VT := fun id ws h => match ws with
  | .obj d :: rest => match dieN h d with
    | some j => match path[j]? with
      | some e => if Nat.beq e.id id && fitB h d e.as rest then some (.ok e.res (h.put d (dieU (j + 1)))) else none
      | none => none
    | none => none
  | _ => none
def Vor (V V2 : VT) : VT := fun id ws h => match V id ws h with
  | some r => some r
  | none => V2 id ws h
/-- what unknown ones stand for: parts of what was drawn; the dice -/
def σF (σ : Nat → PV) (xs : Nat → Die) : Nat → PV := fun n => if n < 100000 then σ n else
  if (n - 100000) % 3 = 0 then .int (xs ((n - 100000) / 3)).1 else if (n - 100000) % 3 = 1 then .int (xs ((n - 100000) / 3)).2.1 else .int (xs ((n - 100000) / 3)).2.2
theorem σF_lt {σ : Nat → PV} {xs : Nat → Die} {n : Nat} (h : n < 100000) : σF σ xs n = σ n := by unfold σF; rw [if_pos h]
theorem σF_nf {σ : Nat → PV} {xs : Nat → Die} (h : Nf σ) : Nf (σF σ xs) := by
  intro n
  unfold σF
  split
  · exact h n
  · split
    · rfl
    · split <;> rfl
theorem σF_die (σ : Nat → PV) (xs : Nat → Die) (j : Nat) : subO (σF σ xs) (dieU j) = dieO (xs j) := by
  have e0 : σF σ xs (100000 + 3 * j) = .int (xs j).1 := by
    unfold σF
    rw [if_neg (by omega), if_pos (by omega), show (100000 + 3 * j - 100000) / 3 = j by omega]
  have e1 : σF σ xs (100000 + 3 * j + 1) = .int (xs j).2.1 := by
    unfold σF
    rw [if_neg (by omega), if_neg (by omega), if_pos (by omega), show (100000 + 3 * j + 1 - 100000) / 3 = j by omega]
  have e2 : σF σ xs (100000 + 3 * j + 2) = .int (xs j).2.2 := by
    unfold σF
    rw [if_neg (by omega), if_neg (by omega), if_neg (by omega), show (100000 + 3 * j + 2 - 100000) / 3 = j by omega]
  simp [dieU, subO, subs, sub, e0, e1, e2, dieO]
/-! ### starts -/
def mkWs : Nat → List Ag → List PV
  | _, [] => []
  | n, .int i :: as => .int i :: mkWs n as
  | n, .strs _ :: as => .obj n :: mkWs (n + 1) as
def mkOs : List Ag → List Ob
  | [] => []
  | .int _ :: as => mkOs as
  | .strs xs :: as => .lst (xs.map .str) :: mkOs as
theorem strs_pure : ∀ xs : List Str, puresB (xs.map PV.str) = true
  | [] => by unfold puresB; rfl
  | x :: xs => by rw [List.map_cons]; unfold puresB; rw [strs_pure xs]; unfold pureB; rfl
theorem ags_len {h : Hh} : ∀ {as : List Ag} {ws : List PV}, AgsP h as ws → (mkOs as).length = (objsOf ws).length
  | [], [], _ => rfl
  | [], _ :: _, e => e.elim
  | _ :: _, [], e => e.elim
  | a :: as, w :: ws, ⟨e1, e2⟩ => by
    have i := ags_len e2
    unfold AgP at e1
    split at e1
    · exact i
    · show (mkOs as).length + 1 = (objsOf ws).length + 1
      rw [i]
    · exact e1.elim
theorem ags_at {h : Hh} : ∀ {as : List Ag} {ws : List PV} {i j : Nat}, AgsP h as ws → (objsOf ws)[i]? = some j → ∃ o, (mkOs as)[i]? = some o ∧ h.get j = some o ∧ pureO o = true ∧ ∀ σ, subO σ o = o
  | [], [], i, j, _, q => by simp [objsOf] at q
  | [], _ :: _, _, _, e, _ => e.elim
  | _ :: _, [], _, _, e, _ => e.elim
  | .int z :: as, .int y :: ws, i, j, ⟨e1, e2⟩, q => ags_at (as := as) (ws := ws) e2 q
  | .strs xs :: as, .obj k :: ws, 0, j, ⟨e1, e2⟩, q => by
    have q : k = j := by simpa [objsOf] using q
    subst q
    exact ⟨_, rfl, e1, strs_pure xs, fun σ => by unfold subO; rw [strs_sub]⟩
  | .strs xs :: as, .obj k :: ws, i + 1, j, ⟨e1, e2⟩, q => by
    obtain ⟨o, a, b⟩ := ags_at (i := i) (j := j) e2 (by simpa [objsOf] using q)
    exact ⟨o, by simpa [mkOs] using a, b⟩
  | .int _ :: as, .obj _ :: ws, _, _, ⟨e1, e2⟩, q => e1.elim
  | .int _ :: as, .non :: ws, _, _, ⟨e1, e2⟩, q => e1.elim
  | .int _ :: as, .bl _ :: ws, _, _, ⟨e1, e2⟩, q => e1.elim
  | .int _ :: as, .str _ :: ws, _, _, ⟨e1, e2⟩, q => e1.elim
  | .int _ :: as, .tup _ :: ws, _, _, ⟨e1, e2⟩, q => e1.elim
  | .int _ :: as, .exn _ _ :: ws, _, _, ⟨e1, e2⟩, q => e1.elim
  | .int _ :: as, .unk _ :: ws, _, _, ⟨e1, e2⟩, q => e1.elim
  | .strs _ :: as, .int _ :: ws, _, _, ⟨e1, e2⟩, q => e1.elim
  | .strs _ :: as, .non :: ws, _, _, ⟨e1, e2⟩, q => e1.elim
  | .strs _ :: as, .bl _ :: ws, _, _, ⟨e1, e2⟩, q => e1.elim
  | .strs _ :: as, .str _ :: ws, _, _, ⟨e1, e2⟩, q => e1.elim
  | .strs _ :: as, .tup _ :: ws, _, _, ⟨e1, e2⟩, q => e1.elim
  | .strs _ :: as, .exn _ _ :: ws, _, _, ⟨e1, e2⟩, q => e1.elim
  | .strs _ :: as, .unk _ :: ws, _, _, ⟨e1, e2⟩, q => e1.elim
theorem mkWs_sub (σ : Nat → PV) : ∀ (as : List Ag) (n : Nat), subs σ (mkWs n as) = mkWs n as
  | [], _ => by unfold mkWs subs; rfl
  | .int i :: as, n => by unfold mkWs subs; rw [mkWs_sub σ as]; unfold sub; rfl
  | .strs xs :: as, n => by unfold mkWs subs; rw [mkWs_sub σ as]; unfold sub; rfl
theorem mkWs_rns {h : Hh} {Φ : Nat → Nat → Prop} : ∀ {as : List Ag} {ws : List PV} (n : Nat), AgsP h as ws → (∀ i j, (objsOf ws)[i]? = some j → Φ (n + i) j) → Rns Φ (mkWs n as) ws
  | [], [], _, _, _ => by unfold mkWs Rns; rfl
  | [], _ :: _, _, e, _ => e.elim
  | _ :: _, [], _, e, _ => e.elim
  | a :: as, w :: ws, n, ⟨e1, e2⟩, p => by
    unfold AgP at e1
    split at e1
    · subst e1
      unfold mkWs Rns
      exact ⟨_, ws, rfl, Rn.pure rfl, mkWs_rns n e2 p⟩
    · rename_i xs k
      unfold mkWs Rns
      refine ⟨_, ws, rfl, ?_, mkWs_rns (n + 1) e2 fun i j q => ?_⟩
      · unfold Rn
        exact ⟨k, p 0 k (by simp [objsOf]), rfl⟩
      · rw [show n + 1 + i = n + (i + 1) by omega]
        exact p (i + 1) j (by simpa [objsOf] using q)
    · exact e1.elim
/-- the first of some things is changed, a plain value comes of it -/
theorem RnR.put0 {h : Hh} {φ : List Nat} {os : List Ob} (F : Fit h φ os) {d : Nat} (hd : φ[0]? = some d) {o' : Ob} {h2 : Hh} {w : PV} (p' : pureO o' = true) (pw : pureB w = true) (h0 : h2.get 0 = some o') (hk : ∀ i, 0 < i → i < os.length → h2.get i = os[i]?) : RnR h φ (.ok w h2) (.ok w (h.put d o')) := by
  have ld : d < h.n := F.lt d (List.mem_of_getElem? hd)
  refine ⟨[], w, _, rfl, ⟨by rw [Hh.n_put]; rfl, List.nodup_nil, fun _ z => (by cases z), fun i j q => ?_, fun j lt nj => ?_, fun k i q => by cases q⟩, Rn.pure pw⟩
  · cases i with
    | zero =>
      rw [hd] at q
      cases q
      exact ⟨o', o', h0, by rw [Hh.get_put _ _ _ _ ld, if_pos rfl], RnO.pure p'⟩
    | succ i =>
      obtain ⟨o1, o2, a, b, c⟩ := F.at_ (i + 1) j q
      have li : i + 1 < os.length := (List.getElem?_eq_some_iff.mp a).1
      have ne : j ≠ d := fun z => by
        subst z
        letI : Ups := U0
        have := nodup_at F.nd q hd
        omega
      exact ⟨o1, o2, by rw [hk (i + 1) (by omega) li]; exact a, by rw [Hh.get_put _ _ _ _ ld, if_neg ne]; exact b, c.mono fun i j e => .inl e⟩
  · have ne : j ≠ d := fun z => nj (by rw [z]; exact List.mem_of_getElem? hd)
    rw [Hh.get_put _ _ _ _ ld, if_neg ne]
def restB (h : Hh) : Nat → List Ob → Bool
  | _, [] => true
  | n, o :: os => atB h n o && restB h (n + 1) os
theorem restB_at {h : Hh} : ∀ {os : List Ob} {n : Nat}, restB h n os = true → ∀ i, i < os.length → h.get (n + i) = os[i]?
  | [], _, _, i, hi => absurd hi (Nat.not_lt_zero _)
  | o :: os, n, e, i, hi => by
    have e : (atB h n o && restB h (n + 1) os) = true := e
    rw [Bool.and_eq_true] at e
    cases i with
    | zero => exact atB_eq e.1
    | succ i =>
      rw [show n + (i + 1) = n + 1 + i by omega, List.getElem?_cons_succ]
      exact restB_at e.2 i (by simpa using hi)
/-- what a run gives: the value, how many draws were made -/
def outD (os : List Ob) (r : Res PV) : Option (PV × Nat) := match r with
  | .ok w h2 => match dieN h2 0 with
    | some j => if restB h2 1 os then some (w, j) else none
    | none => none
  | _ => none
theorem outD_eq {os : List Ob} {r : Res PV} {w : PV} {j : Nat} (e : outD os r = some (w, j)) : ∃ h2, r = .ok w h2 ∧ h2.get 0 = some (dieU j) ∧ ∀ i, i < os.length → h2.get (1 + i) = os[i]? := by
  cases r with
  | ok v h2 =>
    have e : (match dieN h2 0 with
      | some j => if restB h2 1 os then some (v, j) else none
      | none => none) = some (w, j) := e
    cases q : dieN h2 0 with
    | none => rw [q] at e; cases e
    | some j' =>
      rw [q] at e
      have e : (if restB h2 1 os then some (v, j') else none) = some (w, j) := e
      by_cases rr : restB h2 1 os = true
      · rw [if_pos rr] at e
        cases e
        exact ⟨h2, rfl, dieN_eq q, restB_at rr⟩
      · rw [if_neg rr] at e
        cases e
  | exc _ _ _ => cases e
  | bad => cases e
section
variable {P : Program} {w : World} {K : PySem.W.Frag} {mg : Str → Option Value} {base : Heap} {ca fa : Nat → Addr} {B : Bs}
/-- a function draws as said -/
def DGood (P : Program) (w : World) (K : PySem.W.Frag) (mg : Str → Option Value) (base : Heap) (ca fa : Nat → Addr) (B : Bs) (k id : Nat) (as : List Ag) (f : Die → PV × Die) : Prop :=
  (∀ U fn, B.T id = some fn → FnGood P w K mg base ca fa U k id fn (FP (WD as f))) ∧ ∀ x, nfB (f x).1 = true
theorem DGood.mono {k k' id : Nat} {as : List Ag} {f : Die → PV × Die} (h : DGood P w K mg base ca fa B k id as f) (le : k ≤ k') : DGood P w K mg base ca fa B k' id as f :=
  ⟨fun U fn hT => (h.1 U fn hT).mono le, h.2⟩
/-- what was drawn goes with a way -/
def Con (P : Program) (w : World) (K : PySem.W.Frag) (mg : Str → Option Value) (base : Heap) (ca fa : Nat → Addr) (B : Bs) (TyP : (Nat → PV) → Nat → Tsp → Prop) (k : Nat) (path : List Ev) (σ : Nat → PV) (xs : Nat → Die) : Prop :=
  ∀ j e, path[j]? = some e → ∃ f, DGood P w K mg base ca fa B k e.id e.as f ∧ (f (xs j)).2 = xs (j + 1) ∧
    ∀ σ' : Nat → PV, (∀ u, u < 100 → σ' (100 * j + u) = σ (100 * j + u)) → (f (xs j)).1 = sub σ' e.res ∧ ∀ p ∈ e.tys, TyP σ' p.1 p.2
theorem vd_ok {TyP : (Nat → PV) → Nat → Tsp → Prop} {k : Nat} {path : List Ev} {σ : Nat → PV} {xs : Nat → Die} (c : Con P w K mg base ca fa B TyP k path σ xs) (l : path.length < 900) : OvOk P w K mg base ca fa B (σF σ xs) (Vd path) k := by
  intro id f hT ws h r e
  unfold Vd at e
  split at e
  · rename_i d rest
    split at e
    · rename_i j ej
      split at e
      · rename_i ev ep
        split at e
        · rename_i ok
          cases e
          rw [Bool.and_eq_true] at ok
          have ei := Nat.eq_of_beq_eq_true ok.1
          obtain ⟨f', ⟨g1, g2⟩, fx, fs⟩ := c j ev ep
          have lj : j < path.length := (List.getElem?_eq_some_iff.mp ep).1
          obtain ⟨e1, _⟩ := fs (σF σ xs) fun u hu => σF_lt (by omega)
          have gd := dieN_eq ej
          have gd' : (subH (σF σ xs) h).get d = some (dieO (xs j)) := by rw [subH_get gd, σF_die]
          have ld := Hh.get_lt gd
          refine ⟨FP (WD ev.as f'), by rw [← ei] at hT ⊢; exact g1 U0 f hT, .inl ⟨ev.res, _, (subH (σF σ xs) h).put d (dieO (xs (j + 1))), rfl, ?_, fun al => ⟨by rw [Hh.n_put, Hh.n_put, subH_n], fun i hi => ?_⟩⟩⟩
          · have : subs (σF σ xs) (.obj d :: rest) = .obj d :: subs (σF σ xs) rest := by
              rw [subs]
              unfold sub
              rfl
            rw [this, WD_call gd' (fit_sub ok.2), e1, fx]
          · rw [Hh.n_put] at hi
            rw [Hh.get_put _ _ _ _ (by rw [subH_n]; exact ld), Hh.get_put _ _ _ _ ld]
            by_cases q : i = d
            · rw [if_pos q, if_pos q, Option.map_some, σF_die]
            · rw [if_neg q, if_neg q]
              obtain ⟨o, g⟩ := al i hi
              rw [subH_get g, g]
              rfl
        · cases e
      · cases e
    · cases e
  · cases e
theorem vor_ok {σ : Nat → PV} {V V2 : VT} {k : Nat} (a : OvOk P w K mg base ca fa B σ V k) (b : OvOk P w K mg base ca fa B σ V2 k) : OvOk P w K mg base ca fa B σ (Vor V V2) k := by
  intro id f hT ws h r e
  unfold Vor at e
  split at e
  · rename_i q
    cases e
    exact a id f hT ws h _ q
  · exact b id f hT ws h r e
/-- a function draws, by its runs -/
theorem wordD_ok (S : Sta P w K mg base ca fa B) {k id : Nat} {as : List Ag} {f : Die → PV × Die}
    (hW : ∀ fn, B.T id = some fn → ∀ x, ∃ (σ : Nat → PV) (xs : Nat → Die) (G : Ups → Prop) (C Cl : CT) (v : PV) (j : Nat), Nf σ ∧ xs 0 = x ∧ G ⟨σF σ xs⟩ ∧ CtOk P w K mg base ca fa B G C k ∧
      ((∀ x n hs, B.gl x ≠ .told n hs) ∨ ∃ k', k = k' + 2 ∧ CtOk P w K mg base ca fa B G Cl k') ∧
      outD (mkOs as) (runF (B.sem fn C Cl) fn.N (.obj 0 :: mkWs 1 as) (mkH (dieU 0 :: mkOs as))) = some (v, j) ∧ nfB (sub (σF σ xs) v) = true ∧ f x = (sub (σF σ xs) v, xs j)) (hn : ∀ x, nfB (f x).1 = true) : DGood P w K mg base ca fa B (k + 2) id as f := by
  refine ⟨fun U fn hT => step_ok S hT fun ws h ρ H vs Q E R r x => ?_, hn⟩
  rcases FP_cases (WD as f) ws h with e | ⟨d, rest, x0, ew, gd, fp, er⟩
  · rw [e] at x; exact x.elim
  · obtain ⟨σ, xs, G, C, Cl, v, j, hσ, x0e, hG, hC, hl, eo, pn, ef⟩ := hW fn hT x0
    have hσF := σF_nf (xs := xs) hσ
    obtain ⟨ap, nd⟩ := fp
    have F : Fit h (d :: objsOf rest) ((dieU 0 :: mkOs as).map (subO (σF σ xs))) := by
      refine ⟨by rw [List.length_map, List.length_cons, List.length_cons, ags_len ap], nd, fun i j q => ?_⟩
      cases i with
      | zero =>
        have q : d = j := by simpa using q
        subst q
        refine ⟨_, _, rfl, gd, ?_⟩
        rw [σF_die, x0e]
        exact RnO.pure rfl
      | succ i =>
        obtain ⟨o, a, b, c, s⟩ := ags_at (i := i) (j := j) ap (by simpa using q)
        exact ⟨o, o, by rw [List.getElem?_map, List.getElem?_cons_succ, a, Option.map_some, s], b, RnO.pure c⟩
    have rn : Rns (fun i j : Nat => (d :: objsOf rest)[i]? = some j) (subs (σF σ xs) (.obj 0 :: mkWs 1 as)) ws := by
      rw [subs, mkWs_sub, ew]
      unfold sub
      unfold Rns
      refine ⟨.obj d, rest, rfl, by unfold Rn; exact ⟨d, rfl, rfl⟩, mkWs_rns 1 ap fun i j q => ?_⟩
      rw [show 1 + i = i + 1 by omega, List.getElem?_cons_succ]
      exact q
    have R' := R.sub F.lt F.nd (h' := mkH ((dieU 0 :: mkOs as).map (subO (σF σ xs)))) (by rw [mkH_n, F.len]) fun i j e => by
      obtain ⟨o', o, a, b, c⟩ := F.at_ i j e
      exact ⟨o', o, by rw [mkH_get]; exact a, b, c⟩
    have R2 := ((SubH.mk (σ := σF σ xs) (dieU 0 :: mkOs as)).rel U hσF).mpr R'
    have r2 := (subs_rv U (ρ := subR ρ (d :: objsOf rest)) (H := H) (K := K) hσF (.obj 0 :: mkWs 1 as) vs).mpr ((rn.rv (fun i j e a => subR_at R F.lt e a) vs).mpr r)
    refine ⟨⟨σF σ xs⟩, G, C, Cl, hG, hC, hl, subR ρ (d :: objsOf rest), .obj 0 :: mkWs 1 as, mkH (dieU 0 :: mkOs as), R2, r2, ?_⟩
    obtain ⟨h2, e1, e2, e3⟩ := outD_eq eo
    rw [er, ef] at x
    rw [e1]
    intro ρ2 H2 u E2 Rn2 rv
    have sh := SubH.of (U := ⟨σF σ xs⟩) (σ := σF σ xs) Rn2
    have Rn3 := (sh.rel U hσF).mp Rn2
    have rv3 := (sub_rv U hσF v u).mp rv
    refine (RnR.put0 F (d := d) rfl (o' := dieO (xs j)) (h2 := subH (σF σ xs) h2) rfl (nf_pure pn) (by rw [subH_get e2, σF_die]) fun i hi0 hi => ?_).wf R F.lt F.nd x ρ2 H2 u E2 Rn3 rv3
    rw [List.length_map, List.length_cons] at hi
    cases i with
    | zero => omega
    | succ i =>
      have li : i < (mkOs as).length := by omega
      have := e3 i li
      rw [show 1 + i = i + 1 by omega, List.getElem?_eq_getElem li] at this
      rw [subH_get this, List.getElem?_map, List.getElem?_cons_succ, List.getElem?_eq_getElem li]
      rfl
end
end DD
set_option Elab.async false
set_option linter.all false
set_option maxRecDepth 100000
set_option maxHeartbeats 1000000
/-! OG: all ways of drawing looked through by own runs. -/
namespace DD
open PySem PySem.Spec PyProof.Rows L2
mutual
theorem pure_nf {σ : Nat → PV} (hσ : Nf σ) : ∀ {w : PV}, pureB w = true → nfB (sub σ w) = true
  | .non, _ => by unfold sub; rfl
  | .bl _, _ => by unfold sub; rfl
  | .int _, _ => by unfold sub; rfl
  | .str _, _ => by unfold sub; rfl
  | .unk n, _ => by unfold sub; exact hσ n
  | .obj _, h => by simp [pureB] at h
  | .exn _ _, h => by simp [pureB] at h
  | .tup xs, h => by
    unfold sub nfB
    exact pures_nf hσ (by simpa [pureB] using h)
theorem pures_nf {σ : Nat → PV} (hσ : Nf σ) : ∀ {ws : List PV}, puresB ws = true → nfsB (subs σ ws) = true
  | [], _ => by unfold subs; rfl
  | x :: xs, h => by
    have h : (pureB x && puresB xs) = true := by simpa [puresB] using h
    rw [Bool.and_eq_true] at h
    unfold subs nfsB
    rw [pure_nf hσ h.1, pures_nf hσ h.2]
    rfl
end
/-- asked for a draw beyond the way: told by an exception -/
def argT (h : Hh) : PV → PV
  | .obj k => match h.get k with
    | some (.lst xs) => .tup xs
    | _ => .non
  | w => w
def Vx (ids : List Nat) (path : List Ev) : VT := fun id ws h => match Vd path id ws h with
  | some r => some r
  | none => match ids.contains id, ws with
    | true, .obj d :: rest => match dieN h d with
      | some _ => some (.exc 999 [("id", .int id), ("args", .tup (rest.map (argT h)))] h)
      | none => none
    | _, _ => none
section
variable (B : Bs) (m n : Nat) (V2 : VT) (id : Nat) (as : List Ag)
def runV (V : VT) : Res PV := B.step (B.twr V m (n + 1)) (B.twr V m n) id (.obj 0 :: mkWs 1 as) (mkH (dieU 0 :: mkOs as))
def runD (path : List Ev) : Option (PV × Nat) := outD (mkOs as) (runV B m n id as (Vor (Vd path) V2))
def askD (ids : List Nat) (path : List Ev) : Option (Int × List PV) := match runV B m n id as (Vor (Vx ids path) V2) with
  | .exc _ [(_, .int i), (_, .tup args)] _ => some (i, args)
  | _ => none
/-- all ways end well -/
def chk (ids : List Nat) (opts : Nat → Int → List PV → Option (List Ev)) (gd : List Ev → PV → Bool) : Nat → List Ev → Bool
  | 0, _ => false
  | k + 1, path => match runD B m n V2 id as path with
    | some (w, _) => pureB w && gd path w
    | none => match askD B m n V2 id as ids path with
      | some (i, args) => match opts path.length i args with
        | some evs => evs.all fun e => chk ids opts gd k (path ++ [e])
        | none => false
      | none => false
end
section
variable {P : Program} {w : World} {K : PySem.W.Frag} {mg : Str → Option Value} {base : Heap} {ca fa : Nat → Addr} {B : Bs}
/-- some of the answers is the one that is drawn -/
def Cov (P : Program) (w : World) (K : PySem.W.Frag) (mg : Str → Option Value) (base : Heap) (ca fa : Nat → Addr) (B : Bs) (TyP : (Nat → PV) → Nat → Tsp → Prop) (k j : Nat) (evs : List Ev) : Prop :=
  ∃ id as f, DGood P w K mg base ca fa B k id as f ∧ (∀ e ∈ evs, e.id = id ∧ e.as = as) ∧ ∀ x : Die, ∃ e ∈ evs, ∃ τ : Nat → PV, Nf τ ∧
    ∀ σ' : Nat → PV, (∀ u, u < 100 → σ' (100 * j + u) = τ u) → (f x).1 = sub σ' e.res ∧ ∀ p ∈ e.tys, TyP σ' p.1 p.2
theorem con_snoc {TyP : (Nat → PV) → Nat → Tsp → Prop} {k : Nat} {path : List Ev} {σ : Nat → PV} {xs : Nat → Die} (c : Con P w K mg base ca fa B TyP k path σ xs) (hσ : Nf σ) {evs : List Ev} (hc : Cov P w K mg base ca fa B TyP k path.length evs) :
    ∃ e ∈ evs, ∃ (σ2 : Nat → PV) (xs2 : Nat → Die), Nf σ2 ∧ xs2 0 = xs 0 ∧ Con P w K mg base ca fa B TyP k (path ++ [e]) σ2 xs2 := by
  obtain ⟨id, as, f, gd, he, cv⟩ := hc
  obtain ⟨e, hm, τ, hτ, ht⟩ := cv (xs path.length)
  refine ⟨e, hm, fun i => if 100 * path.length ≤ i ∧ i < 100 * path.length + 100 then τ (i - 100 * path.length) else σ i, fun i => if i = path.length + 1 then (f (xs path.length)).2 else xs i, fun i => ?_, if_neg (by omega), fun j e' ej => ?_⟩
  · show nfB (if _ then _ else _) = true
    split
    · exact hτ _
    · exact hσ _
  · by_cases lj : j < path.length
    · rw [List.getElem?_append_left lj] at ej
      obtain ⟨f', g', fx, fs⟩ := c j e' ej
      refine ⟨f', g', ?_, fun σ' ag => ?_⟩
      · show (f' (if j = path.length + 1 then _ else xs j)).2 = if j + 1 = path.length + 1 then _ else xs (j + 1)
        rw [if_neg (by omega), if_neg (by omega)]
        exact fx
      · show (f' (if j = path.length + 1 then _ else xs j)).1 = _ ∧ _
        rw [if_neg (by omega)]
        refine fs σ' fun u hu => (ag u hu).trans ?_
        show (if _ then _ else _) = _
        rw [if_neg (by omega)]
    · have lj2 : j = path.length := by
        have := (List.getElem?_eq_some_iff.mp ej).1
        simp at this
        omega
      subst lj2
      rw [List.getElem?_append_right (Nat.le_refl _), Nat.sub_self] at ej
      cases ej
      obtain ⟨h1, h2⟩ := he e hm
      refine ⟨f, by rw [h1, h2]; exact gd, ?_, fun σ' ag => ?_⟩
      · show (f (if path.length = path.length + 1 then _ else xs path.length)).2 = if path.length + 1 = path.length + 1 then _ else _
        rw [if_neg (by omega), if_pos rfl]
      · show (f (if path.length = path.length + 1 then _ else xs path.length)).1 = _ ∧ _
        rw [if_neg (by omega)]
        refine ht σ' fun u hu => (ag u hu).trans ?_
        show (if _ then _ else _) = _
        rw [if_pos ⟨by omega, by omega⟩, show 100 * path.length + u - 100 * path.length = u by omega]
theorem expl {TyP : (Nat → PV) → Nat → Tsp → Prop} {k : Nat} {m n id : Nat} {as : List Ag} {V2 : VT} {ids : List Nat} {opts : Nat → Int → List PV → Option (List Ev)} {gd : List Ev → PV → Bool}
    (ho : ∀ j i args evs, j < 900 → opts j i args = some evs → Cov P w K mg base ca fa B TyP k j evs) : ∀ (t : Nat) (path : List Ev) (σ : Nat → PV) (xs : Nat → Die), Con P w K mg base ca fa B TyP k path σ xs → Nf σ → path.length + t ≤ 900 → chk B m n V2 id as ids opts gd t path = true →
      ∃ (path2 : List Ev) (σ2 : Nat → PV) (xs2 : Nat → Die) (v : PV) (j : Nat), Con P w K mg base ca fa B TyP k path2 σ2 xs2 ∧ Nf σ2 ∧ xs2 0 = xs 0 ∧ path2.length < 900 ∧ runD B m n V2 id as path2 = some (v, j) ∧ pureB v = true ∧ gd path2 v = true
  | 0, path, σ, xs, c, hσ, l, e => by cases e
  | t + 1, path, σ, xs, c, hσ, l, e => by
    have e : (match runD B m n V2 id as path with
      | some (w, _) => pureB w && gd path w
      | none => match askD B m n V2 id as ids path with
        | some (i, args) => match opts path.length i args with
          | some evs => evs.all fun e => chk B m n V2 id as ids opts gd t (path ++ [e])
          | none => false
        | none => false) = true := e
    cases q : runD B m n V2 id as path with
    | some p =>
      obtain ⟨v, j⟩ := p
      rw [q] at e
      have e : (pureB v && gd path v) = true := e
      rw [Bool.and_eq_true] at e
      exact ⟨path, σ, xs, v, j, c, hσ, rfl, by omega, q, e.1, e.2⟩
    | none =>
      rw [q] at e
      have e : (match askD B m n V2 id as ids path with
        | some (i, args) => match opts path.length i args with
          | some evs => evs.all fun e => chk B m n V2 id as ids opts gd t (path ++ [e])
          | none => false
        | none => false) = true := e
      cases q2 : askD B m n V2 id as ids path with
      | none => rw [q2] at e; cases e
      | some p =>
        obtain ⟨i, args⟩ := p
        rw [q2] at e
        have e : (match opts path.length i args with
          | some evs => evs.all fun e => chk B m n V2 id as ids opts gd t (path ++ [e])
          | none => false) = true := e
        cases q3 : opts path.length i args with
        | none => rw [q3] at e; cases e
        | some evs =>
          rw [q3] at e
          have e : (evs.all fun e => chk B m n V2 id as ids opts gd t (path ++ [e])) = true := e
          obtain ⟨ev, hm, σ2, xs2, n2, x2, c2⟩ := con_snoc c hσ (ho _ _ _ _ (by omega) q3)
          obtain ⟨path3, σ3, xs3, v, j, r1, r2, r3, r4, r5, r6, r7⟩ := expl ho t (path ++ [ev]) σ2 xs2 c2 n2 (by simp; omega) (List.all_eq_true.mp e ev hm)
          exact ⟨path3, σ3, xs3, v, j, r1, r2, r3.trans x2, r4, r5, r6, r7⟩
/-- what is known of the parts of a way -/
def Tys (TyP : (Nat → PV) → Nat → Tsp → Prop) (path : List Ev) (σ : Nat → PV) : Prop := ∀ e ∈ path, ∀ p ∈ e.tys, TyP σ p.1 p.2
theorem Con.tys {TyP : (Nat → PV) → Nat → Tsp → Prop} {k : Nat} {path : List Ev} {σ : Nat → PV} {xs : Nat → Die} (c : Con P w K mg base ca fa B TyP k path σ xs) (l : path.length < 900) : Tys TyP path (σF σ xs) := fun e he => by
  obtain ⟨j, ej⟩ := List.getElem?_of_mem he
  obtain ⟨f, _, _, fs⟩ := c j e ej
  have lj := (List.getElem?_eq_some_iff.mp ej).1
  exact (fs (σF σ xs) fun u hu => σF_lt (by omega)).2
/-- a function draws: all its ways are looked through -/
theorem draw_ok (S : Sta P w K mg base ca fa B) {TyP : (Nat → PV) → Nat → Tsp → Prop} {m n id : Nat} {as : List Ag} {ids : List Nat} {opts : Nat → Int → List PV → Option (List Ev)} {gd : List Ev → PV → Bool} {t : Nat} {Post : PV → Prop}
    (ho : ∀ j i args evs, j < 900 → opts j i args = some evs → Cov P w K mg base ca fa B TyP (2 * m + 6) j evs) (ht : t ≤ 900) (hc : chk B m n (fun _ _ _ => none) id as ids opts gd t [] = true)
    (hp : ∀ path σ v, Nf σ → Tys TyP path σ → gd path v = true → Post (sub σ v)) : ∃ f, DGood P w K mg base ca fa B (2 * m + 4 + 2 * (n + 1) + 2) id as f ∧ ∀ x, Post (f x).1 := by
  have ex : ∀ x : Die, ∃ (path2 : List Ev) (σ2 : Nat → PV) (xs2 : Nat → Die) (v : PV) (j : Nat), Con P w K mg base ca fa B TyP (2 * m + 6) path2 σ2 xs2 ∧ Nf σ2 ∧ xs2 0 = x ∧ path2.length < 900 ∧ runD B m n (fun _ _ _ => none) id as path2 = some (v, j) ∧ pureB v = true ∧ gd path2 v = true := fun x =>
    expl ho t [] (fun _ => .non) (fun _ => x) (fun j e ej => by simp at ej) (fun _ => rfl) (by simpa using ht) hc
  let F : Die → PV × Die := fun x => (sub (σF (ex x).choose_spec.choose (ex x).choose_spec.choose_spec.choose) (ex x).choose_spec.choose_spec.choose_spec.choose, (ex x).choose_spec.choose_spec.choose (ex x).choose_spec.choose_spec.choose_spec.choose_spec.choose)
  have spec : ∀ x, ∃ (path2 : List Ev) (σ2 : Nat → PV) (xs2 : Nat → Die) (v : PV) (j : Nat), F x = (sub (σF σ2 xs2) v, xs2 j) ∧ Con P w K mg base ca fa B TyP (2 * m + 6) path2 σ2 xs2 ∧ Nf σ2 ∧ xs2 0 = x ∧ path2.length < 900 ∧ runD B m n (fun _ _ _ => none) id as path2 = some (v, j) ∧ pureB v = true ∧ gd path2 v = true := fun x =>
    ⟨_, _, _, _, _, rfl, (ex x).choose_spec.choose_spec.choose_spec.choose_spec.choose_spec⟩
  clear_value F
  refine ⟨F, wordD_ok (k := 2 * m + 4 + 2 * (n + 1)) S (fun fn hT x => ?_) fun x => ?_, fun x => ?_⟩
  · obtain ⟨path, σ, xs, v, j, e1, c, hσ, e2, l, e3, e4, e5⟩ := spec x
    have hσF := σF_nf (xs := xs) hσ
    have ov := vor_ok (vd_ok c l) (V2 := fun _ _ _ => none) fun id f hT ws h r e => by cases e
    have tw := twr_ok S hσF (V := Vor (Vd path) fun _ _ _ => none) (m := m) ov n
    refine ⟨σ, xs, fun U => U = ⟨σF σ xs⟩, _, _, v, j, hσ, e2, rfl, tw.2, .inr ⟨_, rfl, tw.1⟩, ?_, pure_nf hσF e4, e1⟩
    unfold runD runV Bs.step at e3
    rw [hT] at e3
    exact e3
  · obtain ⟨path, σ, xs, v, j, e1, c, hσ, e2, l, e3, e4, e5⟩ := spec x
    rw [e1]
    exact pure_nf (σF_nf hσ) e4
  · obtain ⟨path, σ, xs, v, j, e1, c, hσ, e2, l, e3, e4, e5⟩ := spec x
    rw [e1]
    exact hp path _ v (σF_nf hσ) (c.tys l) e5
end
end DD
set_option Elab.async false
set_option linter.all false
set_option maxRecDepth 100000
set_option maxHeartbeats 1000000
/-! OH: k07: terms' kinds by a Bool. -/
namespace DD
open PySem PySem.Spec PyProof.Rows L2
mutual
theorem sub_sub (σ τ : Nat → PV) : ∀ w : PV, sub σ (sub τ w) = sub (fun n => sub σ (τ n)) w
  | .non => by unfold sub; unfold sub; rfl
  | .bl _ => by unfold sub; unfold sub; rfl
  | .int _ => by unfold sub; unfold sub; rfl
  | .str _ => by unfold sub; unfold sub; rfl
  | .obj _ => by unfold sub; unfold sub; rfl
  | .exn _ _ => by unfold sub; unfold sub; rfl
  | .unk _ => by rw [sub, sub]
  | .tup xs => by
    rw [sub, sub, sub, subs_subs σ τ xs]
theorem subs_subs (σ τ : Nat → PV) : ∀ ws : List PV, subs σ (subs τ ws) = subs (fun n => sub σ (τ n)) ws
  | [] => by rw [subs, subs, subs]
  | x :: xs => by rw [subs, subs, subs, sub_sub σ τ x, subs_subs σ τ xs]
end
mutual
/-- what stands where a pattern has its k-th hole -/
def fnd (k : Nat) : PV → PV → Option PV
  | .unk n, w => if Nat.beq n k then some w else none
  | .tup ps, .tup ws => fnds k ps ws
  | _, _ => none
def fnds (k : Nat) : List PV → List PV → Option PV
  | p :: ps, w :: ws => match fnd k p w with
    | some x => some x
    | none => fnds k ps ws
  | _, _ => none
end
end DD
namespace K07
open PySem PySem.Spec PyProof.Rows L2 DD
theorem Ty.mono {s d : Nat} {g t : PV} (h : Ty s g d t) : ∀ {d' : Nat}, d ≤ d' → Ty s g d' t := by
  induction h with
  | num s d z => intro d' l; exact .num s d' z
  | nm d => intro d' l; exact .nm d'
  | op s d g a b hg _ _ ia ib =>
    intro d' l
    obtain ⟨e, rfl⟩ : ∃ e, d' = e + 1 := ⟨d' - 1, by omega⟩
    exact .op s e g a b hg (ia (by omega)) (ib (by omega))
  | call d x hx => intro d' l; exact .call d' x hx
  | get d x hx => intro d' l; exact .get d' x hx
  | calls d x a hx _ ia =>
    intro d' l
    obtain ⟨e, rfl⟩ : ∃ e, d' = e + 1 := ⟨d' - 1, by omega⟩
    exact .calls e x a hx (ia (by omega))
  | is d x c hx hc => intro d' l; exact .is d' x c hx hc
  | cmp s d g a b hg _ _ ia ib =>
    intro d' l
    obtain ⟨e, rfl⟩ : ∃ e, d' = e + 1 := ⟨d' - 1, by omega⟩
    exact .cmp s e g a b hg (ia (by omega)) (ib (by omega))
  | not s d a _ ia =>
    intro d' l
    obtain ⟨e, rfl⟩ : ∃ e, d' = e + 1 := ⟨d' - 1, by omega⟩
    exact .not s e a (ia (by omega))
  | and s d a b _ _ ia ib =>
    intro d' l
    obtain ⟨e, rfl⟩ : ∃ e, d' = e + 1 := ⟨d' - 1, by omega⟩
    exact .and s e a b (ia (by omega)) (ib (by omega))
  | or s d a b _ _ ia ib =>
    intro d' l
    obtain ⟨e, rfl⟩ : ∃ e, d' = e + 1 := ⟨d' - 1, by omega⟩
    exact .or s e a b (ia (by omega)) (ib (by omega))
  | nul s d => intro d' l; exact .nul s d'
  | new s d c a hc _ ia =>
    intro d' l
    obtain ⟨e, rfl⟩ : ∃ e, d' = e + 1 := ⟨d' - 1, by omega⟩
    exact .new s e c a hc (ia (by omega))
/-- the shapes are right: those without parts, those with -/
def Rule (c : Sh) : Prop := ∀ (τ : Nat → PV) (d : Nat), (c.sg = [] ∧ ((∃ z, τ 0 = .int z) → Ty c.s c.g d (sub τ c.t))) ∨ ∃ g', c.sg = [(0, g'), (1, g')] ∧ (Ty c.s g' d (τ 0) → Ty c.s g' d (τ 1) → Ty c.s c.g (d + 1) (sub τ c.t))
theorem x01 {x : Nat} (h : x ∈ ([0, 1] : List Nat)) : x < 2 := by simp at h; omega
theorem rule_all : ∀ c ∈ shA, Rule c := by
  intro c hc
  unfold shA at hc
  rcases List.mem_append.mp hc with hc | hc
  · unfold shI at hc
    simp only [List.mem_append] at hc
    rcases hc with ((((h | h) | h) | h) | h) | h
    · obtain ⟨s, _, rfl⟩ := List.mem_map.mp h
      exact fun τ d => .inl ⟨rfl, fun ⟨z, e⟩ => by rw [sub_num, e]; exact .num s d z⟩
    · rw [List.mem_singleton.mp h]
      exact fun τ d => .inl ⟨rfl, fun _ => by rw [nf_sub (by rfl)]; exact .nm d⟩
    · obtain ⟨s, _, h⟩ := List.mem_flatMap.mp h
      obtain ⟨g, hg, rfl⟩ := List.mem_map.mp h
      refine fun τ d => .inr ⟨cINT, rfl, fun a b => ?_⟩
      have : sub τ (opP (sg5 g) u0 u1) = opP (sg5 g) (τ 0) (τ 1) := by simp [opP, u0, u1, sub, subs]
      show Ty s cINT (d + 1) (sub τ (opP (sg5 g) u0 u1))
      rw [this]
      exact .op s d g _ _ (by unfold g5 at hg; simp at hg; omega) a b
    · obtain ⟨x, hx, rfl⟩ := List.mem_map.mp h
      exact fun τ d => .inl ⟨rfl, fun _ => by rw [nf_sub (by rfl)]; exact .call d x (x01 hx)⟩
    · obtain ⟨x, hx, rfl⟩ := List.mem_map.mp h
      exact fun τ d => .inl ⟨rfl, fun _ => by rw [nf_sub (by rfl)]; exact .get d x (x01 hx)⟩
    · obtain ⟨x, hx, rfl⟩ := List.mem_map.mp h
      refine fun τ d => .inr ⟨cINT, rfl, fun a b => ?_⟩
      have : sub τ (callP (nameP (ab x)) "s" [u0]) = callP (nameP (ab x)) "s" [τ 0] := by simp [callP, nameP, u0, sub, subs]
      show Ty 2 cINT (d + 1) (sub τ (callP (nameP (ab x)) "s" [u0]))
      rw [this]
      exact .calls d x _ (x01 hx) a
  rcases List.mem_append.mp hc with hc | hc
  · unfold shB at hc
    simp only [List.mem_append] at hc
    rcases hc with ((h | h) | h) | h
    · obtain ⟨x, hx, h⟩ := List.mem_flatMap.mp h
      obtain ⟨c, hc2, rfl⟩ := List.mem_map.mp h
      exact fun τ d => .inl ⟨rfl, fun _ => by rw [nf_sub (by rfl)]; exact .is d x c (x01 hx) (x01 hc2)⟩
    · obtain ⟨s, _, h⟩ := List.mem_flatMap.mp h
      obtain ⟨g, hg, rfl⟩ := List.mem_map.mp h
      refine fun τ d => .inr ⟨cINT, rfl, fun a b => ?_⟩
      have : sub τ (opP (sg4 g) u0 u1) = opP (sg4 g) (τ 0) (τ 1) := by simp [opP, u0, u1, sub, subs]
      show Ty s cBOO (d + 1) (sub τ (opP (sg4 g) u0 u1))
      rw [this]
      exact .cmp s d g _ _ (by unfold g4 at hg; simp at hg; omega) a b
    · obtain ⟨s, _, rfl⟩ := List.mem_map.mp h
      refine fun τ d => .inr ⟨cBOO, rfl, fun a b => ?_⟩
      have : sub τ (notP u0) = notP (τ 0) := by simp [notP, u0, sub, subs]
      show Ty s cBOO (d + 1) (sub τ (notP u0))
      rw [this]
      exact .not s d _ a
    · obtain ⟨s, _, h⟩ := List.mem_flatMap.mp h
      simp only [List.mem_cons, List.not_mem_nil, or_false] at h
      rcases h with rfl | rfl
      · refine fun τ d => .inr ⟨cBOO, rfl, fun a b => ?_⟩
        have : sub τ (opP "&&" u0 u1) = opP "&&" (τ 0) (τ 1) := by simp [opP, u0, u1, sub, subs]
        show Ty s cBOO (d + 1) (sub τ (opP "&&" u0 u1))
        rw [this]
        exact .and s d _ _ a b
      · refine fun τ d => .inr ⟨cBOO, rfl, fun a b => ?_⟩
        have : sub τ (opP "||" u0 u1) = opP "||" (τ 0) (τ 1) := by simp [opP, u0, u1, sub, subs]
        show Ty s cBOO (d + 1) (sub τ (opP "||" u0 u1))
        rw [this]
        exact .or s d _ _ a b
  · unfold shK at hc
    simp only [List.mem_append] at hc
    rcases hc with h | h
    · obtain ⟨s, _, rfl⟩ := List.mem_map.mp h
      exact fun τ d => .inl ⟨rfl, fun _ => by rw [nf_sub (by rfl)]; exact .nul s d⟩
    · obtain ⟨s, _, h⟩ := List.mem_flatMap.mp h
      obtain ⟨c, hc2, rfl⟩ := List.mem_map.mp h
      refine fun τ d => .inr ⟨cINT, rfl, fun a b => ?_⟩
      have : sub τ (newP (kd (clAB c)) u0) = newP (kd (clAB c)) (τ 0) := by simp [newP, kd, u0, sub, subs]
      show Ty s cKA (d + 1) (sub τ (newP (kd (clAB c)) u0))
      rw [this]
      exact .new s d c _ (x01 hc2) a
/-- what is known of unknown parts: a number, drawn rows, a term -/
def TyP (σ : Nat → PV) (n : Nat) (p : Tsp) : Prop := match p.2.1 with
  | .non => ∃ z, σ n = .int z
  | .str _ => isDr ⟨σ n, σ (n + 1), σ (n + 2), σ (n + 3)⟩
  | .bl _ => ∃ x, x < 3 ∧ ∃ u, σ n = thg x u ∧ Ty 0 cINT 1 u ∧ Ty 1 cINT 1 u
  | g => Ty p.1 g p.2.2 (σ n)
def σ2 (a b : PV) : Nat → PV := fun n => if n = 0 then a else b
def isInt : PV → Bool
  | .int _ => true
  | _ => false
def leB (ts : List (Nat × Tsp)) (s d : Nat) (g : PV) (n : Nat) : Bool := match g with
  | .tup _ => ts.any fun p => Nat.beq p.1 n && (Nat.beq p.2.1 s && (eqV p.2.2.1 g && Nat.ble p.2.2.2 d))
  | _ => false
def tyB (ts : List (Nat × Tsp)) (s : Nat) : Nat → PV → PV → Bool
  | d, g, .unk n => leB ts s d g n
  | 0, g, w => shA.any fun c => Nat.beq c.s s && (eqV c.g g && (c.sg.isEmpty && (isInt ((fnd 0 c.t w).getD (.int 0)) && eqV (sub (σ2 ((fnd 0 c.t w).getD (.int 0)) .non) c.t) w)))
  | d + 1, g, w => shA.any fun c => Nat.beq c.s s && (eqV c.g g && match c.sg with
    | [] => isInt ((fnd 0 c.t w).getD (.int 0)) && eqV (sub (σ2 ((fnd 0 c.t w).getD (.int 0)) .non) c.t) w
    | (_, g') :: _ => eqV (sub (σ2 ((fnd 0 c.t w).getD .non) ((fnd 1 c.t w).getD ((fnd 0 c.t w).getD .non))) c.t) w && (tyB ts s d g' ((fnd 0 c.t w).getD .non) && tyB ts s d g' ((fnd 1 c.t w).getD ((fnd 0 c.t w).getD .non))))
theorem leB_ok {ts : List (Nat × Tsp)} {σ : Nat → PV} (h : ∀ p ∈ ts, TyP σ p.1 p.2) {s d n : Nat} {g : PV} (e : leB ts s d g n = true) : Ty s g d (sub σ (.unk n)) := by
  unfold leB at e
  split at e
  · rename_i gs
    obtain ⟨⟨n', s', g', d'⟩, hp, q⟩ := List.any_eq_true.mp e
    simp only [Bool.and_eq_true] at q
    obtain ⟨q1, q2, q3, q4⟩ := q
    have q1 := Nat.eq_of_beq_eq_true q1
    have q2 := Nat.eq_of_beq_eq_true q2
    have q3 := eqV_eq q3
    have q4 := Nat.le_of_ble_eq_true q4
    subst q1 q2 q3
    have t : Ty s' (.tup gs) d' (σ n') := h _ hp
    rw [sub]
    exact t.mono q4
  · cases e
theorem isInt_ok {σ : Nat → PV} {w : PV} (e : isInt w = true) : ∃ z, sub σ w = .int z := by
  cases w <;> simp [isInt] at e
  exact ⟨_, by rw [sub]⟩
theorem rule0 {σ : Nat → PV} {c : Sh} (hc : c ∈ shA) {a w : PV} (es : c.sg.isEmpty = true) (i : isInt a = true) (e : eqV (sub (σ2 a .non) c.t) w = true) (d : Nat) : Ty c.s c.g d (sub σ w) := by
  have := eqV_eq e
  subst this
  rw [sub_sub]
  rcases rule_all c hc (fun n => sub σ (σ2 a .non n)) d with ⟨_, r⟩ | ⟨g', r, _⟩
  · exact r (isInt_ok i)
  · rw [r] at es; cases es
theorem rule1 {σ : Nat → PV} {c : Sh} (hc : c ∈ shA) {a b w g' : PV} {k : Nat} {l : List (Nat × PV)} (es : c.sg = (k, g') :: l) (e : eqV (sub (σ2 a b) c.t) w = true) {d : Nat} (ta : Ty c.s g' d (sub σ a)) (tb : Ty c.s g' d (sub σ b)) : Ty c.s c.g (d + 1) (sub σ w) := by
  have := eqV_eq e
  subst this
  rw [sub_sub]
  rcases rule_all c hc (fun n => sub σ (σ2 a b n)) d with ⟨r, _⟩ | ⟨g2, r, q⟩
  · rw [r] at es; cases es
  · rw [r] at es
    cases es
    exact q ta tb
theorem tyB_ok {ts : List (Nat × Tsp)} {σ : Nat → PV} (h : ∀ p ∈ ts, TyP σ p.1 p.2) {s : Nat} : ∀ {d : Nat} {g w : PV}, tyB ts s d g w = true → Ty s g d (sub σ w)
  | 0, g, w, e => by
    by_cases hu : ∃ n, w = .unk n
    · obtain ⟨n, rfl⟩ := hu
      exact leB_ok h e
    · have e : (shA.any fun c => Nat.beq c.s s && (eqV c.g g && (c.sg.isEmpty && (isInt ((fnd 0 c.t w).getD (.int 0)) && eqV (sub (σ2 ((fnd 0 c.t w).getD (.int 0)) .non) c.t) w)))) = true := by
        cases w <;> first | exact e | exact absurd ⟨_, rfl⟩ hu
      obtain ⟨c, hc, q⟩ := List.any_eq_true.mp e
      simp only [Bool.and_eq_true] at q
      obtain ⟨q1, q2, q3, q4, q5⟩ := q
      have q1 := Nat.eq_of_beq_eq_true q1
      have q2 := eqV_eq q2
      subst q1 q2
      exact rule0 hc q3 q4 q5 0
  | d + 1, g, w, e => by
    by_cases hu : ∃ n, w = .unk n
    · obtain ⟨n, rfl⟩ := hu
      exact leB_ok h e
    · have e : (shA.any fun c => Nat.beq c.s s && (eqV c.g g && match c.sg with
          | [] => isInt ((fnd 0 c.t w).getD (.int 0)) && eqV (sub (σ2 ((fnd 0 c.t w).getD (.int 0)) .non) c.t) w
          | (_, g') :: _ => eqV (sub (σ2 ((fnd 0 c.t w).getD .non) ((fnd 1 c.t w).getD ((fnd 0 c.t w).getD .non))) c.t) w && (tyB ts s d g' ((fnd 0 c.t w).getD .non) && tyB ts s d g' ((fnd 1 c.t w).getD ((fnd 0 c.t w).getD .non))))) = true := by
        cases w <;> first | exact e | exact absurd ⟨_, rfl⟩ hu
      obtain ⟨c, hc, q⟩ := List.any_eq_true.mp e
      rw [Bool.and_eq_true, Bool.and_eq_true] at q
      obtain ⟨q1, q2, q3⟩ := q
      have q1 := Nat.eq_of_beq_eq_true q1
      have q2 := eqV_eq q2
      subst q1 q2
      cases es : c.sg with
      | nil =>
        rw [es] at q3
        have q3 := Bool.and_eq_true _ _ ▸ q3
        exact rule0 hc (by rw [es]; rfl) q3.1 q3.2 (d + 1)
      | cons p l =>
        obtain ⟨k, g'⟩ := p
        rw [es] at q3
        have q3 : (eqV (sub (σ2 ((fnd 0 c.t w).getD .non) ((fnd 1 c.t w).getD ((fnd 0 c.t w).getD .non))) c.t) w && (tyB ts c.s d g' ((fnd 0 c.t w).getD .non) && tyB ts c.s d g' ((fnd 1 c.t w).getD ((fnd 0 c.t w).getD .non)))) = true := q3
        rw [Bool.and_eq_true, Bool.and_eq_true] at q3
        exact rule1 hc es q3.1 (tyB_ok h q3.2.1) (tyB_ok h q3.2.2)
end K07
set_option Elab.async false
set_option linter.all false
set_option maxRecDepth 100000
set_option maxHeartbeats 4000000
/-! OI: k07: rules for simp; the dice (renamed from k05's texts). -/
namespace DD
open PySem PySem.Spec PyProof.Rows L2
theorem Tr.set_commI (a b : Ob) : ∀ (d : Nat) (t : Tr) (i j : Nat), i ≠ j → i + 1 < 2 ^ d → Tr.set d (Tr.set d t i a) j b = Tr.set d (Tr.set d t j b) i a
  | 0, t, i, j, _, h => by simp at h
  | d + 1, t, i, j, ne, h => by
    have key : ∀ (v : Option Ob) (l r : Tr), Tr.set (d + 1) (Tr.set (d + 1) (.node v l r) i a) j b = Tr.set (d + 1) (Tr.set (d + 1) (.node v l r) j b) i a := by
      intro v l r
      rw [Tr.set_node d v l r i a, Tr.set_node d v l r j b]
      by_cases hi : i = 0
      · have hj : j ≠ 0 := fun z => ne (by omega)
        rw [if_pos hi, if_neg hj, Tr.set_node, if_neg hj]
        by_cases pj : j % 2 = 1
        · rw [if_pos pj, if_pos pj, Tr.set_node, if_pos hi]
        · rw [if_neg pj, if_neg pj, Tr.set_node, if_pos hi]
      · rw [if_neg hi]
        by_cases hj : j = 0
        · rw [if_pos hj]
          by_cases pi : i % 2 = 1
          · rw [if_pos pi, Tr.set_node, if_pos hj, Tr.set_node, if_neg hi, if_pos pi]
          · rw [if_neg pi, Tr.set_node, if_pos hj, Tr.set_node, if_neg hi, if_neg pi]
        · rw [if_neg hj]
          by_cases pi : i % 2 = 1
          · rw [if_pos pi, Tr.set_node, if_neg hj]
            by_cases pj : j % 2 = 1
            · rw [if_pos pj, if_pos pj, Tr.set_node, if_neg hi, if_pos pi, Tr.set_commI a b d l (i / 2) (j / 2) (by omega) (by rw [Nat.pow_succ] at h; omega)]
            · rw [if_neg pj, if_neg pj, Tr.set_node, if_neg hi, if_pos pi]
          · rw [if_neg pi, Tr.set_node, if_neg hj]
            by_cases pj : j % 2 = 1
            · rw [if_pos pj, if_pos pj, Tr.set_node, if_neg hi, if_neg pi]
            · rw [if_neg pj, if_neg pj, Tr.set_node, if_neg hi, if_neg pi, Tr.set_commI a b d r (i / 2 - 1) (j / 2 - 1) (by omega) (by rw [Nat.pow_succ] at h; omega)]
    cases t with
    | node v l r => exact key v l r
    | nil => rw [Tr.set_nil d i a, Tr.set_nil d j b]; exact key _ _ _
    | bkt xs => rw [Tr.set_bkt d i a, Tr.set_bkt d j b]; exact key _ _ _
theorem put_foldlI (i : Nat) (o : Ob) (hs : i < 16000000) : ∀ (os : List Ob) (h : Hh), i < h.n → (os.foldl Hh.push h).put i o = os.foldl Hh.push (h.put i o)
  | [], _, _ => rfl
  | x :: os, h, hi => by
    show (os.foldl Hh.push (h.push x)).put i o = os.foldl Hh.push ((h.put i o).push x)
    rw [put_foldlI i o hs os (h.push x) (by rw [Hh.n_push]; omega)]
    congr 1
    show (⟨h.n + 1, (h.t.set 24 h.n x).set 24 i o⟩ : Hh) = ⟨h.n + 1, (h.t.set 24 i o).set 24 h.n x⟩
    rw [← Tr.set_commI o x 24 h.t i h.n (by omega) (by omega)]
/-- a thing that stands near the heap's beginning is written -/
theorem mkH_putI (os : List Ob) (i : Nat) (o : Ob) (hi : i < os.length) (hs : i < 16000000) : (mkH os).put i o = mkH (os.set i o) := by
  have e : os = os.take i ++ os[i] :: os.drop (i + 1) := by simp
  have l : (os.take i).length = i := by simp; omega
  have e2 : os.set i o = os.take i ++ o :: os.drop (i + 1) := by
    conv => lhs; rw [e]
    rw [List.set_append_right _ _ (by omega), l, Nat.sub_self]
    rfl
  rw [e2]
  conv => lhs; rw [e]
  unfold mkH
  rw [List.foldl_append, List.foldl_append, List.foldl_cons, List.foldl_cons]
  have n0 : ((os.take i).foldl Hh.push Hh.nil).n = i := by
    rw [(foldH _ _).1, l]
    show 0 + i = i
    omega
  generalize (os.take i).foldl Hh.push Hh.nil = g at *
  rw [put_foldlI i o hs _ _ (by rw [Hh.n_push]; omega)]
  congr 1
  show (⟨g.n + 1, (g.t.set 24 g.n os[i]).set 24 i o⟩ : Hh) = ⟨g.n + 1, g.t.set 24 g.n o⟩
  rw [n0, Tr.set_set _ _ 24 g.t i (by omega)]
@[simp] theorem putL (os : List Ob) (i : Nat) (o : Ob) (hi : (no_index (OfNat.ofNat i : Nat)) < os.length) (hs : i < 16000000) : (mkH os).put (no_index (OfNat.ofNat i)) o = mkH (os.set i o) := mkH_putI os i o hi hs
section
variable {h : Hh} {τ : Env'} {w : PV}
@[simp] theorem gSubS_eq (fo fi : SE) : gSubS fo fi w τ h = (fo τ h).st τ fun o h => (fi τ h).st τ fun i h => match setS o i w h with
  | some h => .nx τ h
  | none => .bad := rfl
@[simp] theorem setS_obj (p : Nat) (i : PV) : setS (.obj p) i w h = match h.get p with
    | some (.lst xs) => match i with
      | .int k => (ixN xs.length k).map fun j => h.put p (.lst (xs.set j w))
      | _ => none
    | some (.dct kvs) => match keyP i with
      | some k => if kvs.length < lim then some (h.put p (.dct (putP kvs k w))) else none
      | none => none
    | _ => none := rfl
@[simp] theorem sFld_eq (at_ : Nat → Str → Bool) (f : Str) (fv fo : SE) : sFld' at_ f fv fo τ h = (fv τ h).st τ fun w h => (fo τ h).st τ fun o h => match setFS at_ f o w h with
  | some h => .nx τ h
  | none => .bad := rfl
@[simp] theorem setFS_obj (at_ : Nat → Str → Bool) (f : Str) (p : Nat) : setFS at_ f (.obj p) w h = match h.get p with
    | some (.ins c fs) => if at_ c f = true ∧ fs.length < 1000 then some (h.put p (.ins c (putFS f w fs))) else none
    | _ => none := rfl
@[simp] theorem sRetN_eq : sRetN τ h = .rt .non h := rfl
@[simp] theorem lenF_tup (xs : List PV) : lenF (.tup xs) h = .ok (.int xs.length) h := rfl
@[simp] theorem lenF_obj (i : Nat) : lenF (.obj i) h = match h.lst? i with
    | some xs => .ok (.int xs.length) h
    | none => match h.dct? i with
      | some kvs => .ok (.int kvs.length) h
      | none => .bad := rfl
@[simp] theorem eq_int (x y : Int) : eqS h (.int x) (.int y) = some (decide (x = y)) := rfl
@[simp] theorem eq_bl (x y : Bool) : eqS h (.bl x) (.bl y) = some (decide (x = y)) := rfl
@[simp] theorem inS_tup (x : PV) (xs : List PV) : inS h x (.tup xs) = inSeq h x xs := rfl
@[simp] theorem lm_pop (i : Nat) : lmS .pop i [] h = match h.get i with
  | some (.lst xs) => (match xs[xs.length - 1]? with
      | some y => .ok y (h.put i (.lst xs.dropLast))
      | none => .bad)
  | _ => .bad := rfl
theorem runF_nx {s : SS} {N : List Str} {ws : List PV} {h : Hh} {τ : Env'} {h1 : Hh} (e : s (startP N ws) h = .nx τ h1) : runF s N ws h = .ok .non h1 := by
  unfold runF
  rw [e]
theorem runF_rt {s : SS} {N : List Str} {ws : List PV} {h : Hh} {v : PV} {h1 : Hh} (e : s (startP N ws) h = .rt v h1) : runF s N ws h = .ok v h1 := runF_ok e
end
@[simp] theorem eSl_eq (f : SE) (lo hi : Option SE) (τ : Env') (h : Hh) : eSl f lo hi τ h = (f τ h).bind fun x h => (optI lo τ h).bind fun l h => (optI hi τ h).bind fun u h => slS x l u h := rfl
@[simp] theorem optI_none (τ : Env') (h : Hh) : optI none τ h = .ok none h := rfl
@[simp] theorem optI_some (f : SE) (τ : Env') (h : Hh) : optI (some f) τ h = (f τ h).bind fun x h => match x with
  | .int i => .ok (some i) h
  | _ => .bad := rfl
@[simp] theorem slS_obj (o : Nat) (lo hi : Option Int) (h : Hh) : slS (.obj o) lo hi h = match h.lst? o with
    | some xs => .ok (.obj h.n) (h.push (.lst (cutP xs lo hi)))
    | none => .bad := rfl
@[simp] theorem slS_tup (xs : List PV) (lo hi : Option Int) (h : Hh) : slS (.tup xs) lo hi h = .ok (.tup (cutP xs lo hi)) h := rfl
theorem cut_take {α : Type} (xs : List α) (k : Nat) : cutP xs none (some (k : Int)) = xs.take k := by
  unfold cutP
  rw [HT.sIx_none, HT.sIx_nat]
  simp
theorem put_mid (pre : List Ob) (o o' : Ob) (gs : List Ob) (hb : pre.length + gs.length < 15000000) : (mkH (pre ++ o :: gs)).put pre.length o' = mkH (pre ++ o' :: gs) := by
  rw [mkH_put _ _ _ (by simp) (by simp; omega), List.set_append_right _ _ (Nat.le_refl _), Nat.sub_self]
  rfl
theorem take_snoc {α : Type} {ms : List α} {i : Nat} {m : α} (e : ms[i]? = some m) : ms.take (i + 1) = ms.take i ++ [m] := by
  rw [List.take_add_one, e]
  rfl
section
variable {h : Hh} (x y : Int)
@[simp] theorem sub_int : binS .Sub (.int x) (.int y) h = .ok (.int (x - y)) h := rfl
@[simp] theorem mul_int : binS .Mult (.int x) (.int y) h = if (decide (-(2 ^ 64) < x) && decide (x < 2 ^ 64)) || (decide (-(2 ^ 64) < y) && decide (y < 2 ^ 64)) then .ok (.int (x * y)) h else .bad := rfl
@[simp] theorem div_int : binS .FloorDiv (.int x) (.int y) h = if y ≠ 0 ∧ y.natAbs < 1073741824 then .ok (.int (x.fdiv y)) h else .bad := rfl
@[simp] theorem mod_int : binS .Mod (.int x) (.int y) h = if y ≠ 0 then .ok (.int (x.fmod y)) h else .bad := rfl
@[simp] theorem pow_int : binS .Pow (.int x) (.int y) h = if 0 ≤ y ∧ y ≤ 1000000 ∧ x.natAbs < 2 ^ 64 then .ok (.int (x ^ y.toNat)) h else .bad := rfl
@[simp] theorem cmp_lt : cmpS .Lt (.int x) (.int y) h = .ok (.bl (decide (x < y))) h := rfl
@[simp] theorem cmp_le : cmpS .LtE (.int x) (.int y) h = .ok (.bl (decide (x ≤ y))) h := rfl
@[simp] theorem cmp_gt : cmpS .Gt (.int x) (.int y) h = .ok (.bl (decide (y < x))) h := rfl
@[simp] theorem cmp_ge : cmpS .GtE (.int x) (.int y) h = .ok (.bl (decide (y ≤ x))) h := rfl
@[simp] theorem intF_int : intF (.int x) h = .ok (.int x) h := rfl
@[simp] theorem intF_bl (b : Bool) : intF (.bl b) h = .ok (.int (if b then 1 else 0)) h := rfl
@[simp] theorem absF_int : absF (.int x) h = .ok (.int (if x < 0 then -x else x)) h := rfl
@[simp] theorem eChain_eq (op op' : CmpOp) (f g k : SE) (τ : Env') : eChain op op' f g k τ h = (f τ h).bind fun x h => (g τ h).bind fun y h => (cmpS op x y h).bind fun z h => match z with
  | .bl true => (k τ h).bind fun u h => cmpS op' y u h
  | .bl false => .ok (.bl false) h
  | _ => .bad := rfl
end
/-- one thing is changed, a plain value comes of it -/
theorem RnR.put1 {h : Hh} {d : Nat} {o o' : Ob} {h2 : Hh} {w : PV} (e : h.get d = some o) (p' : pureO o' = true) (pw : pureB w = true) (h0 : h2.get 0 = some o') : RnR h [d] (.ok w h2) (.ok w (h.put d o')) := by
  have ld := Hh.get_lt e
  refine ⟨[], w, _, rfl, ⟨by rw [Hh.n_put]; rfl, List.nodup_nil, fun _ z => (by cases z), fun i j q => ?_, fun j lt nj => ?_, fun k i q => by cases q⟩, Rn.pure pw⟩
  · match i, q with
    | 0, q =>
      have q : d = j := by simpa using q
      subst q
      exact ⟨o', o', h0, by rw [Hh.get_put _ _ _ _ ld, if_pos rfl], RnO.pure p'⟩
  · have ne : j ≠ d := fun z => nj (by rw [z]; exact List.mem_singleton.mpr rfl)
    rw [Hh.get_put _ _ _ _ ld, if_neg ne]
theorem fit_one {h : Hh} {d : Nat} {o : Ob} (e : h.get d = some o) (p : pureO o = true) : Fit h [d] [o] := ⟨rfl, by simp, fun i j q => by
  match i, q with
  | 0, q =>
    have q : d = j := by simpa using q
    subst q
    exact ⟨_, _, rfl, e, RnO.pure p⟩⟩
theorem fit_none {h : Hh} : Fit h [] [] := ⟨rfl, List.nodup_nil, fun i j q => by simp at q⟩
/-- a comprehension, by what holds ahead of each round -/
theorem lcGo_inv (s : Src) (τ : Env') (p : Pat) (tt : ST) (te : SE) (d : Nat) (xs : List PV) (I : Nat → Hh → Prop) (hs : ∀ i h, I i h → s.step i h = some xs[i]?)
    (hb : ∀ i x h, I i h → xs[i]? = some x → ∃ τ2, patS p x τ = some τ2 ∧ ((∃ h2, tt τ2 h = .ok false h2 ∧ I (i + 1) h2) ∨ ∃ h2 y h3 acc, tt τ2 h = .ok true h2 ∧ te τ2 h2 = .ok y h3 ∧ h3.get d = some (.lst acc) ∧ acc.length < lim ∧ I (i + 1) (h3.put d (.lst (acc ++ [y]))))) : ∀ (n i : Nat) (h : Hh), I i h → i ≤ xs.length → xs.length < n + i →
    ∃ h2, lcGo s τ p tt te d n i h = .ok (.obj d) h2 ∧ I xs.length h2
  | 0, i, h, _, h1, h2 => by omega
  | n + 1, i, h, hI, h1, h2 => by
    have st := hs i h hI
    unfold lcGo
    rw [st]
    by_cases hi : i < xs.length
    · have ex : xs[i]? = some xs[i] := by simp [hi]
      obtain ⟨τ2, e0, r⟩ := hb i _ h hI ex
      rw [ex]
      rcases r with ⟨h3, e1, e2⟩ | ⟨h3, y, h4, acc, e1, e2, e3, e4, e5⟩
      · obtain ⟨h5, e6, e7⟩ := lcGo_inv s τ p tt te d xs I hs hb n (i + 1) h3 e2 (by omega) (by omega)
        refine ⟨h5, ?_, e7⟩
        show (match patS p xs[i] τ with
          | none => Res.bad
          | some τ2 => (tt τ2 h).nox.bind _) = _
        rw [e0]
        show ((tt τ2 h).nox.bind _) = _
        rw [e1, nox_ok, bind_ok, if_neg (by simp)]
        exact e6
      · obtain ⟨h5, e6, e7⟩ := lcGo_inv s τ p tt te d xs I hs hb n (i + 1) _ e5 (by omega) (by omega)
        refine ⟨h5, ?_, e7⟩
        show (match patS p xs[i] τ with
          | none => Res.bad
          | some τ2 => (tt τ2 h).nox.bind _) = _
        rw [e0]
        show ((tt τ2 h).nox.bind _) = _
        rw [e1, nox_ok, bind_ok, if_pos rfl, e2, nox_ok, bind_ok, e3]
        show (if acc.length < lim then _ else _) = _
        rw [if_pos e4]
        exact e6
    · have e : i = xs.length := by omega
      subst e
      refine ⟨h, ?_, hI⟩
      rw [List.getElem?_eq_none (Nat.le_refl _)]
end DD
namespace K07
open PySem PySem.Spec PyProof.Rows L2 DD
def rollF (a b c m : Int) : Int × Int × Int × Int :=
  if c = 2 ∨ (c = 1 ∧ 0 < a) then (a.fmod m, a.fdiv m, b, c)
  else (((a * 48271 + b * 69621 + 11).fmod 2147483647 |>.fdiv 7 |> (· + (a * 48271 + b * 69621 + 11).fmod 2147483647)).fmod m, (a * 48271 + b * 69621 + 11).fmod 2147483647, b + 1, 0)
theorem run_roll (C Cl : CT) (a b c m : Int) (hm : 0 < m) (lm : m < 1000) : runF (D.bs.sem f20.fn0 C Cl) f20.fn0.N [.obj 0, .int m] (mkH [dieO (a, b, c)]) = .ok (.int (rollF a b c m).1) (mkH [dieO (rollF a b c m).2]) := by
  rw [sem20]
  refine runF_rt ?_
  rw [show startP f20.fn0.N [.obj 0, .int m] = [some (.obj 0), some (.int m), none] from rfl]
  have m0 : m ≠ 0 := by omega
  have m1 : m.natAbs < 1073741824 := by omega
  unfold s20 rollF dieO
  by_cases q : c = 2
  · simp [q, m0, m1, ixN]
  · by_cases q1 : c = 1
    · by_cases q2 : 0 < a
      · simp [q, q1, q2, m0, m1, ixN]
      · simp [q, q1, q2, m0, m1, ixN]
    · simp [q, q1, m0, m1, ixN]
def diceF (z : Int) : Int × Int × Int := if -10 < z ∧ z < 10 then (if z < 0 then -z else z, 0, 2) else (z, 1 + z.fmod 1009, if 1000000000000000000 ≤ z then 1 else 0)
theorem run_dice (C Cl : CT) (z : Int) : runF (D.bs.sem f19.fn0 C Cl) f19.fn0.N [.int z] (mkH []) = .ok (.obj 0) (mkH [dieO (diceF z)]) := by
  rw [sem19]
  refine runF_rt ?_
  rw [show startP f19.fn0.N [.int z] = [some (.int z)] from rfl]
  have l3 : 3 ≤ lim := by unfold lim; omega
  unfold s19 diceF dieO
  by_cases q : -10 < z
  · by_cases q2 : z < 10
    · simp [q, q2, l3]
    · simp [q, q2, l3]
  · simp [q, l3]
section
variable {P : Program} {w : World} {K : PySem.W.Frag} {mg : Str → Option Value} {base : Heap} {ca fa : Nat → Addr}
def rollD (m : Int) : Die → PV × Die := fun x => (.int (rollF x.1 x.2.1 x.2.2 m).1, (rollF x.1 x.2.1 x.2.2 m).2)
theorem roll_good (S : Sta P w K mg base ca fa D.bs) {m : Int} (h0 : 0 < m) (h1 : m < 1000) : DGood P w K mg base ca fa D.bs 6 20 [.int m] (rollD m) := by
  refine ⟨fun U fn hT => ?_, fun x => rfl⟩
  have c := ctok_call S (fun _ => True) 0
  have hT' : fn = f20.fn0 := by
    have : D.bs.T 20 = some f20.fn0 := rfl
    rw [this] at hT
    exact (Option.some.inj hT).symm
  subst hT'
  refine word_ok (k := 4) S rfl (G := fun _ => True) True.intro c.2 (.inr ⟨2, rfl, c.1⟩) fun ws h r ⟨d, rest, x, e1, e2, fp, e4⟩ => ?_
  obtain ⟨ap, _⟩ := fp
  match rest, ap with
  | [.int z], ⟨ez, _⟩ =>
    have ez : m = z := ez
    subst ez e1 e4
    refine ⟨[d], [dieO x], [.obj 0, .int m], fit_one e2 rfl, ?_, ?_⟩
    · unfold Rns
      exact ⟨.obj d, [.int m], rfl, by unfold Rn; exact ⟨d, rfl, rfl⟩, Rns.pure rfl⟩
    · obtain ⟨a, b, c⟩ := x
      rw [run_roll _ _ a b c m h0 h1]
      exact RnR.put0 (fit_one e2 rfl) (d := d) rfl rfl rfl (by rw [mkH_get]; rfl) fun i h0 hi => by simp at hi; omega
theorem roll_bd (a b c m : Int) (hm : 0 < m) : 0 ≤ (rollF a b c m).1 ∧ (rollF a b c m).1 < m := by
  unfold rollF
  split
  · exact ⟨Int.fmod_nonneg_of_pos _ hm, Int.fmod_lt_of_pos _ hm⟩
  · exact ⟨Int.fmod_nonneg_of_pos _ hm, Int.fmod_lt_of_pos _ hm⟩
/-- a roll, each number by itself -/
def rollE (m : Nat) : List Ev := (List.range m).map fun (v : Nat) => ⟨20, [.int m], .int (v : Nat), []⟩
/-- a roll, its number left open -/
def rollU (j m : Nat) : List Ev := [⟨20, [.int m], .unk (100 * j), [(100 * j, 0, .non, 0)]⟩]
theorem cov_rollE (S : Sta P w K mg base ca fa D.bs) {k : Nat} (hk : 6 ≤ k) (j m : Nat) (h0 : 0 < m) (h1 : m < 1000) : Cov P w K mg base ca fa D.bs TyP k j (rollE m) := by
  refine ⟨20, [.int m], rollD m, (roll_good S (by omega) (by omega)).mono hk, fun e he => ?_, fun x => ?_⟩
  · obtain ⟨v, _, rfl⟩ := List.mem_map.mp he
    exact ⟨rfl, rfl⟩
  · obtain ⟨v0, v1⟩ := roll_bd x.1 x.2.1 x.2.2 (m : Int) (by omega)
    refine ⟨⟨20, [.int m], .int ((rollF x.1 x.2.1 x.2.2 (m : Int)).1.toNat : Nat), []⟩, List.mem_map.mpr ⟨_, List.mem_range.mpr (by omega), rfl⟩, fun _ => .non, fun _ => rfl, fun σ' _ => ⟨?_, fun p hp => by cases hp⟩⟩
    rw [sub]
    show PV.int (rollF x.1 x.2.1 x.2.2 (m : Int)).1 = _
    rw [Int.toNat_of_nonneg v0]
theorem cov_rollU (S : Sta P w K mg base ca fa D.bs) {k : Nat} (hk : 6 ≤ k) (j m : Nat) (h0 : 0 < m) (h1 : m < 1000) : Cov P w K mg base ca fa D.bs TyP k j (rollU j m) := by
  refine ⟨20, [.int m], rollD m, (roll_good S (by omega) (by omega)).mono hk, fun e he => ?_, fun x => ?_⟩
  · rw [List.mem_singleton.mp he]
    exact ⟨rfl, rfl⟩
  · refine ⟨_, List.mem_singleton.mpr rfl, fun _ => .int (rollF x.1 x.2.1 x.2.2 (m : Int)).1, fun _ => rfl, fun σ' ag => ?_⟩
    have := ag 0 (by omega)
    refine ⟨?_, fun p hp => ?_⟩
    · rw [sub]; exact this.symm
    · rw [List.mem_singleton.mp hp]
      exact ⟨_, this⟩
end
end K07
set_option Elab.async false
set_option linter.all false
set_option maxRecDepth 100000
set_option maxHeartbeats 0
/-! OJ: k07: numbers' terms as they are drawn. -/
namespace K07
open PySem PySem.Spec PyProof.Rows L2 DD
def nmC : Nat → List Str
  | 0 => []
  | _ => ["i"]
def thC : Nat → List Str
  | 0 => []
  | 1 => ["b"]
  | _ => ["a", "b"]
def stC : Nat → List Nat
  | 0 => [0, 1, 3]
  | _ => [2]
def asI (c dep : Nat) : List Ag := [.int dep, .strs (nmC c), .strs (thC c)]
def evI (c dep j : Nat) : List Ev := [⟨41, asI c dep, .unk (100 * j), (stC c).map fun s => (100 * j, s, cINT, dep)⟩]
def optR (sp : List Nat) (j : Nat) (args : List PV) : Option (List Ev) := match args with
  | [.int (.ofNat m)] => if Nat.blt 0 m && Nat.blt m 1000 then some (if sp.contains m then rollE m else rollU j m) else none
  | _ => none
/-- calls with names and things, answered -/
def optC (f : Nat → Nat → Nat → List Ev) (cs : List (Nat × Nat)) (j : Nat) (args : List PV) : Option (List Ev) := match args with
  | [.int (.ofNat dep), .tup ns, .tup ts] => match cs.find? fun p => Nat.beq p.2 dep && (eqVs ns ((nmC p.1).map .str) && eqVs ts ((thC p.1).map .str)) with
    | some p => some (f p.1 p.2 j)
    | none => none
  | _ => none
def optsI (sp : List Nat) (cs : List (Nat × Nat)) (j : Nat) (i : Int) (args : List PV) : Option (List Ev) :=
  if i = 20 then optR sp j args else if i = 41 then optC evI cs j args else none
def tysOf (path : List Ev) : List (Nat × Tsp) := path.flatMap (·.tys)
def gdI (c dep : Nat) (path : List Ev) (v : PV) : Bool := (stC c).all fun s => tyB (tysOf path) s dep cINT v
def ckI (m c dep : Nat) (sp : List Nat) (cs : List (Nat × Nat)) : Bool := chk D.bs m 1 (fun _ _ _ => none) 41 (asI c dep) [20, 41] (optsI sp cs) (gdI c dep) 20 []
theorem ck00 (m : Nat) : ckI m 0 0 [1, 2, 9] [] = true := by kernel_rfl
theorem ck10 (m : Nat) : ckI m 1 0 [1, 2, 9] [] = true := by kernel_rfl
theorem ck20 (m : Nat) : ckI m 2 0 [1, 2, 9] [] = true := by kernel_rfl
theorem ck01 (m : Nat) : ckI m 0 1 [1, 2, 5, 7, 9] [(0, 0)] = true := by kernel_rfl
theorem ck11 (m : Nat) : ckI m 1 1 [1, 2, 5, 7, 9] [(1, 0)] = true := by kernel_rfl
theorem ck21 (m : Nat) : ckI m 2 1 [1, 2, 5, 7, 9] [(2, 0)] = true := by kernel_rfl
theorem ck22 (m : Nat) : ckI m 2 2 [1, 2, 5, 7, 9] [(2, 1)] = true := by kernel_rfl
end K07
set_option Elab.async false
set_option linter.all false
set_option maxRecDepth 100000
set_option maxHeartbeats 0
/-! OK: k07: tests, things, rows, mains as they are drawn: all ways. -/
namespace K07
open PySem PySem.Spec PyProof.Rows L2 DD
def asT (c : Nat) : List Ag := [.strs (nmC c), .strs (thC c)]
def stT : Nat → List Nat
  | 0 => [3]
  | _ => [2]
def evT (c j : Nat) : List Ev := [⟨42, asT c, .unk (100 * j), (stT c).map fun s => (100 * j, s, cBOO, 3)⟩]
def gdT (c : Nat) (path : List Ev) (v : PV) : Bool := (stT c).all fun s => tyB (tysOf path) s 3 cBOO v
def ckT (m c : Nat) (sp : List Nat) (cs : List (Nat × Nat)) : Bool := chk D.bs m 1 (fun _ _ _ => none) 42 (asT c) [20, 41] (optsI sp cs) (gdT c) 20 []
theorem ckT0 (m : Nat) : ckT m 0 [1, 2, 4, 5] [(0, 1)] = true := by kernel_rfl
theorem ckT2 (m : Nat) : ckT m 2 [1, 2, 4, 5] [(2, 1)] = true := by kernel_rfl
def num0 : PV := numV (.int 0)
def evK (j : Nat) : List Ev := [0, 1, 2].map fun x => ⟨44, [.strs []], thg x (.unk (100 * j)), [0, 1].map fun s => (100 * j, s, cINT, 1)⟩
def gdK (path : List Ev) (v : PV) : Bool := [0, 1, 2].any fun x => eqV (thg x ((fnd 0 (thg x (.unk 0)) v).getD num0)) v && [0, 1].all fun s => tyB (tysOf path) s 1 cINT ((fnd 0 (thg x (.unk 0)) v).getD num0)
theorem ckK (m : Nat) : chk D.bs m 1 (fun _ _ _ => none) 44 [.strs []] [20, 41] (optsI [5] [(0, 1)]) gdK 20 [] = true := by kernel_rfl
def rwU (g : Nat) (be af : Bool) (z1 z2 z3 : PV) : Rw where
  mi := .tup [.str "op", .str (sgn g), .tup [.str "get", .tup [.str "this"], .str "x"], numV z1]
  be := match be with
    | false => .non
    | true => .tup [.str "op", .str "<", nameP "n", numV z2]
  af := match af with
    | false => .non
    | true => .tup [.str "op", .str "<=", numV (.int (0 - 30)), .tup [.str "result"]]
  zt := numV z3
def rowsP (g : Nat) (be af : Bool) (z1 z2 z3 : PV) : PV := .tup [rowA (rwU g be af z1 z2 z3), rowB]
def intT (ts : List (Nat × Tsp)) : PV → Bool
  | .int _ => true
  | .unk n => ts.any fun p => Nat.beq p.1 n && eqV p.2.2.1 .non
  | _ => false
def gdR (path : List Ev) (v : PV) : Bool := [0, 1, 2].any fun g => [false, true].any fun be => [false, true].any fun af =>
  (fun (z1 z2 z3 : PV) => eqV (rowsP g be af z1 z2 z3) v && (intT (tysOf path) z1 && (intT (tysOf path) z2 && intT (tysOf path) z3)))
    ((fnd 0 (rowsP g be af (.unk 0) (.unk 1) (.unk 2)) v).getD (.int 0)) ((fnd 1 (rowsP g be af (.unk 0) (.unk 1) (.unk 2)) v).getD (.int 0)) ((fnd 2 (rowsP g be af (.unk 0) (.unk 1) (.unk 2)) v).getD (.int 0))
theorem ckR (m : Nat) : chk D.bs m 2 (fun _ _ _ => none) 43 [] [20] (optsI [2, 3] []) gdR 20 [] = true := by kernel_rfl
/-- a thing's term, left open as a whole -/
def evK1 (j : Nat) : List Ev := [⟨44, [.strs []], .unk (100 * j), [(100 * j, 0, .bl true, 0)]⟩]
def thgT (ts : List (Nat × Tsp)) : PV → Bool
  | .unk n => ts.any fun p => Nat.beq p.1 n && eqV p.2.2.1 (.bl true)
  | _ => false
def mainU (b : Bool) : List PV := [varP "a" cKA (.unk 0), varP "b" cKA (.unk 1), varP "i" cINT (numV (.int 0)),
  whlP (opP "<" (nameP "i") (numV (.unk 6))) ([setP "i" (opP "+" (nameP "i") num1)] ++ inL b),
  ifP (isP (nameP "b") "B") [pttP (asP (nameP "b") (kd "B")) "next" (nameP "a")] [],
  ifP (.unk 4) [retP (.unk 3)] [], retP (.unk 5)]
def optsM (j : Nat) (i : Int) (args : List PV) : Option (List Ev) :=
  if i = 44 then (if eqVs args [.tup []] then some (evK1 j) else none) else
  if i = 42 then (if eqVs args [.tup [.str "i"], .tup [.str "a", .str "b"]] then some (evT 2 j) else none) else optsI [2, 3] [(1, 1), (2, 2), (2, 1)] j i args
def τM (p v : PV) : Nat → PV := fun k => (fnd k p v).getD (if k = 6 then .int 0 else num0)
def tyk (ts : List (Nat × Tsp)) (τ : Nat → PV) (k : Nat) : Bool := match kOf k with
  | some (g, s) => tyB ts s 3 g (τ k)
  | none => false
def gdM (path : List Ev) (v : PV) : Bool := [true, false].any fun b => eqV (sub (τM (.tup (mainU b)) v) (.tup (mainU b))) v &&
  (thgT (tysOf path) (τM (.tup (mainU b)) v 0) && (thgT (tysOf path) (τM (.tup (mainU b)) v 1) && ([2, 3, 4, 5].all (fun k => tyk (tysOf path) (τM (.tup (mainU b)) v) k) && intT (tysOf path) (τM (.tup (mainU b)) v 6))))
theorem ckM (m : Nat) : chk D.bs m 2 (fun _ _ _ => none) 45 [] [20, 41, 42, 44] optsM gdM 30 [] = true := by kernel_rfl
end K07
set_option Elab.async false
set_option linter.all false
set_option maxRecDepth 100000
set_option maxHeartbeats 1000000
/-! OL: k07: what is drawn. -/
namespace K07
open PySem PySem.Spec PyProof.Rows L2 DD
section
variable {P : Program} {w : World} {K : PySem.W.Frag} {mg : Str → Option Value} {base : Heap} {ca fa : Nat → Addr}
/-- a function draws what is right -/
def DF (P : Program) (w : World) (K : PySem.W.Frag) (mg : Str → Option Value) (base : Heap) (ca fa : Nat → Addr) (k id : Nat) (as : List Ag) (Post : PV → Prop) : Prop := ∃ f, DGood P w K mg base ca fa D.bs k id as f ∧ ∀ x, Post (f x).1
theorem DF.mono {k k' id : Nat} {as : List Ag} {Post : PV → Prop} (h : DF P w K mg base ca fa k id as Post) (le : k ≤ k') : DF P w K mg base ca fa k' id as Post := by
  obtain ⟨f, g, p⟩ := h
  exact ⟨f, g.mono le, p⟩
/-- one pattern for all -/
theorem cov_one {k id : Nat} {as : List Ag} {Post : PV → Prop} (h : DF P w K mg base ca fa k id as Post) {j : Nat} {ts : List (Nat × Tsp)} (ht : ∀ t, Post t → ∀ σ : Nat → PV, σ (100 * j) = t → ∀ p ∈ ts, TyP σ p.1 p.2) : Cov P w K mg base ca fa D.bs TyP k j [⟨id, as, .unk (100 * j), ts⟩] := by
  obtain ⟨f, g, p⟩ := h
  refine ⟨id, as, f, g, fun e he => by rw [List.mem_singleton.mp he]; exact ⟨rfl, rfl⟩, fun x => ⟨_, List.mem_singleton.mpr rfl, fun _ => (f x).1, fun _ => g.2 x, fun σ' ag => ?_⟩⟩
  have e := ag 0 (by omega)
  exact ⟨by rw [sub]; exact e.symm, ht _ (p x) σ' e⟩
abbrev DI (P : Program) (w : World) (K : PySem.W.Frag) (mg : Str → Option Value) (base : Heap) (ca fa : Nat → Addr) (k c dep : Nat) : Prop := DF P w K mg base ca fa k 41 (asI c dep) fun t => ∀ s ∈ stC c, Ty s cINT dep t
theorem cov_evI {k c dep : Nat} (h : DI P w K mg base ca fa k c dep) (j : Nat) : Cov P w K mg base ca fa D.bs TyP k j (evI c dep j) := cov_one h fun t ht σ e p hp => by
  obtain ⟨s, hs, rfl⟩ := List.mem_map.mp hp
  show Ty s cINT dep (σ (100 * j))
  rw [e]
  exact ht s hs
theorem cov_evT {k c : Nat} (h : DF P w K mg base ca fa k 42 (asT c) fun t => ∀ s ∈ stT c, Ty s cBOO 3 t) (j : Nat) : Cov P w K mg base ca fa D.bs TyP k j (evT c j) := cov_one h fun t ht σ e p hp => by
  obtain ⟨s, hs, rfl⟩ := List.mem_map.mp hp
  show Ty s cBOO 3 (σ (100 * j))
  rw [e]
  exact ht s hs
def PostK (t : PV) : Prop := ∃ x, x < 3 ∧ ∃ u, t = thg x u ∧ Ty 0 cINT 1 u ∧ Ty 1 cINT 1 u
theorem cov_evK1 {k : Nat} (h : DF P w K mg base ca fa k 44 [.strs []] PostK) (j : Nat) : Cov P w K mg base ca fa D.bs TyP k j (evK1 j) := cov_one h fun t ht σ e p hp => by
  rw [List.mem_singleton.mp hp]
  show PostK (σ (100 * j))
  rw [e]
  exact ht
theorem ho_I (S : Sta P w K mg base ca fa D.bs) {k : Nat} (hk : 6 ≤ k) {sp : List Nat} {cs : List (Nat × Nat)} (hcs : ∀ p ∈ cs, DI P w K mg base ca fa k p.1 p.2) : ∀ j i args evs, j < 900 → optsI sp cs j i args = some evs → Cov P w K mg base ca fa D.bs TyP k j evs := by
  intro j i args evs _ e
  unfold optsI at e
  split at e
  · unfold optR at e
    split at e
    · rename_i m
      split at e
      · rename_i q
        rw [Bool.and_eq_true] at q
        have h0 := Nat.le_of_ble_eq_true q.1
        have h1 := Nat.le_of_ble_eq_true q.2
        cases e
        split
        · exact cov_rollE S hk j m h0 h1
        · exact cov_rollU S hk j m h0 h1
      · cases e
    · cases e
  · split at e
    · unfold optC at e
      split at e
      · split at e
        · rename_i p q
          cases e
          exact cov_evI (hcs p (List.mem_of_find?_eq_some q)) j
        · cases e
      · cases e
    · cases e
theorem tys_mem {path : List Ev} {σ : Nat → PV} (h : Tys TyP path σ) : ∀ p ∈ tysOf path, TyP σ p.1 p.2 := fun p hp => by
  obtain ⟨e, he, q⟩ := List.mem_flatMap.mp hp
  exact h e he p q
theorem int_df (S : Sta P w K mg base ca fa D.bs) {m c dep : Nat} {sp : List Nat} {cs : List (Nat × Nat)} (hcs : ∀ p ∈ cs, DI P w K mg base ca fa (2 * m + 6) p.1 p.2) (hc : ckI m c dep sp cs = true) : DI P w K mg base ca fa (2 * m + 10) c dep :=
  draw_ok S (Post := fun t => ∀ s ∈ stC c, Ty s cINT dep t) (m := m) (n := 1) (t := 20) (ho_I S (by omega) hcs) (by omega) hc fun path σ v hσ ht hg s hs => tyB_ok (tys_mem ht) (List.all_eq_true.mp hg s hs)
theorem di00 (S : Sta P w K mg base ca fa D.bs) : DI P w K mg base ca fa 10 0 0 := int_df S (m := 0) (fun _ h => by cases h) (ck00 0)
theorem di10 (S : Sta P w K mg base ca fa D.bs) : DI P w K mg base ca fa 10 1 0 := int_df S (m := 0) (fun _ h => by cases h) (ck10 0)
theorem di20 (S : Sta P w K mg base ca fa D.bs) : DI P w K mg base ca fa 10 2 0 := int_df S (m := 0) (fun _ h => by cases h) (ck20 0)
theorem di01 (S : Sta P w K mg base ca fa D.bs) : DI P w K mg base ca fa 14 0 1 := int_df S (m := 2) (fun p h => by rw [List.mem_singleton.mp h]; exact di00 S) (ck01 2)
theorem di11 (S : Sta P w K mg base ca fa D.bs) : DI P w K mg base ca fa 14 1 1 := int_df S (m := 2) (fun p h => by rw [List.mem_singleton.mp h]; exact di10 S) (ck11 2)
theorem di21 (S : Sta P w K mg base ca fa D.bs) : DI P w K mg base ca fa 14 2 1 := int_df S (m := 2) (fun p h => by rw [List.mem_singleton.mp h]; exact di20 S) (ck21 2)
theorem di22 (S : Sta P w K mg base ca fa D.bs) : DI P w K mg base ca fa 18 2 2 := int_df S (m := 4) (fun p h => by rw [List.mem_singleton.mp h]; exact di21 S) (ck22 4)
theorem test_df (S : Sta P w K mg base ca fa D.bs) {c : Nat} {sp : List Nat} {cs : List (Nat × Nat)} (hcs : ∀ p ∈ cs, DI P w K mg base ca fa 14 p.1 p.2) (hc : ckT 4 c sp cs = true) : DF P w K mg base ca fa 18 42 (asT c) fun t => ∀ s ∈ stT c, Ty s cBOO 3 t :=
  draw_ok S (Post := fun t => ∀ s ∈ stT c, Ty s cBOO 3 t) (m := 4) (n := 1) (t := 20) (ho_I S (by omega) hcs) (by omega) hc fun path σ v hσ ht hg s hs => tyB_ok (tys_mem ht) (List.all_eq_true.mp hg s hs)
theorem dt0 (S : Sta P w K mg base ca fa D.bs) : DF P w K mg base ca fa 18 42 (asT 0) fun t => ∀ s ∈ stT 0, Ty s cBOO 3 t := test_df S (fun p h => by rw [List.mem_singleton.mp h]; exact di01 S) (ckT0 4)
theorem dt2 (S : Sta P w K mg base ca fa D.bs) : DF P w K mg base ca fa 18 42 (asT 2) fun t => ∀ s ∈ stT 2, Ty s cBOO 3 t := test_df S (fun p h => by rw [List.mem_singleton.mp h]; exact di21 S) (ckT2 4)
theorem sub_thg (σ : Nat → PV) (x : Nat) (u : PV) : sub σ (thg x u) = thg x (sub σ u) := by
  unfold thg
  split
  · exact nf_sub rfl
  · simp [newP, kd, sub, subs]
  · simp [newP, kd, sub, subs]
theorem dk (S : Sta P w K mg base ca fa D.bs) : DF P w K mg base ca fa 18 44 [.strs []] PostK :=
  draw_ok S (m := 4) (n := 1) (t := 20) (ho_I S (by omega) (fun p h => by rw [List.mem_singleton.mp h]; exact di01 S)) (by omega) (ckK 4) fun path σ v hσ ht hg => by
    obtain ⟨x, hx, q⟩ := List.any_eq_true.mp hg
    rw [Bool.and_eq_true] at q
    have e := eqV_eq q.1
    have a := List.all_eq_true.mp q.2
    refine ⟨x, by simp at hx; omega, sub σ ((fnd 0 (thg x (.unk 0)) v).getD num0), ?_, tyB_ok (tys_mem ht) (a 0 (by simp)), tyB_ok (tys_mem ht) (a 1 (by simp))⟩
    rw [← sub_thg, e]
theorem intT_ok {ts : List (Nat × Tsp)} {σ : Nat → PV} (h : ∀ p ∈ ts, TyP σ p.1 p.2) {v : PV} (e : intT ts v = true) : ∃ z, sub σ v = .int z := by
  unfold intT at e
  split at e
  · exact ⟨_, by rw [sub]⟩
  · obtain ⟨⟨n, s, g, d⟩, hp, q⟩ := List.any_eq_true.mp e
    rw [Bool.and_eq_true] at q
    have q1 := Nat.eq_of_beq_eq_true q.1
    have q2 := eqV_eq q.2
    simp only at q1 q2
    subst q1 q2
    obtain ⟨z, hz⟩ : ∃ z, σ n = .int z := h _ hp
    exact ⟨z, by rw [sub]; exact hz⟩
  · cases e
theorem thgT_ok {ts : List (Nat × Tsp)} {σ : Nat → PV} (h : ∀ p ∈ ts, TyP σ p.1 p.2) {v : PV} (e : thgT ts v = true) : PostK (sub σ v) := by
  unfold thgT at e
  split at e
  · obtain ⟨⟨n, s, g, d⟩, hp, q⟩ := List.any_eq_true.mp e
    rw [Bool.and_eq_true] at q
    have q1 := Nat.eq_of_beq_eq_true q.1
    have q2 := eqV_eq q.2
    simp only at q1 q2
    subst q1 q2
    have := h _ hp
    rw [sub]
    exact this
  · cases e
def PostR (t : PV) : Prop := ∃ q : Dr, t = .tup [rowA q.rw, rowB]
theorem sub_rowsP (σ : Nat → PV) (g : Nat) (be af : Bool) (z1 z2 z3 : PV) : sub σ (rowsP g be af z1 z2 z3) = rowsP g be af (sub σ z1) (sub σ z2) (sub σ z3) := by
  have eB : sub σ rowB = rowB := nf_sub (by rfl)
  have eN : sub σ newM = newM := nf_sub (by rfl)
  have eS : sub σ stepS = stepS := nf_sub (by rfl)
  cases be <;> cases af <;> simp [rowsP, rowA, rwU, kd, numV, nameP, sub, subs, eB, eN, eS]
theorem dr (S : Sta P w K mg base ca fa D.bs) : DF P w K mg base ca fa 12 43 [] PostR :=
  draw_ok S (m := 0) (n := 2) (t := 20) (ho_I S (by omega) (fun _ h => by cases h)) (by omega) (ckR 0) fun path σ v hσ ht hg => by
    obtain ⟨g, hg, q⟩ := List.any_eq_true.mp hg
    obtain ⟨be, _, q⟩ := List.any_eq_true.mp q
    obtain ⟨af, _, q⟩ := List.any_eq_true.mp q
    simp only [Bool.and_eq_true] at q
    obtain ⟨q0, q1, q2, q3⟩ := q
    have e := eqV_eq q0
    obtain ⟨z1, e1⟩ := intT_ok (tys_mem ht) q1
    obtain ⟨z2, e2⟩ := intT_ok (tys_mem ht) q2
    obtain ⟨z3, e3⟩ := intT_ok (tys_mem ht) q3
    rw [← e, sub_rowsP, e1, e2, e3]
    refine ⟨⟨g, z1, if be then some z2 else none, af, z3⟩, ?_⟩
    unfold rowsP
    congr 2
    cases be <;> cases af <;> rfl
/-- what the parts of a drawn main are -/
structure Gm (τ : Nat → PV) : Prop where
  nf : Nf τ
  ty : ∀ k ∈ ([0, 1, 2, 3, 4, 5] : List Nat), ∀ g s, kOf k = some (g, s) → Ty s g 3 (τ k)
  it : ∃ z, τ 6 = .int z
def PostM (t : PV) : Prop := ∃ (b : Bool) (x y : Nat) (τ : Nat → PV), x < 3 ∧ y < 3 ∧ Gm τ ∧ t = .tup (subs τ (mainL b x y))
theorem ho_M (S : Sta P w K mg base ca fa D.bs) : ∀ j i args evs, j < 900 → optsM j i args = some evs → Cov P w K mg base ca fa D.bs TyP 18 j evs := by
  intro j i args evs l e
  unfold optsM at e
  split at e
  · split at e
    · cases e; exact cov_evK1 (dk S) j
    · cases e
  · split at e
    · split at e
      · cases e; exact cov_evT (dt2 S) j
      · cases e
    · refine ho_I S (by omega) (fun p h => ?_) j i args evs l e
      simp at h
      rcases h with rfl | rfl | rfl
      · exact (di11 S).mono (by omega)
      · exact di22 S
      · exact (di21 S).mono (by omega)
theorem pure_mainU (b : Bool) : puresB (mainU b) = true := by cases b <;> rfl
theorem dm (S : Sta P w K mg base ca fa D.bs) : DF P w K mg base ca fa 24 45 [] PostM :=
  draw_ok S (m := 6) (n := 2) (t := 30) (ho_M S) (by omega) (ckM 6) fun path σ v hσ ht hg => by
    obtain ⟨b, _, q⟩ := List.any_eq_true.mp hg
    simp only [Bool.and_eq_true] at q
    obtain ⟨q0, q1, q2, q3, q4⟩ := q
    have e := eqV_eq q0
    generalize τM (.tup (mainU b)) v = ρ at *
    have tm := tys_mem ht
    obtain ⟨x, hx, u, ex, tu0, tu1⟩ := thgT_ok tm q1
    obtain ⟨y, hy, u', ey, tu0', tu1'⟩ := thgT_ok tm q2
    obtain ⟨z, ez⟩ := intT_ok tm q4
    have q3 := List.all_eq_true.mp q3
    have t2 : Ty 2 cINT 3 (sub σ (ρ 2)) := tyB_ok tm (q3 2 (by simp))
    have t3 : Ty 2 cINT 3 (sub σ (ρ 3)) := tyB_ok tm (q3 3 (by simp))
    have t4 : Ty 2 cBOO 3 (sub σ (ρ 4)) := tyB_ok tm (q3 4 (by simp))
    have t5 : Ty 2 cINT 3 (sub σ (ρ 5)) := tyB_ok tm (q3 5 (by simp))
    refine ⟨b, x, y, fun k => match k with
      | 0 => u
      | 1 => u'
      | 2 => sub σ (ρ 2)
      | 3 => sub σ (ρ 3)
      | 4 => sub σ (ρ 4)
      | 5 => sub σ (ρ 5)
      | 6 => .int z
      | _ => .non, hx, hy, ⟨fun n => ?_, fun k hk g s ek => ?_, ⟨z, rfl⟩⟩, ?_⟩
    · match n with
      | 0 => exact tu0.nf
      | 1 => exact tu1'.nf
      | 2 => exact t2.nf
      | 3 => exact t3.nf
      | 4 => exact t4.nf
      | 5 => exact t5.nf
      | 6 => rfl
      | n + 7 => rfl
    · simp only [List.mem_cons, List.not_mem_nil, or_false] at hk
      rcases hk with rfl | rfl | rfl | rfl | rfl | rfl
      · cases ek; exact tu0.mono (by omega)
      · cases ek; exact tu1'.mono (by omega)
      · cases ek; exact t2
      · cases ek; exact t3
      · cases ek; exact t4
      · cases ek; exact t5
    · rw [← e, sub_sub]
      have eN : ∀ τ : Nat → PV, sub τ NUL = NUL := fun τ => nf_sub (by rfl)
      have eK : ∀ (τ : Nat → PV) (x : Str), sub τ (kd x) = kd x := fun τ x => nf_sub (by rfl)
      have eT : ∀ (τ : Nat → PV) (x : Nat) (u : PV), sub τ (thg x u) = thg x (sub τ u) := sub_thg
      cases b <;> simp [mainU, mainL, inL, varP, setP, pttP, whlP, ifP, isP, asP, retP, opP, nameP, numV, num1, sub, subs, eK, eT, ex, ey, ez]
end
end K07
set_option Elab.async false
set_option linter.all false
set_option maxRecDepth 100000
set_option maxHeartbeats 1000000
/-! OM: k07: check_main's words. -/
namespace K07
open PySem PySem.Spec PyProof.Rows L2 DD
theorem subs_map (σ : Nat → PV) : ∀ l : List PV, subs σ l = l.map (sub σ)
  | [] => by rw [subs]; rfl
  | x :: l => by rw [subs, subs_map σ l]; rfl
/-- what the parts of a drawn main, and a test, are -/
structure GU (σ : Nat → PV) : Prop where
  nf : Nf σ
  k0 : PostK (σ 0)
  k1 : PostK (σ 1)
  ty : ∀ k ∈ ([2, 3, 4, 5] : List Nat), ∀ g s, kOf k = some (g, s) → Ty s g 3 (σ k)
  it : ∃ z, σ 6 = .int z
  t7 : Ty 3 cBOO 3 (σ 7)
def tabU : List (List PV × OR) := tabM (mainU true) ++ (tabM (mainU false) ++ tabF)
/-- .. as Vm wants them -/
structure GV (σ : Nat → PV) : Prop where
  nf : Nf σ
  ty : ∀ k g s, kOf k = some (g, s) → Ty s g 3 (σ k)
theorem tabF_sub (σ : Nat → PV) : tabF.map (fun e => subs σ e.1) = tabF.map (fun e => subs (fun n => match n with
  | 7 => σ 7
  | _ => .non) e.1) := by kernel_rfl
theorem mainU_sub (b : Bool) (σ σ2 : Nat → PV) (x y : Nat) (h0 : σ 0 = thg x (σ2 0)) (h1 : σ 1 = thg y (σ2 1)) (h : ∀ n, 2 ≤ n → σ n = σ2 n) : subs σ (mainU b) = subs σ2 (mainL b x y) := by
  have eK : ∀ (τ : Nat → PV) (x : Str), sub τ (kd x) = kd x := fun τ x => nf_sub (by rfl)
  have h2 := h 2 (by omega)
  have h3 := h 3 (by omega)
  have h4 := h 4 (by omega)
  have h5 := h 5 (by omega)
  have h6 := h 6 (by omega)
  cases b <;> simp [mainU, mainL, inL, varP, setP, pttP, whlP, ifP, isP, asP, retP, opP, nameP, numV, num1, sub, subs, eK, sub_thg, h0, h1, h2, h3, h4, h5, h6]
theorem tabM_sub {b : Bool} {σ σ2 : Nat → PV} {x y : Nat} (h : subs σ (mainU b) = subs σ2 (mainL b x y)) {e : List PV × OR} (he : e ∈ tabM (mainU b)) : ∃ m2, (m2, e.2) ∈ tabM (mainL b x y) ∧ subs σ e.1 = subs σ2 m2 := by
  unfold tabM at he
  simp only [List.mem_cons, List.not_mem_nil, or_false] at he
  rw [subs_map, subs_map] at h
  have hl : ∀ τ : Nat → PV, List.map (sub τ) [lastP] = [lastP] := fun τ => by
    rw [← subs_map]; exact nfs_sub (by rfl)
  rcases he with rfl | rfl | rfl | rfl
  · exact ⟨_, List.mem_cons_self, by rw [subs_map, subs_map]; exact h⟩
  · exact ⟨_, List.mem_cons_of_mem _ List.mem_cons_self, by rw [subs_map, subs_map, List.map_take, List.map_take, h]⟩
  · exact ⟨_, List.mem_cons_of_mem _ (List.mem_cons_of_mem _ List.mem_cons_self), by rw [subs_map, subs_map, List.map_append, List.map_append, h, hl, hl]⟩
  · exact ⟨_, List.mem_cons_of_mem _ (List.mem_cons_of_mem _ (List.mem_cons_of_mem _ List.mem_cons_self)), by rw [subs_map, subs_map, List.map_append, List.map_append, List.map_take, List.map_take, h]⟩
theorem mem_allM {b : Bool} {x y : Nat} (hx : x < 3) (hy : y < 3) {e : List PV × OR} (h : e ∈ tabM (mainL b x y)) : e ∈ allM := by
  unfold allM
  refine List.mem_flatMap.mpr ⟨b, by cases b <;> simp, List.mem_flatMap.mpr ⟨(x, y), ?_, h⟩⟩
  unfold shp
  exact List.mem_flatMap.mpr ⟨x, by simp; omega, List.mem_map.mpr ⟨y, by simp; omega, rfl⟩⟩
theorem to_V {σ : Nat → PV} (G : GU σ) {e : List PV × OR} (he : e ∈ tabU) : ∃ m2 σ2, (m2, e.2) ∈ allM ++ tabF ∧ subs σ e.1 = subs σ2 m2 ∧ GV σ2 ∧ rwOf σ2 = rwOf σ := by
  obtain ⟨x, hx, u, e0, a0, a1⟩ := G.k0
  obtain ⟨y, hy, v, e1, b0, b1⟩ := G.k1
  let σ2 : Nat → PV := fun n => match n with
    | 0 => u
    | 1 => v
    | n => σ n
  have g2 : ∀ n, 2 ≤ n → σ n = σ2 n := fun n hn => by
    match n, hn with
    | n + 2, _ => rfl
  have gv : GV σ2 := by
    refine ⟨fun n => ?_, fun k g s ek => ?_⟩
    · match n with
      | 0 => exact a0.nf
      | 1 => exact b1.nf
      | n + 2 => exact G.nf (n + 2)
    · match k, ek with
      | 0, ek => cases ek; exact a0.mono (by omega)
      | 1, ek => cases ek; exact b1.mono (by omega)
      | 2, ek => exact G.ty 2 (by simp) g s ek
      | 3, ek => exact G.ty 3 (by simp) g s ek
      | 4, ek => exact G.ty 4 (by simp) g s ek
      | 5, ek => exact G.ty 5 (by simp) g s ek
      | 6, ek => cases ek
      | 7, ek => cases ek; exact G.t7
      | k + 8, ek => cases ek
  have M : ∀ b, e ∈ tabM (mainU b) → ∃ m2, (m2, e.2) ∈ allM ++ tabF ∧ subs σ e.1 = subs σ2 m2 := fun b hb => by
    obtain ⟨m2, h1, h2⟩ := tabM_sub (mainU_sub b σ σ2 x y e0 e1 g2) hb
    exact ⟨m2, List.mem_append_left _ (mem_allM hx hy h1), h2⟩
  unfold tabU at he
  rcases List.mem_append.mp he with h | h
  · obtain ⟨m2, h1, h2⟩ := M true h
    exact ⟨m2, σ2, h1, h2, gv, rfl⟩
  rcases List.mem_append.mp h with h | h
  · obtain ⟨m2, h1, h2⟩ := M false h
    exact ⟨m2, σ2, h1, h2, gv, rfl⟩
  · refine ⟨e.1, σ2, List.mem_append_right _ h, ?_, gv, rfl⟩
    have a := map_all (tabF_sub σ) e h
    have b := map_all (tabF_sub σ2) e h
    exact a.trans b.symm
/-- check_main at one main -/
def W38 (m' : List PV) (o : OR) : Wd := fun ws h r => ∃ s R σ, ws = [.obj s, .tup (subs σ m')] ∧ CL h s R ∧ R = rwOf σ ∧ GU σ ∧ r = o.res h
theorem W38_call {m' : List PV} {o : OR} {h : Hh} {s : Nat} {σ : Nat → PV} (c : CL h s (rwOf σ)) (G : GU σ) : FP (W38 m' o) [.obj s, .tup (subs σ m')] h = o.res h :=
  FP_of (fun r' ⟨_, _, _, _, _, _, _, e⟩ => e) ⟨s, _, σ, rfl, c, rfl, G, rfl⟩
theorem nf_all : (allM ++ tabF).all (fun e => e.2.nf) = true := by kernel_rfl
theorem rAll (m : Nat) : ∀ e ∈ allM ++ tabF, runM m e.1 = (e.2, os0.map some) := fun e he => by
  rcases List.mem_append.mp he with h | h
  · exact map_all (rMM m) e h
  · exact map_all (rMF m) e h
section
variable {P : Program} {w : World} {K : PySem.W.Frag} {mg : Str → Option Value} {base : Heap} {ca fa : Nat → Addr}
theorem vm_ok {σ : Nat → PV} (G : GV σ) {k : Nat} (hk : NKok P w K mg base ca fa 3 k) : OvOk P w K mg base ca fa D.bs σ Vm k := by
  have nR : nfR (rwOf σ) = true := by unfold nfR rwOf; simp [G.nf 100, G.nf 101, G.nf 102, G.nf 103]
  intro id f hT ws h r e
  unfold Vm at e
  split at e
  · rename_i l j g i
    split at e
    · rename_i g' s eg
      split at e
      · rename_i ok
        cases e
        rw [Bool.and_eq_true] at ok
        have := eqV_eq ok.1
        subst this
        obtain ⟨c, q, e', n, L⟩ := look_sub (σ := σ) ok.2
        have T := G.ty j g s eg
        have hs : s < 4 := by
          match j, eg with
          | 0, eg => cases eg; omega
          | 1, eg => cases eg; omega
          | 2, eg => cases eg; omega
          | 3, eg => cases eg; omega
          | 4, eg => cases eg; omega
          | 5, eg => cases eg; omega
          | 6, eg => cases eg
          | 7, eg => cases eg; omega
          | j + 8, eg => cases eg
        refine ⟨FP (WN 3), (hk U0 f).1 hT, .inl ⟨.non, h, subH σ h, rfl, ?_, SubH.all⟩⟩
        have gn : subs σ [.obj l, .unk j, g, .obj i] = [.obj l, σ j, g, .obj i] := by
          have := T.nfg
          simp [subs, sub, nf_sub this]
        rw [gn]
        exact WN_call hs L nR T
      · cases e
    · cases e
  · cases e
theorem w38_ok (S : Sta P w K mg base ca fa D.bs) {e : List PV × OR} (he : e ∈ tabU) : ∀ U f, D.bs.T 38 = some f → FnGood P w K mg base ca fa U 150 38 f (FP (W38 e.1 e.2)) := by
  intro U f hT
  refine wordU_ok (k := 2 * 48 + 4 + 2 * nM) S hT fun ws h r ⟨s, R, σ, ew, cl, eR, G, er⟩ => ?_
  obtain ⟨m2, σ2, h1, h2, G2, h3⟩ := to_V G he
  obtain ⟨d, g1, g2, pl⟩ := cl
  have tw := twr_ok S G2.nf (V := Vm) (m := 48) (vm_ok G2 (nk_ok S 3)) 23
  have F := fit_cl g1 g2 pl
  subst ew er
  refine ⟨σ2, (fun U => U = ⟨σ2⟩), _, _, [s, d], os0, [.obj 0, .tup m2], e.2, G2.nf, rfl, tw.2, .inr ⟨_, rfl, tw.1⟩, ?_, ?_, ?_, List.all_eq_true.mp nf_all (m2, e.2) h1, rfl⟩
  · have : os0.map (subO σ2) = oR (rwOf σ2) := rfl
    rw [this, h3, ← eR]
    exact F
  · have : subs σ2 [.obj 0, .tup m2] = [.obj 0, .tup (subs σ2 m2)] := by simp [subs, sub]
    rw [this, h2]
    unfold Rns
    refine ⟨.obj s, _, rfl, by unfold Rn; exact ⟨s, rfl, rfl⟩, Rns.pure ?_⟩
    have := pure_nf (w := .tup m2) G2.nf
    have pm : pureB (.tup m2) = true := by
      have : (allM ++ tabF).all (fun e => pureB (.tup e.1)) = true := by kernel_rfl
      exact List.all_eq_true.mp this (m2, e.2) h1
    have q := nf_pure (pure_nf G2.nf pm)
    rw [sub] at q
    unfold puresB
    rw [q]
    rfl
  · have := rAll 48 (m2, e.2) h1
    unfold runM clM Bs.step at this
    rw [hT] at this
    exact this
end
end K07
set_option Elab.async false
set_option linter.all false
set_option maxRecDepth 100000
set_option maxHeartbeats 0
/-! OO: k07: the law's rounds: closed runs. -/
namespace K07
open PySem PySem.Spec PyProof.Rows L2 DD
def s46g (it : SE) (C Cl : CT) : SS := (sSeq (sForA 2000 true .keys it (.nm 1) (sSeq (sAsgP (eTup (evs [(eMake C 9 1 2 (evs [(eCall C 43 1 (evs [(eVar 1)]))])), (eCall C 45 1 (evs [(eVar 1)]))])) (.tp [(.nm 5), (.nm 6)])) <|
    sSeq (sDrop (eCall C 39 1 (evs [(eVar 5)]))) <|
    sSeq (sDrop (eCall C 38 2 (evs [(eVar 5), (eVar 6)]))) <|
    sSeq (sPar3 7 8 9 (evs [(eTup (evs [(eVal (.str "num")), (eVal (.int (1)))])), (eTup (evs [(eVal (.str "truth")), (eVal (.bl true))])), (eTup (evs [(eVal (.str "name")), (eVal (.str "z"))]))])) <|
    sSeq (sPar 10 11 (evs [(eTup (evs [(eVal (.str "var")), (eVal (.str "z")), (eVal (.tup [.str "own", .str "Int", .tup []])), (eVal (.non))])), (eTup (evs [(eVal (.str "return")), (eTup (evs [(eVal (.str "name")), (eVal (.str "z"))]))]))])) <|
    sSeq (sAsg' (eLst (evs [(eTup (evs [(eSl (eVar 6) none (some (eBin .Sub (eB (one lenF) (evs [(eVar 6)])) (eVal (.int (1)))))), (eVal (.str "unset"))])), (eTup (evs [(eBin .Add (eVar 6) (eTup (evs [(eVar 11)]))), (eVal (.str "unset"))])), (eTup (evs [(eBin .Add (eSl (eVar 6) none (some (eVal (.int (1))))) (eVar 6)), (eVal (.str "name"))])), (eTup (evs [(eTup (evs [(eVar 11)])), (eVal (.str "name"))])), (eTup (evs [(eTup (evs [(eVar 10), (eVar 11)])), (eVal (.str "unset"))])), (eTup (evs [(eTup (evs [(eVar 10), (eTup (evs [(eVal (.str "if")), (eVar 8), (eTup (evs [(eTup (evs [(eVal (.str "set")), (eVal (.str "z")), (eVar 7)]))])), eNul])), (eVar 11)])), (eVal (.str "unset"))])), (eTup (evs [(eTup (evs [(eVar 10), (eTup (evs [(eVal (.str "while")), (eVar 8), (eTup (evs [(eTup (evs [(eVal (.str "set")), (eVal (.str "z")), (eVar 7)]))]))])), (eVar 11)])), (eVal (.str "unset"))])), (eTup (evs [(eTup (evs [(eVar 10), (eTup (evs [(eVal (.str "set")), (eVal (.str "z")), (eVar 8)])), (eVar 11)])), (eVal (.str "kind"))])), (eTup (evs [(eTup (evs [(eTup (evs [(eVal (.str "return")), (eVar 8)]))])), (eVal (.str "kind"))])), (eTup (evs [(eTup (evs [(eTup (evs [(eVal (.str "return")), (eTup (evs [(eVal (.str "op")), (eVal (.str "+")), (eVar 8), (eVar 7)]))]))])), (eVal (.str "kind"))])), (eTup (evs [(eTup (evs [(eTup (evs [(eVal (.str "if")), (eVar 7), eNul, eNul])), (eTup (evs [(eVal (.str "return")), (eVar 7)]))])), (eVal (.str "kind"))])), (eTup (evs [(eTup (evs [(eTup (evs [(eVal (.str "do")), (eTup (evs [(eVal (.str "new")), (eCall C 22 1 (evs [(eVal (.str "A"))])), eNul]))])), (eTup (evs [(eVal (.str "return")), (eVar 7)]))])), (eVal (.str "name"))])), (eTup (evs [(eTup (evs [(eTup (evs [(eVal (.str "do")), (eTup (evs [(eVal (.str "new")), (eCall C 22 1 (evs [(eVal (.str "Z"))])), eNul]))])), (eTup (evs [(eVal (.str "return")), (eVar 7)]))])), (eVal (.str "name"))])), (eTup (evs [(eTup (evs [(eTup (evs [(eVal (.str "var")), (eVal (.str "z")), (eCall C 22 1 (evs [(eVal (.str "B"))])), (eTup (evs [(eVal (.str "new")), (eCall C 22 1 (evs [(eVal (.str "A"))])), (eTup (evs [(eVar 7)]))]))])), (eTup (evs [(eVal (.str "return")), (eVar 7)]))])), (eVal (.str "kind"))])), (eTup (evs [(eTup (evs [(eTup (evs [(eVal (.str "do")), (eTup (evs [(eVal (.str "this"))]))])), (eTup (evs [(eVal (.str "return")), (eVar 7)]))])), (eVal (.str "name"))])), (eTup (evs [(eTup (evs [(eTup (evs [(eVal (.str "do")), (eTup (evs [(eVal (.str "get")), (eVar 7), (eVal (.str "x"))]))])), (eTup (evs [(eVal (.str "return")), (eVar 7)]))])), (eVal (.str "kind"))])), (eTup (evs [(eTup (evs [(eTup (evs [(eVal (.str "do")), (eTup (evs [(eVal (.str "get")), (eTup (evs [(eVal (.str "new")), (eCall C 22 1 (evs [(eVal (.str "A"))])), (eTup (evs [(eVar 7)]))])), (eVal (.str "y"))]))])), (eTup (evs [(eVal (.str "return")), (eVar 7)]))])), (eVal (.str "name"))])), (eTup (evs [(eTup (evs [(eTup (evs [(eVal (.str "do")), (eTup (evs [(eVal (.str "result"))]))])), (eTup (evs [(eVal (.str "return")), (eVar 7)]))])), (eVal (.str "name"))]))])) (gN 2)) <|
    sSeq (sAsg' (eCall C 20 2 (evs [(eVar 1), (eB (one lenF) (evs [(eVar 2)]))])) (gN 3)) <|
    sSeq (sForA 2000 true .keys (eLst (evs [(eIx (eVar 2) (eVar 3)), (eIx (eVar 2) (eBin .Mod (eBin .Add (eVar 3) (eVal (.int (7)))) (eB (one lenF) (evs [(eVar 2)])))), (eIx (eVar 2) (eBin .Mod (eBin .Add (eVar 3) (eVal (.int (11)))) (eB (one lenF) (evs [(eVar 2)]))))])) (.tp [(.nm 12), (.nm 13)]) (sSeq (sIf (tVal (eCmp .NotEq (eTold D.bs.ex 2 [⟨1, none, .ret (.str "text")⟩, ⟨2, none, .ret (.str "name")⟩, ⟨3, none, .ret (.str "kind")⟩, ⟨4, none, .ret (.str "unset")⟩, ⟨5, some 1, .ret (.fld "why")⟩, ⟨6, none, .ret (.str "program")⟩, ⟨7, none, .ret (.str "long")⟩, ⟨8, none, .ret (.str "large")⟩] (eCall Cl 38 2 (evs [(eVar 5), (eVar 12)]))) (eVar 13))) (sSeq (sRet (eVal (.bl false))) <|
        sNil) sNil) <|
      sNil)) <|
    sSeq (sAsg' (eTup (evs [(eVar 10), (eTup (evs [(eVal (.str "if")), (eCall C 42 3 (evs [(eVar 1), (eLst (evs [])), (eLst (evs []))])), (eTup (evs [(eTup (evs [(eVal (.str "set")), (eVal (.str "z")), (eVar 7)]))])), (eTup (evs [(eTup (evs [(eVal (.str "set")), (eVal (.str "z")), (eTup (evs [(eVal (.str "num")), (eVal (.int (2)))]))]))]))])), (eVar 11)])) (gN 4)) <|
    sSeq (sDrop (eCall C 38 2 (evs [(eVar 5), (eVar 4)]))) <|
    sSeq (sDrop (eCall C 38 2 (evs [(eVar 5), (eTup (evs [(eTup (evs [(eVal (.str "var")), (eVal (.str "z")), (eCall C 22 1 (evs [(eVal (.str "A"))])), (eTup (evs [(eVal (.str "new")), (eCall C 22 1 (evs [(eVal (.str "B"))])), (eTup (evs [(eVar 7)]))]))])), (eTup (evs [(eVal (.str "return")), (eCall C 40 2 (evs [(eVar 9), (eVal (.str "m"))]))]))]))]))) <|
    sSeq (sDrop (eCall C 38 2 (evs [(eVar 5), (eTup (evs [(eTup (evs [(eVal (.str "var")), (eVal (.str "t")), (eVal (.tup [.str "own", .str "Bool", .tup []])), (eTup (evs [(eVal (.str "op")), (eVal (.str "==")), (eTup (evs [(eVal (.str "null"))])), (eTup (evs [(eVal (.str "new")), (eCall C 22 1 (evs [(eVal (.str "B"))])), (eTup (evs [(eVar 7)]))]))]))])), (eTup (evs [(eVal (.str "return")), (eVar 7)]))]))]))) <|
    sNil)) <|
  sSeq (sRet (eVal (.bl true))) <|
  sNil)
theorem s46_eq (C Cl : CT) : s46 C Cl = s46g (eCall C 21 2 (evs [(eVar 0), (eVal (.int (1)))])) C Cl := rfl
def RL : Rw := ⟨.unk 0, .unk 1, .unk 2, .unk 3⟩
def renL : Nat → PV := fun k => if Nat.blt k 7 then .unk (100 + k) else if Nat.beq k 7 then .unk 300 else .unk (k - 100)
def evLR : Ev := ⟨43, [], .tup [rowA RL, rowB], [(0, 0, .str "rows", 0)]⟩
def evLM (b : Bool) : Ev := ⟨45, [], .tup (subs renL (mainU b)), [(100, 0, .bl true, 0), (101, 0, .bl true, 0), (102, 2, cINT, 3), (103, 2, cINT, 3), (104, 2, cBOO, 3), (105, 2, cINT, 3), (106, 0, .non, 0)]⟩
def evL18 (v : Nat) : Ev := ⟨20, [.int 18], .int v, []⟩
def evLT : Ev := ⟨42, asT 0, .unk 300, [(300, 3, cBOO, 3)]⟩
def pathL (b : Bool) (v : Nat) : List Ev := [evLR, evLM b, evL18 v, evLT]
/-- the classes of the drawn rows -/
def clB (h : Hh) (s : Nat) : Bool := match h.get s with
  | some (.ins _ [(_, .obj r)]) => atB h s (insR r) && atB h r (.dct (rowsD RL))
  | _ => false
def V2L : VT := fun id ws h => match id, ws with
  | 39, [.obj s] => if clB h s then some (.ok .non h) else none
  | 38, [.obj s, .tup ms] => if clB h s then (match tabU.find? fun e => eqVs ms (subs renL e.1) with
    | some e => some (e.2.res h)
    | none => none) else none
  | _, _ => none
def VL (vd : List PV → Hh → Option (Res PV)) (path : List Ev) : VT := fun id ws h => match id with
  | 21 => vd ws h
  | _ => Vor (Vd path) V2L id ws h
abbrev nL : Nat := 12
def osL (b : Bool) (ns : List Int) : List Ob := [if b = true then .frz (.lst (ns.map .int)) else .lst (ns.map .int), dieU 0, .lst [.obj 1]]
def runL (vd : List PV → Hh → Option (Res PV)) (m : Nat) (b : Bool) (ns : List Int) (bm : Bool) (v : Nat) :=
  obsR 1 (runF (s46g (eVal (.obj 2)) (D.bs.twr (VL vd (pathL bm v)) m nL) (D.bs.twr (VL vd (pathL bm v)) m (nL - 1))) f46.fn0.N [.obj 0] (mkH (osL b ns)))
def endL (b : Bool) (ns : List Int) : OR × List (Option Ob) := (.val (.bl true), [some (if b = true then .frz (.lst (ns.map .int)) else .lst (ns.map .int))])
theorem rLt0 (vd : List PV → Hh → Option (Res PV)) (m : Nat) (b : Bool) (ns : List Int) : ([0, 1, 2, 3, 4, 5] : List Nat).map (fun v => runL vd m b ns true v) = ([0, 1, 2, 3, 4, 5] : List Nat).map fun _ => endL b ns := by kernel_rfl
theorem rLt1 (vd : List PV → Hh → Option (Res PV)) (m : Nat) (b : Bool) (ns : List Int) : ([6, 7, 8, 9, 10, 11] : List Nat).map (fun v => runL vd m b ns true v) = ([6, 7, 8, 9, 10, 11] : List Nat).map fun _ => endL b ns := by kernel_rfl
theorem rLt2 (vd : List PV → Hh → Option (Res PV)) (m : Nat) (b : Bool) (ns : List Int) : ([12, 13, 14, 15, 16, 17] : List Nat).map (fun v => runL vd m b ns true v) = ([12, 13, 14, 15, 16, 17] : List Nat).map fun _ => endL b ns := by kernel_rfl
theorem rLf0 (vd : List PV → Hh → Option (Res PV)) (m : Nat) (b : Bool) (ns : List Int) : ([0, 1, 2, 3, 4, 5] : List Nat).map (fun v => runL vd m b ns false v) = ([0, 1, 2, 3, 4, 5] : List Nat).map fun _ => endL b ns := by kernel_rfl
theorem rLf1 (vd : List PV → Hh → Option (Res PV)) (m : Nat) (b : Bool) (ns : List Int) : ([6, 7, 8, 9, 10, 11] : List Nat).map (fun v => runL vd m b ns false v) = ([6, 7, 8, 9, 10, 11] : List Nat).map fun _ => endL b ns := by kernel_rfl
theorem rLf2 (vd : List PV → Hh → Option (Res PV)) (m : Nat) (b : Bool) (ns : List Int) : ([12, 13, 14, 15, 16, 17] : List Nat).map (fun v => runL vd m b ns false v) = ([12, 13, 14, 15, 16, 17] : List Nat).map fun _ => endL b ns := by kernel_rfl
theorem rL (vd : List PV → Hh → Option (Res PV)) (m : Nat) (b : Bool) (ns : List Int) (bm : Bool) (v : Nat) (hv : v < 18) : runL vd m b ns bm v = endL b ns := by
  by_cases h0 : v < 6
  · have m0 : v ∈ ([0, 1, 2, 3, 4, 5] : List Nat) := by simp; omega
    cases bm
    · exact map_all (rLf0 vd m b ns) v m0
    · exact map_all (rLt0 vd m b ns) v m0
  by_cases h1 : v < 12
  · have m1 : v ∈ ([6, 7, 8, 9, 10, 11] : List Nat) := by simp; omega
    cases bm
    · exact map_all (rLf1 vd m b ns) v m1
    · exact map_all (rLt1 vd m b ns) v m1
  · have m2 : v ∈ ([12, 13, 14, 15, 16, 17] : List Nat) := by simp; omega
    cases bm
    · exact map_all (rLf2 vd m b ns) v m2
    · exact map_all (rLt2 vd m b ns) v m2
end K07
set_option Elab.async false
set_option linter.all false
set_option maxRecDepth 100000
set_option maxHeartbeats 4000000
/-! ON: k07: the rounds (k05's texts FT, FU renamed, one cell). -/
namespace DD
open PySem PySem.Spec PyProof.Rows L2
theorem map_inj {α β : Type} {f : α → β} (h : ∀ a b, f a = f b → a = b) : ∀ {x y : List α}, x.map f = y.map f → x = y
  | [], [], _ => rfl
  | [], _ :: _, e => by cases e
  | _ :: _, [], e => by cases e
  | a :: x, b :: y, e => by
    rw [List.map_cons, List.map_cons, List.cons.injEq] at e
    rw [h a b e.1, map_inj h e.2]
@[simp] theorem put_last (pre : List Ob) (o o' : Ob) (hb : pre.length < 15000000) : (mkH (pre ++ [o])).put pre.length o' = mkH (pre ++ [o']) := by
  rw [mkH_put _ _ _ (by simp) (by simp; omega), List.set_append_right _ _ (Nat.le_refl _), Nat.sub_self]
  rfl
def pushL (h : Hh) (os : List Ob) : Hh := os.foldl Hh.push h
theorem pushL_n (h : Hh) (os : List Ob) : (pushL h os).n = h.n + os.length := (foldH os h).1
theorem pushL_get (h : Hh) (os : List Ob) (i : Nat) : (pushL h os).get i = if i < h.n then h.get i else os[i - h.n]? := (foldH os h).2 i
theorem pushL_mkH (a b : List Ob) : pushL (mkH a) b = mkH (a ++ b) := by
  unfold pushL mkH
  rw [List.foldl_append]
end DD
namespace K07
open PySem PySem.Spec PyProof.Rows L2 DD
section
variable {P : Program} {w : World} {K : PySem.W.Frag} {mg : Str → Option Value} {base : Heap} {ca fa : Nat → Addr}
theorem pure_die (x : Int × Int × Int) : pureO (dieO x) = true := rfl
def Wdice : Wd := fun ws h r => ∃ z, ws = [.int z] ∧ r = .ok (.obj h.n) (h.push (dieO (diceF z)))
theorem Wdice_call (h : Hh) (z : Int) : FP Wdice [.int z] h = .ok (.obj h.n) (h.push (dieO (diceF z))) := FP_of (fun r' ⟨y, e, q⟩ => by cases e; exact q) ⟨z, rfl, rfl⟩
theorem dice_ok (S : Sta P w K mg base ca fa D.bs) {U : Ups} {k : Nat} {G : Ups → Prop} {C Cl : CT} (hU : G U) (hC : CtOk P w K mg base ca fa D.bs G C k) (hCl : ∃ k', k = k' + 2 ∧ CtOk P w K mg base ca fa D.bs G Cl k') : FnGood P w K mg base ca fa U (k + 2) 19 f19.fn0 (FP Wdice) :=
  word_ok S rfl hU hC (.inr hCl) fun ws h r ⟨z, e1, e2⟩ => by
    subst e1 e2
    refine ⟨[], [], [.int z], fit_none, Rns.pure rfl, ?_⟩
    rw [run_dice C Cl z]
    exact RnR.new fit_none (pure_die _) (fun i hi => absurd hi (Nat.not_lt_zero i)) (Nat.le_refl 0) (by rw [mkH_get]; rfl)
def scrO (b : Bool) (ns : List Int) : Ob := if b = true then .frz (.lst (ns.map .int)) else .lst (ns.map .int)
def cellsF (ns : List Int) : List Int := if ns.take 1 = [] then [0] else ns.take 1
def refs (d n : Nat) : List PV := (List.range n).map fun k => .obj (d + k)
theorem cells_len (ns : List Int) : 1 ≤ (cellsF ns).length ∧ (cellsF ns).length ≤ 1 := by
  unfold cellsF
  cases ns with
  | nil => simp
  | cons a ns => simp
def HDice (C : CT) : Prop := ∀ os z, C 19 [.int z] (mkH os) = .ok (.obj os.length) (mkH (os ++ [dieO (diceF z)]))
theorem refs_succ (d n : Nat) : refs d (n + 1) = refs d n ++ [.obj (d + n)] := by
  unfold refs
  rw [List.range_succ, List.map_append]
  rfl
theorem rounds_lc (C : CT) (hd : HDice C) (cells : List Int) (lc : cells.length ≤ 1) (pre : List Ob) (j : Nat) (hj : pre[j]? = some (.lst (cells.map .int))) (lp : pre.length < 1000) (a0 a1 a2 : Option PV) :
    lcGo (.lst j) [a0, a1, a2, none] (.nm 3) (fun _ h => .ok true h) (eCall C 19 1 (evs [(eVar 3)])) pre.length 2000 0 (mkH (pre ++ [.lst []])) =
      .ok (.obj pre.length) (mkH (pre ++ .lst (refs (pre.length + 1) cells.length) :: cells.map fun z => dieO (diceF z))) := by
  have lj := (List.getElem?_eq_some_iff.mp hj).1
  obtain ⟨h2, e1, e2⟩ := lcGo_inv (.lst j) [a0, a1, a2, none] (.nm 3) (fun _ h => .ok true h) (eCall C 19 1 (evs [(eVar 3)])) pre.length (cells.map .int)
    (fun i h => h = mkH (pre ++ .lst (refs (pre.length + 1) i) :: (cells.take i).map fun z => dieO (diceF z))) (fun i h e => by
      subst e
      show ((mkH _).lst? j).map _ = _
      rw [lst_eq, mkH_get, List.getElem?_append_left lj, hj]
      rfl) (fun i x h e ex => by
      subst e
      rw [List.getElem?_map] at ex
      cases em : cells[i]? with
      | none => rw [em] at ex; cases ex
      | some z =>
        rw [em] at ex
        cases ex
        have lt : i < cells.length := (List.getElem?_eq_some_iff.mp em).1
        have c := hd (pre ++ .lst (refs (pre.length + 1) i) :: (cells.take i).map fun z => dieO (diceF z)) z
        refine ⟨[a0, a1, a2, some (.int z)], rfl, .inr ⟨_, .obj (pre.length + 1 + i), mkH (pre ++ .lst (refs (pre.length + 1) i) :: ((cells.take (i + 1)).map fun z => dieO (diceF z))), refs (pre.length + 1) i, rfl, ?_, ?_, ?_, ?_⟩⟩
        · have ln : (pre ++ .lst (refs (pre.length + 1) i) :: (cells.take i).map fun z => dieO (diceF z)).length = pre.length + 1 + i := by
            simp
            omega
          rw [ln] at c
          rw [take_snoc em, List.map_append]
          simp at c ⊢
          exact c
        · rw [mkH_get, List.getElem?_append_right (Nat.le_refl _), Nat.sub_self]
          rfl
        · simp [refs, lim]
          omega
        · rw [put_mid _ _ _ _ (by simp; omega), refs_succ]) 2000 0 (mkH (pre ++ [.lst []])) (by simp [refs]) (Nat.zero_le _) (by rw [List.length_map]; omega)
  rw [e1, e2, List.length_map, List.take_length]
theorem dat_ints (n : Nat) (h : Hh) : ∀ xs : List Int, (xs.map PV.int).mapM (dat (n + 1) h) = some (xs.map PyData.int)
  | [] => rfl
  | x :: xs => by
    rw [List.map_cons, List.mapM_cons, show dat (n + 1) h (.int x) = some (.int x) from rfl, dat_ints n h xs]
    rfl
theorem lay_ints : ∀ xs : List Int, PyData.canLayAll0 (xs.map PyData.int) = true
  | [] => rfl
  | x :: xs => by
    show ((PyData.int x).canLay0 && PyData.canLayAll0 (xs.map PyData.int)) = true
    rw [lay_ints xs]
    simp [PyData.canLay0]
theorem depth_ints : ∀ xs : List Int, PyData.depthAll (xs.map PyData.int) ≤ 1
  | [] => by simp [PyData.depthAll]
  | x :: xs => by
    have := depth_ints xs
    show max (PyData.int x).depth (PyData.depthAll (xs.map PyData.int)) ≤ 1
    have : (PyData.int x).depth ≤ 1 := by simp [PyData.depth]
    omega
theorem eqS_ints {h : Hh} {i j : Nat} {xs : List Int} (hi : h.lst? i = some (xs.map .int)) (hj : h.lst? j = some []) : eqS h (.obj i) (.obj j) = some xs.isEmpty := by
  have e : eqS h (.obj i) (.obj j) = (match datS h (.obj i), datS h (.obj j) with
    | some d, some e => some (PyData.eqv d e)
    | _, _ => none) := rfl
  have d1 : datS h (.obj i) = some (.list (xs.map .int)) := by
    unfold datS
    have : dat 66 h (.obj i) = some (.list (xs.map .int)) := by
      show (match h.lst? i with
        | some xs => (xs.mapM (dat 65 h)).map PyData.list
        | none => none) = _
      rw [hi]
      show ((xs.map PV.int).mapM (dat (64 + 1) h)).map PyData.list = _
      rw [dat_ints]
      rfl
    rw [this]
    have sh : SeqAt.shaped (.list (xs.map PyData.int)) = true := by
      unfold SeqAt.shaped
      have := depth_ints xs
      have e : (PyData.list (xs.map PyData.int)).canLay0 = true := lay_ints xs
      have d : (PyData.list (xs.map PyData.int)).depth = PyData.depthAll (xs.map PyData.int) + 1 := by simp [PyData.depth]
      rw [e, d]
      simp
      omega
    simp [sh]
  have d2 : datS h (.obj j) = some (.list []) := by
    unfold datS
    have : dat 66 h (.obj j) = some (.list []) := by
      show (match h.lst? j with
        | some xs => (xs.mapM (dat 65 h)).map PyData.list
        | none => none) = _
      rw [hj]
      rfl
    rw [this]
    rfl
  rw [e, d1, d2]
  cases xs with
  | nil => rfl
  | cons x xs => rfl
theorem run_rounds (C Cl : CT) (hd : HDice C) (b : Bool) (ns : List Int) : ∃ pre, pre[0]? = some (scrO b ns) ∧ 0 < pre.length ∧ runF (D.bs.sem f21.fn0 C Cl) f21.fn0.N [.obj 0, .int 1] (mkH [scrO b ns]) = .ok (.obj pre.length) (mkH (pre ++ .lst (refs (pre.length + 1) (cellsF ns).length) :: (cellsF ns).map fun z => dieO (diceF z))) := by
  rw [sem21]
  have ct := cut_take (ns.map PV.int) 1
  rw [← List.map_take] at ct
  have ct : cutP (ns.map PV.int) none (some 1) = (ns.take 1).map .int := ct
  have l1 : 1 ≤ lim := by unfold lim; omega
  have he := fun os => eqS_ints (h := mkH (scrO b ns :: .lst ((ns.take 1).map .int) :: .lst [] :: os)) (i := 1) (j := 2) (xs := ns.take 1) (by simp) (by simp)
  have lc : (cellsF ns).length ≤ 1 := (cells_len ns).2
  unfold cellsF at lc ⊢
  by_cases q : ns.take 1 = []
  · rw [if_pos q] at lc ⊢
    have r := rounds_lc C hd [0] lc [scrO b ns, .lst ((ns.take 1).map .int), .lst [], .lst [.int 0]] 3 rfl (by simp) (some (.obj 0)) (some (.int 1)) (some (.obj 3))
    refine ⟨[scrO b ns, .lst ((ns.take 1).map .int), .lst [], .lst [.int 0]], rfl, by simp, runF_rt ?_⟩
    rw [show startP f21.fn0.N [.obj 0, .int 1] = [some (.obj 0), some (.int 1), none, none] from rfl]
    rw [q] at he ct r ⊢
    unfold s21
    have he := he []
    unfold scrO at he r ⊢
    cases b <;> simp at he r ct ⊢ <;> simp [ct, he, l1, r]
  · rw [if_neg q] at lc ⊢
    have r := rounds_lc C hd (ns.take 1) lc [scrO b ns, .lst ((ns.take 1).map .int), .lst []] 1 rfl (by simp) (some (.obj 0)) (some (.int 1)) (some (.obj 1))
    refine ⟨[scrO b ns, .lst ((ns.take 1).map .int), .lst []], rfl, by simp, runF_rt ?_⟩
    rw [show startP f21.fn0.N [.obj 0, .int 1] = [some (.obj 0), some (.int 1), none, none] from rfl]
    have q2 : (ns.take 1).isEmpty = false := by
      cases hq : ns.take 1 with
      | nil => exact absurd hq q
      | cons _ _ => rfl
    unfold s21
    have he := he []
    rw [q2] at he
    generalize ns.take 1 = cs at *
    unfold scrO at he r ⊢
    cases b <;> simp at he r ct ⊢ <;> simp [ct, he, l1, r]
theorem pure_scr (b : Bool) (ns : List Int) : pureO (scrO b ns) = true := by
  have : puresB (ns.map .int) = true := by
    induction ns with
    | nil => rfl
    | cons n ns ih =>
      show (true && puresB (ns.map .int)) = true
      rw [ih]
      rfl
  unfold scrO
  cases b <;> exact this
theorem scr_inj {b b' : Bool} {ns ns' : List Int} (e : scrO b ns = scrO b' ns') : ns = ns' := by
  unfold scrO at e
  cases b <;> cases b' <;> simp at e
  · exact map_inj (fun x y e => by injection e) e
  · exact map_inj (fun x y e => by injection e) e
def diceL (ns : List Int) : List Ob := (cellsF ns).map fun z => dieO (diceF z)
def Wrounds : Wd := fun ws h r => ∃ s b ns, ws = [.obj s, .int 1] ∧ h.get s = some (scrO b ns) ∧ r = .ok (.obj (h.n + (cellsF ns).length)) (pushL h (diceL ns ++ [.lst (refs h.n (cellsF ns).length)]))
theorem Wrounds_call {h : Hh} {s : Nat} {b : Bool} {ns : List Int} (e : h.get s = some (scrO b ns)) : FP Wrounds [.obj s, .int 1] h = .ok (.obj (h.n + (cellsF ns).length)) (pushL h (diceL ns ++ [.lst (refs h.n (cellsF ns).length)])) :=
  FP_of (fun r' ⟨s', b', ns', e1, e2, e3⟩ => by
    simp only [List.cons.injEq, PV.obj.injEq, and_true] at e1
    subst e1
    rw [e] at e2
    have := scr_inj (Option.some.inj e2)
    subst this
    exact e3) ⟨s, b, ns, rfl, e, rfl⟩
theorem refs_rn {Φ : Nat → Nat → Prop} : ∀ (n d d' : Nat), (∀ k, k < n → Φ (d + k) (d' + k)) → Rns Φ (refs d n) (refs d' n)
  | 0, d, d', _ => by unfold refs Rns; rfl
  | n + 1, d, d', h => by
    have e : ∀ d, refs d (n + 1) = .obj d :: refs (d + 1) n := by
      intro d
      unfold refs
      rw [List.range_succ_eq_map, List.map_cons, List.map_map]
      congr 1
      apply List.map_congr_left
      intro k _
      show PV.obj (d + (k + 1)) = PV.obj (d + 1 + k)
      congr 1
      omega
    rw [e, e]
    unfold Rns
    refine ⟨.obj d', refs (d' + 1) n, rfl, ?_, refs_rn n (d + 1) (d' + 1) fun k hk => ?_⟩
    · unfold Rn
      exact ⟨d', h 0 (by omega), rfl⟩
    · have := h (k + 1) (by omega)
      rw [show d + 1 + k = d + (k + 1) by omega, show d' + 1 + k = d' + (k + 1) by omega]
      exact this
theorem rounds_back {h : Hh} {s : Nat} {o : Ob} (e : h.get s = some o) (po : pureO o = true) (pre ds : List Ob) (hp : pre[0]? = some o) (lp : 0 < pre.length) (pd : ∀ o ∈ ds, pureO o = true) :
    RnR h [s] (.ok (.obj pre.length) (mkH (pre ++ .lst (refs (pre.length + 1) ds.length) :: ds))) (.ok (.obj (h.n + ds.length)) (pushL h (ds ++ [.lst (refs h.n ds.length)]))) := by
  have ls := Hh.get_lt e
  have nwk : ∀ k i, ((List.range ds.length).map (fun k => pre.length + 1 + k) ++ [pre.length])[k]? = some i → (k < ds.length ∧ i = pre.length + 1 + k) ∨ (k = ds.length ∧ i = pre.length) := by
    intro k i q
    by_cases hk : k < ds.length
    · rw [List.getElem?_append_left (by simpa using hk), List.getElem?_map, List.getElem?_range hk] at q
      exact .inl ⟨hk, (Option.some.inj q).symm⟩
    · rw [List.getElem?_append_right (by simp; omega)] at q
      rw [List.length_map, List.length_range] at q
      cases hk2 : k - ds.length with
      | zero =>
        rw [hk2] at q
        exact .inr ⟨by omega, (Option.some.inj q).symm⟩
      | succ n =>
        rw [hk2] at q
        simp at q
  have ph : ∀ k, k < ds.length → Phi h.n [s] ((List.range ds.length).map (fun k => pre.length + 1 + k) ++ [pre.length]) (pre.length + 1 + k) (h.n + k) := fun k hk => .inr ⟨k, by
    rw [List.getElem?_append_left (by simpa using hk), List.getElem?_map, List.getElem?_range hk]
    rfl, rfl⟩
  refine ⟨(List.range ds.length).map (fun k => pre.length + 1 + k) ++ [pre.length], .obj (h.n + ds.length), _, rfl, ⟨?_, ?_, fun i hi => ?_, fun i j q => ?_, fun j lt nj => ?_, fun k i q => ?_⟩, ?_⟩
  · rw [pushL_n]; simp
  · rw [List.nodup_append]
    refine ⟨List.Pairwise.map _ (fun a b hab => by omega) List.nodup_range, by simp, fun a ha b hb z => ?_⟩
    obtain ⟨k, _, rfl⟩ := List.mem_map.mp ha
    have := List.mem_singleton.mp hb
    omega
  · have l2 : (mkH (pre ++ .lst (refs (pre.length + 1) ds.length) :: ds)).n = pre.length + (ds.length + 1) := by rw [mkH_n]; simp
    rw [l2]
    rcases List.mem_append.mp hi with hi | hi
    · obtain ⟨k, hk, rfl⟩ := List.mem_map.mp hi
      have := List.mem_range.mp hk
      simp
      omega
    · have := List.mem_singleton.mp hi
      simp
      omega
  · match i, q with
    | 0, q =>
      have q : s = j := by simpa using q
      subst q
      refine ⟨o, o, ?_, ?_, RnO.pure po⟩
      · rw [mkH_get, List.getElem?_append_left lp]; exact hp
      · rw [pushL_get, if_pos ls]; exact e
  · rw [pushL_get, if_pos lt]
  · rcases nwk k i q with ⟨hk, rfl⟩ | ⟨rfl, rfl⟩
    · refine ⟨ds[k], ds[k], ?_, ?_, RnO.pure (pd _ (List.getElem_mem hk))⟩
      · rw [mkH_get, List.getElem?_append_right (by omega), show pre.length + 1 + k - pre.length = k + 1 by omega, List.getElem?_cons_succ]
        simp [hk]
      · rw [pushL_get, if_neg (by omega), show h.n + k - h.n = k by omega, List.getElem?_append_left hk]
        simp [hk]
    · refine ⟨.lst (refs (pre.length + 1) ds.length), .lst (refs h.n ds.length), ?_, ?_, _, rfl, refs_rn _ _ _ fun k hk => ph k hk⟩
      · rw [mkH_get, List.getElem?_append_right (Nat.le_refl _), Nat.sub_self]
        rfl
      · rw [pushL_get, if_neg (by omega), show h.n + ds.length - h.n = ds.length by omega, List.getElem?_append_right (Nat.le_refl _), Nat.sub_self]
        rfl
  · unfold Rn
    refine ⟨h.n + ds.length, .inr ⟨ds.length, ?_, rfl⟩, rfl⟩
    rw [List.getElem?_append_right (by simp)]
    simp
theorem rounds_ok (S : Sta P w K mg base ca fa D.bs) {U : Ups} {k : Nat} {G : Ups → Prop} {C Cl : CT} (hU : G U) (hC : CtOk P w K mg base ca fa D.bs G C k) (hCl : ∃ k', k = k' + 2 ∧ CtOk P w K mg base ca fa D.bs G Cl k') (hd : HDice C) : FnGood P w K mg base ca fa U (k + 2) 21 f21.fn0 (FP Wrounds) :=
  word_ok S rfl hU hC (.inr hCl) fun ws h r ⟨s, b, ns, e1, e2, e4⟩ => by
    subst e1 e4
    refine ⟨[s], [scrO b ns], [.obj 0, .int 1], fit_one e2 (pure_scr b ns), ?_, ?_⟩
    · unfold Rns
      exact ⟨.obj s, [.int 1], rfl, by unfold Rn; exact ⟨s, rfl, rfl⟩, Rns.pure rfl⟩
    · obtain ⟨pre, p0, p1, e⟩ := run_rounds C Cl hd b ns
      rw [e]
      have := rounds_back e2 (pure_scr b ns) pre (diceL ns) p0 p1 (fun o ho => by
        obtain ⟨z, _, rfl⟩ := List.mem_map.mp ho
        rfl)
      have l : (diceL ns).length = (cellsF ns).length := by unfold diceL; rw [List.length_map]
      rw [l] at this
      exact this
theorem lc_lstH {α : Type} (j : Nat) (f g : α → PV) (xs : List α) (pre : List Ob) (hj : pre[j]? = some (.lst (xs.map f))) {τ : Env'} {p : Pat} {te : SE} (u : α → Env') (h0 : ∀ x ∈ xs, patS p (f x) τ = some (u x)) (h2 : ∀ x ∈ xs, ∀ os, te (u x) (mkH os) = .ok (g x) (mkH os)) (lp : pre.length < 1000) (l1 : xs.length ≤ 1000) (l2 : xs.length ≤ lim) :
    lcGo (.lst j) τ p (fun _ h => .ok true h) te pre.length 2000 0 (mkH (pre ++ [.lst []])) = .ok (.obj pre.length) (mkH (pre ++ [.lst (xs.map g)])) := by
  have lj := (List.getElem?_eq_some_iff.mp hj).1
  obtain ⟨h2', e1, e2⟩ := lcGo_inv (.lst j) τ p (fun _ h => .ok true h) te pre.length (xs.map f) (fun i h => h = mkH (pre ++ [.lst ((xs.take i).map g)])) (fun i h e => by
      subst e
      show ((mkH _).lst? j).map _ = _
      rw [lst_eq, mkH_get, List.getElem?_append_left lj, hj]
      rfl) (fun i x h e ex => by
      subst e
      rw [List.getElem?_map] at ex
      cases em : xs[i]? with
      | none => rw [em] at ex; cases ex
      | some z =>
        rw [em] at ex
        cases ex
        have hz := List.mem_of_getElem? em
        have lt : i < xs.length := (List.getElem?_eq_some_iff.mp em).1
        refine ⟨u z, h0 z hz, .inr ⟨_, g z, _, (xs.take i).map g, rfl, h2 z hz _, ?_, ?_, ?_⟩⟩
        · rw [mkH_get, List.getElem?_append_right (Nat.le_refl _), Nat.sub_self]
          rfl
        · rw [List.length_map, List.length_take]; omega
        · rw [put_last _ _ _ (by omega), take_snoc em, List.map_append]
          rfl) 2000 0 (mkH (pre ++ [.lst []])) rfl (Nat.zero_le _) (by rw [List.length_map]; omega)
  rw [e1, e2, List.length_map, List.take_length]
theorem lc_lst0 {α : Type} (j : Nat) (f g : α → PV) (xs : List α) (pre : List Ob) (hj : pre[j]? = some (.lst (xs.map f))) {τ : Env'} {p : Pat} {te : SE} (u : α → Env') (h0 : ∀ x ∈ xs, patS p (f x) τ = some (u x)) (h2 : ∀ x ∈ xs, ∀ h, te (u x) h = .ok (g x) h) (lp : pre.length < 1000) (l1 : xs.length ≤ 1000) (l2 : xs.length ≤ lim) :
    lcGo (.lst j) τ p (fun _ h => .ok true h) te pre.length 2000 0 (mkH (pre ++ [.lst []])) = .ok (.obj pre.length) (mkH (pre ++ [.lst (xs.map g)])) := lc_lstH j f g xs pre hj u h0 (fun x hx os => h2 x hx _) lp l1 l2
/-! _law_class -/
def strL (l : List Str) : Ob := .lst (l.map .str)
def HKd (C : CT) : Prop := ∀ os x, C 22 [.str x] (mkH os) = .ok (kd x) (mkH os)
end
end K07
set_option Elab.async false
set_option linter.all false
set_option maxRecDepth 100000
set_option maxHeartbeats 1000000
/-! OP: k07: the law. -/
namespace K07
open PySem PySem.Spec PyProof.Rows L2 DD
/-- a drawn main -/
structure GM (τ : Nat → PV) : Prop where
  nf : Nf τ
  k0 : PostK (τ 0)
  k1 : PostK (τ 1)
  ty : ∀ k ∈ ([2, 3, 4, 5] : List Nat), ∀ g s, kOf k = some (g, s) → Ty s g 3 (τ k)
  it : ∃ z, τ 6 = .int z
def PostMU (t : PV) : Prop := ∃ (b : Bool) (τ : Nat → PV), GM τ ∧ t = .tup (subs τ (mainU b))
theorem mainU_cong (b : Bool) (f g : Nat → PV) (h : ∀ n, n < 7 → f n = g n) : subs f (mainU b) = subs g (mainU b) := by
  have eK : ∀ (τ : Nat → PV) (x : Str), sub τ (kd x) = kd x := fun τ x => nf_sub (by rfl)
  cases b <;> simp [mainU, inL, varP, setP, pttP, whlP, ifP, isP, asP, retP, opP, nameP, numV, num1, sub, subs, eK, h 0 (by omega), h 1 (by omega), h 2 (by omega), h 3 (by omega), h 4 (by omega), h 5 (by omega), h 6 (by omega)]
section
variable {P : Program} {w : World} {K : PySem.W.Frag} {mg : Str → Option Value} {base : Heap} {ca fa : Nat → Addr}
theorem thg_nf (x : Nat) (u : PV) (h : nfB u = true) : nfB (thg x u) = true := by
  unfold thg
  split
  · rfl
  · simp [newP, kd, nfB, nfsB, h]
  · simp [newP, kd, nfB, nfsB, h]
theorem dmU (S : Sta P w K mg base ca fa D.bs) : DF P w K mg base ca fa 24 45 [] PostMU :=
  draw_ok S (Post := PostMU) (m := 6) (n := 2) (t := 30) (ho_M S) (by omega) (ckM 6) fun path σ v hσ ht hg => by
    obtain ⟨b, _, q⟩ := List.any_eq_true.mp hg
    simp only [Bool.and_eq_true] at q
    obtain ⟨q0, q1, q2, q3, q4⟩ := q
    have e := eqV_eq q0
    generalize τM (.tup (mainU b)) v = ρ at *
    have tm := tys_mem ht
    have pk0 := thgT_ok tm q1
    have pk1 := thgT_ok tm q2
    obtain ⟨z, ez⟩ := intT_ok tm q4
    have q3 := List.all_eq_true.mp q3
    have t2 : Ty 2 cINT 3 (sub σ (ρ 2)) := tyB_ok tm (q3 2 (by simp))
    have t3 : Ty 2 cINT 3 (sub σ (ρ 3)) := tyB_ok tm (q3 3 (by simp))
    have t4 : Ty 2 cBOO 3 (sub σ (ρ 4)) := tyB_ok tm (q3 4 (by simp))
    have t5 : Ty 2 cINT 3 (sub σ (ρ 5)) := tyB_ok tm (q3 5 (by simp))
    refine ⟨b, fun k => match k with
      | 0 => sub σ (ρ 0)
      | 1 => sub σ (ρ 1)
      | 2 => sub σ (ρ 2)
      | 3 => sub σ (ρ 3)
      | 4 => sub σ (ρ 4)
      | 5 => sub σ (ρ 5)
      | 6 => .int z
      | _ => .non, ⟨fun n => ?_, pk0, pk1, fun k hk g s ek => ?_, ⟨z, rfl⟩⟩, ?_⟩
    · obtain ⟨x, _, u, ex, tu, _⟩ := pk0
      obtain ⟨y, _, u', ey, tu', _⟩ := pk1
      match n with
      | 0 => show nfB (sub σ (ρ 0)) = true; rw [ex]; exact thg_nf x u tu.nf
      | 1 => show nfB (sub σ (ρ 1)) = true; rw [ey]; exact thg_nf y u' tu'.nf
      | 2 => exact t2.nf
      | 3 => exact t3.nf
      | 4 => exact t4.nf
      | 5 => exact t5.nf
      | 6 => rfl
      | n + 7 => rfl
    · simp only [List.mem_cons, List.not_mem_nil, or_false] at hk
      rcases hk with rfl | rfl | rfl | rfl
      · cases ek; exact t2
      · cases ek; exact t3
      · cases ek; exact t4
      · cases ek; exact t5
    · rw [← e, sub_sub, sub]
      congr 1
      refine mainU_cong b _ _ fun n hn => ?_
      match n, hn with
      | 0, _ => rfl
      | 1, _ => rfl
      | 2, _ => rfl
      | 3, _ => rfl
      | 4, _ => rfl
      | 5, _ => rfl
      | 6, _ => exact ez
theorem cov_R (S : Sta P w K mg base ca fa D.bs) {k : Nat} (hk : 12 ≤ k) : Cov P w K mg base ca fa D.bs TyP k 0 [evLR] := by
  obtain ⟨f, g, p⟩ := (dr S).mono hk
  refine ⟨43, [], f, g, fun e he => by rw [List.mem_singleton.mp he]; exact ⟨rfl, rfl⟩, fun x => ⟨_, List.mem_singleton.mpr rfl, ?_⟩⟩
  obtain ⟨q, eq⟩ := p x
  have gn := g.2 x
  rw [eq] at gn
  have hn : nfB q.rw.mi = true ∧ nfB q.rw.be = true ∧ nfB q.rw.af = true ∧ nfB q.rw.zt = true := by
    obtain ⟨g, z1, be, af, z3⟩ := q
    refine ⟨rfl, ?_, ?_, rfl⟩
    · cases be <;> rfl
    · cases af <;> rfl
  refine ⟨fun u => match u with
    | 0 => q.rw.mi
    | 1 => q.rw.be
    | 2 => q.rw.af
    | 3 => q.rw.zt
    | _ => .non, fun u => ?_, fun σ' ag => ?_⟩
  · match u with
    | 0 => exact hn.1
    | 1 => exact hn.2.1
    | 2 => exact hn.2.2.1
    | 3 => exact hn.2.2.2
    | u + 4 => rfl
  · have a0 : σ' 0 = q.rw.mi := ag 0 (by omega)
    have a1 : σ' 1 = q.rw.be := ag 1 (by omega)
    have a2 : σ' 2 = q.rw.af := ag 2 (by omega)
    have a3 : σ' 3 = q.rw.zt := ag 3 (by omega)
    refine ⟨?_, fun p hp => ?_⟩
    · rw [eq]
      have : sub σ' (.tup [rowA RL, rowB]) = .tup [rowA ⟨σ' 0, σ' 1, σ' 2, σ' 3⟩, rowB] := rfl
      show _ = sub σ' (.tup [rowA RL, rowB])
      rw [this, a0, a1, a2, a3]
    · rw [List.mem_singleton.mp hp]
      show isDr ⟨σ' 0, σ' 1, σ' 2, σ' 3⟩
      rw [a0, a1, a2, a3]
      exact ⟨q, rfl⟩
theorem cov_M (S : Sta P w K mg base ca fa D.bs) {k : Nat} (hk : 24 ≤ k) : Cov P w K mg base ca fa D.bs TyP k 1 [evLM true, evLM false] := by
  obtain ⟨f, g, p⟩ := (dmU S).mono hk
  refine ⟨45, [], f, g, fun e he => ?_, fun x => ?_⟩
  · simp only [List.mem_cons, List.not_mem_nil, or_false] at he
    rcases he with rfl | rfl <;> exact ⟨rfl, rfl⟩
  obtain ⟨b, τ, G, eq⟩ := p x
  refine ⟨evLM b, by cases b <;> simp, τ, G.nf, fun σ' ag => ?_⟩
  have ag : ∀ u, u < 7 → σ' (100 + u) = τ u := fun u hu => ag u (by omega)
  refine ⟨?_, fun p hp => ?_⟩
  · rw [eq]
    show _ = sub σ' (.tup (subs renL (mainU b)))
    rw [sub, subs_subs]
    congr 1
    refine mainU_cong b _ _ fun n hn => ?_
    have : renL n = .unk (100 + n) := by
      unfold renL
      rw [bltN, decide_eq_true hn, if_pos rfl]
    rw [this, sub]
    exact (ag n hn).symm
  · unfold evLM at hp
    simp only [List.mem_cons, List.not_mem_nil, or_false] at hp
    rcases hp with rfl | rfl | rfl | rfl | rfl | rfl | rfl
    · show PostK (σ' (100 + 0)); rw [ag 0 (by omega)]; exact G.k0
    · show PostK (σ' (100 + 1)); rw [ag 1 (by omega)]; exact G.k1
    · show Ty 2 cINT 3 (σ' (100 + 2)); rw [ag 2 (by omega)]; exact G.ty 2 (by simp) _ _ rfl
    · show Ty 2 cINT 3 (σ' (100 + 3)); rw [ag 3 (by omega)]; exact G.ty 3 (by simp) _ _ rfl
    · show Ty 2 cBOO 3 (σ' (100 + 4)); rw [ag 4 (by omega)]; exact G.ty 4 (by simp) _ _ rfl
    · show Ty 2 cINT 3 (σ' (100 + 5)); rw [ag 5 (by omega)]; exact G.ty 5 (by simp) _ _ rfl
    · show ∃ z, σ' (100 + 6) = .int z; rw [ag 6 (by omega)]; exact G.it
theorem cov_T (S : Sta P w K mg base ca fa D.bs) {k : Nat} (hk : 18 ≤ k) : Cov P w K mg base ca fa D.bs TyP k 3 [evLT] := cov_evT ((dt0 S).mono hk) 3
/-- a way of the law's draws -/
theorem way (S : Sta P w K mg base ca fa D.bs) {k : Nat} (hk : 24 ≤ k) (x : Die) : ∃ (bm : Bool) (v : Nat) (σ : Nat → PV) (xs : Nat → Die), v < 18 ∧ Nf σ ∧ xs 0 = x ∧ Con P w K mg base ca fa D.bs TyP k (pathL bm v) σ xs := by
  have c0 : Con P w K mg base ca fa D.bs TyP k [] (fun _ => .non) (fun _ => x) := fun j e ej => by simp at ej
  obtain ⟨e1, m1, σ1, xs1, n1, x1, c1⟩ := con_snoc c0 (fun _ => rfl) (cov_R S (by omega))
  rw [List.mem_singleton.mp m1] at c1
  obtain ⟨e2, m2, σ2, xs2, n2, x2, c2⟩ := con_snoc c1 n1 (cov_M S hk)
  obtain ⟨e3, m3, σ3, xs3, n3, x3, c3⟩ := con_snoc c2 n2 (cov_rollE S (by omega) _ 18 (by omega) (by omega))
  obtain ⟨v, hv, rfl⟩ := List.mem_map.mp m3
  have hv := List.mem_range.mp hv
  obtain ⟨e4, m4, σ4, xs4, n4, x4, c4⟩ := con_snoc c3 n3 (cov_T S (by omega))
  rw [List.mem_singleton.mp m4] at c4
  have ex : xs4 0 = x := by rw [x4, x3, x2, x1]
  simp only [List.mem_cons, List.not_mem_nil, or_false] at m2
  rcases m2 with rfl | rfl
  · exact ⟨true, v, σ4, xs4, hv, n4, ex, c4⟩
  · exact ⟨false, v, σ4, xs4, hv, n4, ex, c4⟩
/-- .. for check_main -/
def τL (σ : Nat → PV) : Nat → PV := fun n => sub σ (renL n)
theorem τL_nf {σ : Nat → PV} (h : Nf σ) : Nf (τL σ) := by
  intro n
  unfold τL renL
  split
  · rw [sub]; exact h _
  · split
    · rw [sub]; exact h _
    · rw [sub]; exact h _
theorem gu_of {σ : Nat → PV} {bm : Bool} {v : Nat} (h : Nf σ) (t : Tys TyP (pathL bm v) σ) : GU (τL σ) := by
  have tm : ∀ p ∈ (evLM bm).tys, TyP σ p.1 p.2 := t (evLM bm) (by simp [pathL])
  have tt : ∀ p ∈ evLT.tys, TyP σ p.1 p.2 := t evLT (by simp [pathL])
  have e : ∀ n, n < 7 → τL σ n = σ (100 + n) := fun n hn => by
    unfold τL renL
    rw [bltN, decide_eq_true hn, if_pos rfl, sub]
  refine ⟨τL_nf h, ?_, ?_, fun k hk g s ek => ?_, ?_, ?_⟩
  · rw [e 0 (by omega)]; exact tm (100, 0, .bl true, 0) (by simp [evLM])
  · rw [e 1 (by omega)]; exact tm (101, 0, .bl true, 0) (by simp [evLM])
  · simp only [List.mem_cons, List.not_mem_nil, or_false] at hk
    rcases hk with rfl | rfl | rfl | rfl
    · cases ek; rw [e 2 (by omega)]; exact tm (102, 2, cINT, 3) (by simp [evLM])
    · cases ek; rw [e 3 (by omega)]; exact tm (103, 2, cINT, 3) (by simp [evLM])
    · cases ek; rw [e 4 (by omega)]; exact tm (104, 2, cBOO, 3) (by simp [evLM])
    · cases ek; rw [e 5 (by omega)]; exact tm (105, 2, cINT, 3) (by simp [evLM])
  · rw [e 6 (by omega)]; exact tm (106, 0, .non, 0) (by simp [evLM])
  · exact tt (300, 3, cBOO, 3) (by simp [evLT])
theorem dr_of {σ : Nat → PV} {bm : Bool} {v : Nat} (t : Tys TyP (pathL bm v) σ) : isDr (rwOf (τL σ)) := t evLR (by simp [pathL]) (0, 0, .str "rows", 0) (by simp [evLR])
theorem cl_of {σ : Nat → PV} (h : Nf σ) {hh : Hh} {s : Nat} (e : clB hh s = true) : CL (subH σ hh) s (rwOf (τL σ)) := by
  unfold clB at e
  split at e
  · rename_i r q
    rw [Bool.and_eq_true] at e
    have a := subH_get (σ := σ) (atB_eq e.1)
    have b := subH_get (σ := σ) (atB_eq e.2)
    refine ⟨r, a, b, ?_⟩
    unfold plainR rwOf
    have := τL_nf h
    simp [nf_pure (this 100), nf_pure (this 101), nf_pure (this 102), nf_pure (this 103)]
  · cases e
theorem nf_tabU : tabU.all (fun e => e.2.nf) = true := by kernel_rfl
theorem ov2 (S : Sta P w K mg base ca fa D.bs) {σ : Nat → PV} {bm : Bool} {v : Nat} (h : Nf σ) (t : Tys TyP (pathL bm v) σ) : OvOk P w K mg base ca fa D.bs σ V2L 150 := by
  have G := gu_of h t
  intro id f hT ws hh r e
  unfold V2L at e
  split at e
  · rename_i s
    split at e
    · rename_i q
      cases e
      have c := cl_of h q
      refine ⟨FP (WC isDr cs39), ?_, .inl ⟨.non, hh, subH σ hh, rfl, ?_, SubH.all⟩⟩
      · have : f = f39.fn0 := by
          have e2 : D.bs.T 39 = some f39.fn0 := rfl
          rw [e2] at hT
          exact (Option.some.inj hT).symm
        subst this
        exact (wc_ok S (f := f39) rfl (by rfl) (fun R hR => r39 R hR)).mono (by omega)
      · have : subs σ [.obj s] = [.obj s] := by simp [subs, sub]
        rw [this]
        exact WC_call c (dr_of t) (o := .val .non) rfl
    · cases e
  · rename_i s ms
    split at e
    · rename_i q
      split at e
      · rename_i en q2
        cases e
        have c := cl_of h q
        have hm := List.mem_of_find?_eq_some q2
        have em := eqVs_eq (List.find?_some (p := fun (e : List PV × OR) => eqVs ms (subs renL e.1)) q2)
        have nf : en.2.nf = true := List.all_eq_true.mp nf_tabU en hm
        have call : FP (W38 en.1 en.2) (subs σ [.obj s, .tup ms]) (subH σ hh) = en.2.res (subH σ hh) := by
          have : subs σ [.obj s, .tup ms] = [.obj s, .tup (subs (τL σ) en.1)] := by
            rw [em]
            simp only [subs, sub, subs_subs]
            rfl
          rw [this]
          exact W38_call c G
        refine ⟨FP (W38 en.1 en.2), w38_ok S hm U0 f hT, ?_⟩
        rw [call]
        obtain ⟨m', o⟩ := en
        cases o with
        | val w => exact .inl ⟨w, hh, subH σ hh, rfl, by rw [nf_sub (show nfB w = true from nf)]; rfl, SubH.all⟩
        | exc c fs => exact .inr ⟨c, fs, hh, subH σ hh, rfl, by rw [nfF_sub (show nfF fs = true from nf)]; rfl, SubH.all⟩
        | new o => cases nf
        | bad => cases nf
      · cases e
    · cases e
  · cases e
open Classical in
/-- the rounds, answered -/
noncomputable def vdL (b : Bool) (ns : List Int) : List PV → Hh → Option (Res PV) := fun ws h => if ws = [.obj 0, .int 1] ∧ h = mkH [scrO b ns] then some (.ok (.obj 2) (mkH (osL b ns))) else none
theorem ints_nf : ∀ ns : List Int, nfsB (ns.map .int) = true
  | [] => rfl
  | n :: ns => by
    rw [List.map_cons]
    unfold nfsB
    rw [ints_nf ns]
    rfl
theorem scr_sub (σ : Nat → PV) (b : Bool) (ns : List Int) : subO σ (scrO b ns) = scrO b ns := by
  unfold scrO
  cases b
  · simp [subO, nfs_sub (ints_nf ns)]
  · simp [subO, nfs_sub (ints_nf ns)]
theorem ovD (S : Sta P w K mg base ca fa D.bs) {σ : Nat → PV} {xs : Nat → Die} {b : Bool} {ns : List Int} {c : Int} (ec : cellsF ns = [c]) (x0 : xs 0 = diceF c) : ∀ f, D.bs.T 21 = some f → ∀ ws h r, vdL b ns ws h = some r → ∃ F1, FnGood P w K mg base ca fa U0 150 21 f F1 ∧
    ∃ w h2 h3, r = .ok w h2 ∧ F1 (subs (σF σ xs) ws) (subH (σF σ xs) h) = .ok (sub (σF σ xs) w) h3 ∧ SubH (σF σ xs) h2 h3 := by
  intro f hT ws h r e
  unfold vdL at e
  split at e
  · rename_i q
    obtain ⟨rfl, rfl⟩ := q
    cases e
    have : f = f21.fn0 := by
      have e2 : D.bs.T 21 = some f21.fn0 := rfl
      rw [e2] at hT
      exact (Option.some.inj hT).symm
    subst this
    have cc := ctok_call S (fun _ => True) 0
    have hD : ∀ U f, D.bs.T 19 = some f → FnGood P w K mg base ca fa U 6 19 f (FP Wdice) := fun U f h => by
      have e2 : D.bs.T 19 = some f19.fn0 := rfl
      rw [e2] at h
      cases h
      exact dice_ok S (k := 4) (G := fun _ => True) True.intro cc.2 ⟨2, rfl, cc.1⟩
    have hC : CtOk P w K mg base ca fa D.bs (fun _ => True) (tabC [(19, FP Wdice)]) 6 := ctok_tab S fun U _ id F hl f hf => by
      simp only [List.lookup] at hl
      split at hl
      · rename_i q
        have : id = 19 := by simpa using q
        subst this
        cases hl
        exact hD U f hf
      · cases hl
    have g := rounds_ok S (U := U0) (k := 6) (G := fun _ => True) True.intro hC ⟨4, rfl, ctok_bad S _ 4⟩ (fun os z => by
      show FP Wdice [.int z] (mkH os) = _
      rw [Wdice_call, mkH_n, mkH_push])
    refine ⟨FP Wrounds, g.mono (by omega), .obj 2, mkH (osL b ns), pushL (subH (σF σ xs) (mkH [scrO b ns])) (diceL ns ++ [.lst (refs 1 1)]), rfl, ?_, ?_⟩
    · have : subs (σF σ xs) [.obj 0, .int 1] = [.obj 0, .int 1] := by simp [subs, sub]
      rw [this, Wrounds_call (b := b) (ns := ns) (by rw [subH_get (o := scrO b ns) (by rw [mkH_get]; rfl), scr_sub]), subH_n, mkH_n, ec]
      rfl
    · refine ⟨by rw [pushL_n, subH_n, mkH_n, mkH_n]; unfold diceL; rw [ec]; rfl, fun i hi => ?_⟩
      rw [mkH_n] at hi
      have hi : i < 3 := hi
      rw [pushL_get, subH_n, mkH_n, mkH_get]
      match i, hi with
      | 0, _ =>
        show (subH (σF σ xs) (mkH [scrO b ns])).get 0 = some (subO (σF σ xs) (scrO b ns))
        rw [subH_get (o := scrO b ns) (by rw [mkH_get]; rfl)]
      | 1, _ =>
        show (diceL ns ++ _)[0]? = some (subO (σF σ xs) (dieU 0))
        unfold diceL
        rw [ec, σF_die, x0]
        rfl
      | 2, _ =>
        show (diceL ns ++ _)[1]? = some (subO (σF σ xs) (.lst [.obj 1]))
        unfold diceL
        rw [ec]
        simp [subO, subs, sub, refs]
  · cases e
/-- the law gives True -/
def W46 : Wd := fun ws h r => ∃ b ns, ws = [.obj 0] ∧ h = DD.scr b ns ∧ r = .ok (.bl true) h
theorem W46_call (b : Bool) (ns : List Int) : FP W46 [.obj 0] (DD.scr b ns) = .ok (.bl true) (DD.scr b ns) := FP_of (fun r' ⟨_, _, _, _, e⟩ => e) ⟨b, ns, rfl, rfl, rfl⟩
theorem s46g_eq {C Cl : CT} {it : SE} {τ : Env'} {h h1 : Hh} {i : Nat} (e : it τ h = .ok (.obj i) h1) : s46g it C Cl τ h = s46g (eVal (.obj i)) C Cl τ h1 := by
  unfold s46g
  rw [sSeq_eq, sSeq_eq]
  unfold sForA
  rw [e]
  rfl
theorem law_ok (S : Sta P w K mg base ca fa D.bs) {U : Ups} : FnGood P w K mg base ca fa U 174 46 f46.fn0 (FP W46) := by
  refine wordU_ok (k := 2 * 72 + 4 + 2 * nL) S rfl fun ws h r ⟨b, ns, ew, eh, er⟩ => ?_
  obtain ⟨c, ec⟩ : ∃ c, cellsF ns = [c] := by
    obtain ⟨l1, l2⟩ := cells_len ns
    match q : cellsF ns, l1, l2 with
    | [c], _, _ => exact ⟨c, rfl⟩
  obtain ⟨bm, v, σ, xs, hv, nσ, x0, con⟩ := way S (k := 150) (by omega) (diceF c)
  have hσ := σF_nf (xs := xs) nσ
  have lp : (pathL bm v).length < 900 := by show 4 < 900; omega
  have tys := con.tys lp
  have oA := vor_ok (vd_ok con lp) (ov2 S hσ tys)
  have ov : OvOk P w K mg base ca fa D.bs (σF σ xs) (VL (vdL b ns) (pathL bm v)) 150 := by
    intro id f hT ws h r e
    by_cases q : id = 21
    · subst q
      obtain ⟨F1, g, w, h2, h3, e1, e2, e3⟩ := ovD S (σ := σ) (xs := xs) (b := b) (ns := ns) ec x0 f hT ws h r e
      exact ⟨F1, g, .inl ⟨w, h2, h3, e1, e2, fun _ => e3⟩⟩
    · refine oA id f hT ws h r ?_
      unfold VL at e
      split at e
      · exact absurd rfl q
      · exact e
  have tw := twr_ok S hσ (V := VL (vdL b ns) (pathL bm v)) (m := 72) ov 11
  have run := rL (vdL b ns) 72 b ns bm v hv
  subst ew eh er
  refine ⟨σF σ xs, (fun U => U = ⟨σF σ xs⟩), _, _, [0], [scrO b ns], [.obj 0], .val (.bl true), hσ, rfl, tw.2, .inr ⟨_, rfl, tw.1⟩, ?_, ?_, ?_, rfl, rfl⟩
  · have : [scrO b ns].map (subO (σF σ xs)) = [scrO b ns] := by rw [List.map_cons, scr_sub]; rfl
    rw [this]
    exact fit_one (h := mkH [scrO b ns]) (by rw [mkH_get]; rfl) (pure_scr b ns)
  · have : subs (σF σ xs) [.obj 0] = [.obj 0] := by simp [subs, sub]
    rw [this]
    unfold Rns
    exact ⟨.obj 0, [], rfl, by unfold Rn; exact ⟨0, rfl, rfl⟩, by unfold Rns; rfl⟩
  · rw [sem46, s46_eq]
    unfold runL at run
    have e0 : ∀ C Cl, C 21 [.obj 0, .int 1] (mkH [scrO b ns]) = .ok (.obj 2) (mkH (osL b ns)) → runF (s46g (eCall C 21 2 (evs [(eVar 0), (eVal (.int (1)))])) C Cl) f46.fn0.N [.obj 0] (mkH [scrO b ns]) = runF (s46g (eVal (.obj 2)) C Cl) f46.fn0.N [.obj 0] (mkH (osL b ns)) := fun C Cl hC => by
      unfold runF
      rw [s46g_eq (h1 := mkH (osL b ns)) (i := 2)]
      exact hC
    have e1 : D.bs.twr (VL (vdL b ns) (pathL bm v)) 72 nL 21 [.obj 0, .int 1] (mkH [scrO b ns]) = .ok (.obj 2) (mkH (osL b ns)) := by
      have : vdL b ns [.obj 0, .int 1] (mkH [scrO b ns]) = some (.ok (.obj 2) (mkH (osL b ns))) := by
        unfold vdL
        rw [if_pos ⟨rfl, rfl⟩]
      show (match vdL b ns [.obj 0, .int 1] (mkH [scrO b ns]) with
        | some r => r
        | none => _) = _
      rw [this]
    rw [e0 _ _ e1]
    exact run
end
end K07
open PySem PySem.W PySem.Calls PyProof.Rows
set_option Elab.async false
set_option maxRecDepth 100000 in
set_option maxHeartbeats 0 in
theorem PySem.Challenge.cw_objecthall_k07_bodies_looked_at_holds : PySem.Challenge.rw_objecthall_k07_bodies_looked_at.Holds := by
  refine K07.holds_of (C := DD.tabC [(46, DD.FP K07.W46)]) (k := 174) ⟨by decide +kernel, by decide +kernel, by decide +kernel⟩ (fun w K mg base ca fa S f hf => ?_) (fun b ns _ _ => ?_)
  · have : K07.D.bs.T 46 = some K07.f46.fn0 := rfl
    rw [this] at hf
    cases hf
    exact K07.law_ok S
  · exact ⟨_, K07.W46_call b ns⟩
