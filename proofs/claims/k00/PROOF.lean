import PyProof.Rows.All
import Wide.All
import OpenK.AllK
import Wide.FinOn
import HandS.ForMost
import HandS.Flow
import HandS.Conv
import HandS.Deep
import HandS.Wide
import HandS.SortRule
import HandS.SortInts
import HandS.TupSets
import HandS.TupAny
import HandS.TupLe
import HandS.DictComp
import HandS.Zip
import KE.KSortedM
import HandS.Style
import HandS.Walk
import HandS.SetFor
import HandS.Strs
import HandS.More
import PySem.Challenge.RW_grainsfall_k00_whole_ring_ends_and_point
set_option Elab.async false
set_option linter.all false
set_option maxRecDepth 100000
set_option maxHeartbeats 4000000
/-! GF0: plain data, slots, the relation between slots and the abstract heap -/
namespace GF
open PySem PySem.Spec PyProof.Rows L2

abbrev D := PyData
abbrev Sg := List (Option V)
/-- what a slot of a def holds: a value that nobody changes; a list, a dict, a list of lists of this slot alone; the law's state -/
inductive Sl where
  | im (d : D) | ml (ds : List D) | md (kvs : List (Key × D)) | mz (kvs : List (Key × D)) | mm (rows : List (List D)) | st
abbrev Ev := List (Option Sl)
abbrev DS := List Int × Int
abbrev Ex := Ev → DS → Option (D × DS)
abbrev Exs := Ev → DS → Option (List D × DS)
abbrev Tx := Ev → DS → Option (Bool × DS)
inductive Out where
  | nx (r : Ev) (s : DS) | rt (d : D) (s : DS) | bk (r : Ev) (s : DS) | ct (r : Ev) (s : DS)
abbrev Sx := Ev → DS → Option Out

mutual
def noLst : D → Bool
  | .list _ => false
  | .dict _ => false
  | .tuple ds => noLsts ds
  | .none => true
  | .bool _ => true
  | .int _ => true
  | .str _ => true
def noLsts : List D → Bool
  | [] => true
  | d :: ds => noLst d && noLsts ds
end

/-! ### a value that stands for data -/
mutual
inductive Rp (H : Hp) (M : Addr → Prop) : V → D → Prop
  | non : Rp H M .non .none
  | bl (b : Bool) : Rp H M (.bl b) (.bool b)
  | int (i : Int) : Rp H M (.int i) (.int i)
  | str (x : Str) : Rp H M (.str x) (.str x)
  | lst {a : Addr} {xs : List V} {ds : List D} : ¬ M a → H a = some (.lst xs) → Rps H M xs ds → Rp H M (.ref a) (.list ds)
  | tup {a : Addr} {xs : List V} {ds : List D} : H a = some (.tup xs) → Rps H M xs ds → Rp H M (.ref a) (.tuple ds)
inductive Rps (H : Hp) (M : Addr → Prop) : List V → List D → Prop
  | nil : Rps H M [] []
  | cons {v : V} {vs : List V} {d : D} {ds : List D} : Rp H M v d → Rps H M vs ds → Rps H M (v :: vs) (d :: ds)
end

section
variable {H H' : Hp} {M M' : Addr → Prop}
mutual
theorem Rp.move (hl : ∀ a xs, H a = some (.lst xs) → ¬ M a → H' a = some (.lst xs) ∧ ¬ M' a) (ht : ∀ a xs, H a = some (.tup xs) → H' a = some (.tup xs)) : ∀ (d : D) (v : V), Rp H M v d → Rp H' M' v d
  | .none, _, h => by cases h; exact .non
  | .bool _, _, h => by cases h; exact .bl _
  | .int _, _, h => by cases h; exact .int _
  | .str _, _, h => by cases h; exact .str _
  | .list ds, _, h => by
    cases h with
    | lst h1 h2 h3 =>
      obtain ⟨e1, e2⟩ := hl _ _ h2 h1
      exact .lst e2 e1 (Rps.move hl ht ds _ h3)
  | .tuple ds, _, h => by
    cases h with
    | tup h2 h3 => exact .tup (ht _ _ h2) (Rps.move hl ht ds _ h3)
  | .dict _, _, h => by cases h
theorem Rps.move (hl : ∀ a xs, H a = some (.lst xs) → ¬ M a → H' a = some (.lst xs) ∧ ¬ M' a) (ht : ∀ a xs, H a = some (.tup xs) → H' a = some (.tup xs)) : ∀ (ds : List D) (vs : List V), Rps H M vs ds → Rps H' M' vs ds
  | [], _, h => by cases h; exact .nil
  | d :: ds, _, h => by
    cases h with
    | cons h1 h2 => exact .cons (Rp.move hl ht d _ h1) (Rps.move hl ht ds _ h2)
end
mutual
/-- data without lists is told whatever is forbidden -/
theorem Rp.free : ∀ (d : D) (v : V), noLst d = true → Rp H M v d → Rp H M' v d
  | .none, _, _, h => by cases h; exact .non
  | .bool _, _, _, h => by cases h; exact .bl _
  | .int _, _, _, h => by cases h; exact .int _
  | .str _, _, _, h => by cases h; exact .str _
  | .list ds, _, n, h => by unfold noLst at n; cases n
  | .tuple ds, _, n, h => by
    unfold noLst at n
    cases h with
    | tup h2 h3 => exact .tup h2 (Rps.free ds _ n h3)
  | .dict _, _, _, h => by cases h
theorem Rps.free : ∀ (ds : List D) (vs : List V), noLsts ds = true → Rps H M vs ds → Rps H M' vs ds
  | [], _, _, h => by cases h; exact .nil
  | d :: ds, _, n, h => by
    unfold noLsts at n
    simp only [Bool.and_eq_true] at n
    cases h with
    | cons h1 h2 => exact .cons (Rp.free d _ n.1 h1) (Rps.free ds _ n.2 h2)
end
theorem Rps.length {vs : List V} {ds : List D} (h : Rps H M vs ds) : vs.length = ds.length := by
  induction ds generalizing vs with
  | nil => cases h; rfl
  | cons d ds ih =>
    cases h with
    | cons h1 h2 => simp [ih h2]
theorem Rps.get {vs : List V} {ds : List D} (h : Rps H M vs ds) : ∀ {i : Nat} {d : D}, ds[i]? = some d → ∃ v, vs[i]? = some v ∧ Rp H M v d := by
  induction ds generalizing vs with
  | nil => intro i d e; simp at e
  | cons d0 ds ih =>
    cases h with
    | cons h1 h2 =>
      intro i d e
      cases i with
      | zero => simp at e; subst e; exact ⟨_, rfl, h1⟩
      | succ i => simpa using ih h2 (i := i) (by simpa using e)
theorem Rps.getV {vs : List V} {ds : List D} (h : Rps H M vs ds) : ∀ {i : Nat} {v : V}, vs[i]? = some v → ∃ d, ds[i]? = some d ∧ Rp H M v d := by
  induction ds generalizing vs with
  | nil => cases h; intro i d e; simp at e
  | cons d0 ds ih =>
    cases h with
    | cons h1 h2 =>
      intro i d e
      cases i with
      | zero => simp at e; subst e; exact ⟨_, rfl, h1⟩
      | succ i => simpa using ih h2 (i := i) (by simpa using e)
theorem Rps.append {vs us : List V} {ds es : List D} (h : Rps H M vs ds) (g : Rps H M us es) : Rps H M (vs ++ us) (ds ++ es) := by
  induction ds generalizing vs with
  | nil => cases h; exact g
  | cons d ds ih => cases h with | cons h1 h2 => exact .cons h1 (ih h2)
theorem Rps.one {v : V} {d : D} (h : Rp H M v d) : Rps H M [v] [d] := .cons h .nil
theorem Rps.take {vs : List V} {ds : List D} (h : Rps H M vs ds) : ∀ n, Rps H M (vs.take n) (ds.take n) := by
  induction ds generalizing vs with
  | nil => cases h; intro n; simp; exact .nil
  | cons d ds ih =>
    cases h with
    | cons h1 h2 =>
      intro n
      cases n with
      | zero => exact .nil
      | succ n => simpa using Rps.cons h1 (ih h2 n)
theorem Rps.drop {vs : List V} {ds : List D} (h : Rps H M vs ds) : ∀ n, Rps H M (vs.drop n) (ds.drop n) := by
  induction ds generalizing vs with
  | nil => cases h; intro n; simp; exact .nil
  | cons d ds ih =>
    cases h with
    | cons h1 h2 =>
      intro n
      cases n with
      | zero => exact .cons h1 h2
      | succ n => simpa using ih h2 n
theorem Rps.set {vs : List V} {ds : List D} {v : V} {d : D} (h : Rps H M vs ds) (g : Rp H M v d) : ∀ n, Rps H M (vs.set n v) (ds.set n d) := by
  induction ds generalizing vs with
  | nil => cases h; intro n; exact .nil
  | cons d ds ih =>
    cases h with
    | cons h1 h2 =>
      intro n
      cases n with
      | zero => exact .cons g h2
      | succ n => exact .cons h1 (ih h2 n)
theorem Rps.eraseIdx {vs : List V} {ds : List D} (h : Rps H M vs ds) : ∀ n, Rps H M (vs.eraseIdx n) (ds.eraseIdx n) := by
  induction ds generalizing vs with
  | nil => cases h; intro n; exact .nil
  | cons d ds ih =>
    cases h with
    | cons h1 h2 =>
      intro n
      cases n with
      | zero => exact h2
      | succ n => exact .cons h1 (ih h2 n)
theorem Rps.dropLast {vs : List V} {ds : List D} (h : Rps H M vs ds) : Rps H M vs.dropLast ds.dropLast := by
  rw [List.dropLast_eq_take, List.dropLast_eq_take, h.length]
  exact h.take _
theorem Rps.ints {vs : List V} {ns : List Int} (h : Rps H M vs (ns.map PyData.int)) : vs = ns.map V.int := by
  induction ns generalizing vs with
  | nil => cases h; rfl
  | cons n ns ih =>
    cases h with
    | cons h1 h2 => cases h1; rw [ih h2]; rfl
theorem Rps.ofInts (ns : List Int) : Rps H M (ns.map V.int) (ns.map PyData.int) := by
  induction ns with
  | nil => exact .nil
  | cons n ns ih => exact .cons (.int n) ih
theorem Rps.bools {vs : List V} {bs : List Bool} (h : Rps H M vs (bs.map PyData.bool)) : vs = bs.map V.bl := by
  induction bs generalizing vs with
  | nil => cases h; rfl
  | cons n ns ih =>
    cases h with
    | cons h1 h2 => cases h1; rw [ih h2]; rfl
theorem Rps.replicate {vs : List V} {ds : List D} (h : Rps H M vs ds) : ∀ n, Rps H M (List.replicate n vs).flatten (List.replicate n ds).flatten
  | 0 => .nil
  | n + 1 => by
    rw [List.replicate_succ, List.replicate_succ, List.flatten_cons, List.flatten_cons]
    exact h.append (Rps.replicate h n)
theorem Rps.reverse {vs : List V} {ds : List D} (h : Rps H M vs ds) : Rps H M vs.reverse ds.reverse := by
  induction ds generalizing vs with
  | nil => cases h; exact .nil
  | cons d ds ih =>
    cases h with
    | cons h1 h2 =>
      rw [List.reverse_cons, List.reverse_cons]
      exact (ih h2).append (.one h1)
end

/-! data whose lists are all tracked: into the library's own relation -/
section
variable {K : PySem.W.Frag} {H : Hp} {M : Addr → Prop}
mutual
theorem Rp.dp : ∀ (d : D) (v : V), Rp H M v d → Dp K H v d
  | .none, _, h => by cases h; exact .non
  | .bool _, _, h => by cases h; exact .bl _
  | .int _, _, h => by cases h; exact .int _
  | .str _, _, h => by cases h; exact .str _
  | .list ds, _, h => by
    cases h with
    | lst h1 h2 h3 => exact .lst (SqL.of h2) (Rps.dp ds _ h3)
  | .tuple ds, _, h => by
    cases h with
    | tup h2 h3 => exact .tup (SqT.of h2) (Rps.dp ds _ h3)
  | .dict _, _, h => by cases h
theorem Rps.dp : ∀ (ds : List D) (vs : List V), Rps H M vs ds → DpAll K H vs ds
  | [], _, h => by cases h; exact .nil
  | d :: ds, _, h => by
    cases h with
    | cons h1 h2 => exact .cons (Rp.dp d _ h1) (Rps.dp ds _ h2)
end
end

/-! ### slots -/
/-- keys by value -/
def RpK (H : Hp) (M : Addr → Prop) (ks : List (Key × V)) (kvs : List (Key × D)) : Prop := ks.map (·.1) = kvs.map (·.1) ∧ Rps H M (ks.map (·.2)) (kvs.map (·.2))
inductive Rows (H : Hp) (M : Addr → Prop) : List Addr → List (List D) → Prop
  | nil : Rows H M [] []
  | cons {b : Addr} {bs : List Addr} {xs : List V} {r : List D} {rs : List (List D)} : H b = some (.lst xs) → Rps H M xs r → Rows H M bs rs → Rows H M (b :: bs) (r :: rs)

def SlOk (st : Option (Addr × Addr)) (H : Hp) (M : Addr → Prop) (v : V) (fp : List Addr) : Sl → Prop
  | .im d => fp = [] ∧ Rp H M v d
  | .ml ds => ∃ a xs, v = .ref a ∧ fp = [a] ∧ H a = some (.lst xs) ∧ Rps H M xs ds
  | .md kvs => ∃ a ks, v = .ref a ∧ fp = [a] ∧ H a = some (.dK ks) ∧ RpK H M ks kvs
  | .mz kvs => ∃ a ks o, v = .ref a ∧ fp = [a] ∧ H a = some (.frz o (.dK ks)) ∧ RpK H M ks kvs
  | .mm rows => ∃ a bs, v = .ref a ∧ fp = a :: bs ∧ (a :: bs).Nodup ∧ H a = some (.lst (bs.map V.ref)) ∧ Rows H M bs rows
  | .st => fp = [] ∧ ∃ sa sc, st = some (sa, sc) ∧ v = .ref sa

theorem Rows.move {H H' : Hp} {M M' : Addr → Prop} (hl : ∀ a xs, H a = some (.lst xs) → ¬ M a → H' a = some (.lst xs) ∧ ¬ M' a) (ht : ∀ a xs, H a = some (.tup xs) → H' a = some (.tup xs))
    {bs : List Addr} {rs : List (List D)} (h : Rows H M bs rs) (hb : ∀ b ∈ bs, ∀ o, H b = some o → H' b = some o) : Rows H' M' bs rs := by
  induction h with
  | nil => exact .nil
  | cons h1 h2 h3 ih => exact .cons (hb _ List.mem_cons_self _ h1) (Rps.move hl ht _ _ h2) (ih fun b hm => hb b (List.mem_cons_of_mem _ hm))
theorem SlOk.move {st : Option (Addr × Addr)} {H H' : Hp} {M M' : Addr → Prop} (hl : ∀ a xs, H a = some (.lst xs) → ¬ M a → H' a = some (.lst xs) ∧ ¬ M' a) (ht : ∀ a xs, H a = some (.tup xs) → H' a = some (.tup xs))
    {v : V} {fp : List Addr} {sl : Sl} (h : SlOk st H M v fp sl) (hb : ∀ b ∈ fp, ∀ o, H b = some o → H' b = some o) : SlOk st H' M' v fp sl := by
  cases sl with
  | im d => exact ⟨h.1, Rp.move hl ht _ _ h.2⟩
  | ml ds =>
    obtain ⟨a, xs, e1, e2, e3, e4⟩ := h
    exact ⟨a, xs, e1, e2, hb a (by rw [e2]; exact List.mem_cons_self) _ e3, Rps.move hl ht _ _ e4⟩
  | md kvs =>
    obtain ⟨a, xs, e1, e2, e3, e4, e5⟩ := h
    exact ⟨a, xs, e1, e2, hb a (by rw [e2]; exact List.mem_cons_self) _ e3, e4, Rps.move hl ht _ _ e5⟩
  | mz kvs =>
    obtain ⟨a, xs, o, e1, e2, e3, e4, e5⟩ := h
    exact ⟨a, xs, o, e1, e2, hb a (by rw [e2]; exact List.mem_cons_self) _ e3, e4, Rps.move hl ht _ _ e5⟩
  | mm rows =>
    obtain ⟨a, bs, e1, e2, e3, e4, e5⟩ := h
    exact ⟨a, bs, e1, e2, e3, hb a (by rw [e2]; exact List.mem_cons_self) _ e4, e5.move hl ht fun b hm => hb b (by rw [e2]; exact List.mem_cons_of_mem _ hm)⟩
  | st => exact h

/-! ### the relation -/
def Mof (M0 : Addr → Prop) (fp : Nat → List Addr) (a : Addr) : Prop := M0 a ∨ ∃ i, a ∈ fp i
def NotSt (st : Option (Addr × Addr)) (a : Addr) : Prop := ∀ sa sc, st = some (sa, sc) → a ≠ sa ∧ a ≠ sc
def StOk (st : Option (Addr × Addr)) (M0 : Addr → Prop) (H : Hp) (s : DS) : Prop :=
  ∀ sa sc, st = some (sa, sc) → sa ≠ sc ∧ M0 sa ∧ M0 sc ∧ H sa = some (.lst [.ref sc, .int s.2]) ∧ H sc = some (.lst (s.1.map V.int))
/-- behind an expression: all but the state is as it was -/
def FrE (st : Option (Addr × Addr)) (H H' : Hp) : Prop := ∀ a o, H a = some o → NotSt st a → H' a = some o
/-- behind a statement: all but the state and the slots' own objects -/
def FrS (st : Option (Addr × Addr)) (fp : Nat → List Addr) (H H' : Hp) : Prop := ∀ a o, H a = some o → NotSt st a → (∀ i, a ∉ fp i) → H' a = some o

structure Rel (M0 : Addr → Prop) (fp : Nat → List Addr) (st : Option (Addr × Addr)) (σ : Sg) (H : Hp) (ρ : Ev) (s : DS) : Prop where
  len : ρ.length = σ.length
  sto : StOk st M0 H s
  m0 : ∀ a, M0 a → ∃ o, H a = some o
  fr : ∀ i a, a ∈ fp i → ¬ M0 a
  dj : ∀ i j a, a ∈ fp i → a ∈ fp j → i = j
  no : ∀ i, (∀ sl, ρ[i]? ≠ some (some sl)) → fp i = []
  sl : ∀ i sl, ρ[i]? = some (some sl) → ∃ v, σ[i]? = some (some v) ∧ SlOk st H (Mof M0 fp) v (fp i) sl

theorem FrE.refl {st : Option (Addr × Addr)} {H : Hp} : FrE st H H := fun _ _ h _ => h
theorem FrE.trans {st : Option (Addr × Addr)} {H H1 H2 : Hp} (a : FrE st H H1) (b : FrE st H1 H2) : FrE st H H2 := fun c o h n => b c o (a c o h n) n
theorem FrE.same {st : Option (Addr × Addr)} {H H' : Hp} (h : Same H H') : FrE st H H' := fun a o e _ => h a o e
theorem FrE.toS {st : Option (Addr × Addr)} {fp : Nat → List Addr} {H H' : Hp} (h : FrE st H H') : FrS st fp H H' := fun a o e n _ => h a o e n
theorem StOk.same {st : Option (Addr × Addr)} {M0 : Addr → Prop} {H H' : Hp} {s : DS} (h : StOk st M0 H s) (e : Same H H') : StOk st M0 H' s := fun sa sc q =>
  let ⟨h1, h2, h3, h4, h5⟩ := h sa sc q
  ⟨h1, h2, h3, e _ _ h4, e _ _ h5⟩
theorem Same.upd {H : Hp} {p : Addr} {o : HO} (h : H p = none) : Same H (upd H p o) := fun b x e => by rw [upd_ne (ne_of_none e h)]; exact e

section
variable {M0 : Addr → Prop} {fp : Nat → List Addr} {st : Option (Addr × Addr)} {σ : Sg} {H H' : Hp} {ρ : Ev} {s s' : DS}
theorem Rows.dom {M : Addr → Prop} {bs : List Addr} {rs : List (List D)} (h : Rows H M bs rs) {a : Addr} (ha : a ∈ bs) : ∃ xs, H a = some (.lst xs) := by
  induction h with
  | nil => cases ha
  | cons h1 h2 h3 ih =>
    rcases List.mem_cons.mp ha with rfl | ha
    · exact ⟨_, h1⟩
    · exact ih ha
theorem SlOk.dom {M : Addr → Prop} {v : V} {l : List Addr} {sl : Sl} (h : SlOk st H M v l sl) {a : Addr} (ha : a ∈ l) : (∃ xs, H a = some (.lst xs)) ∨ (∃ ks, H a = some (.dK ks)) ∨ ∃ o ks, H a = some (.frz o (.dK ks)) := by
  cases sl with
  | im d => rw [h.1] at ha; cases ha
  | ml ds =>
    obtain ⟨b, xs, e1, e2, e3, e4⟩ := h
    rw [e2] at ha
    rw [List.mem_singleton.mp ha]
    exact .inl ⟨_, e3⟩
  | md kvs =>
    obtain ⟨b, xs, e1, e2, e3, e4⟩ := h
    rw [e2] at ha
    rw [List.mem_singleton.mp ha]
    exact .inr (.inl ⟨_, e3⟩)
  | mz kvs =>
    obtain ⟨b, xs, o, e1, e2, e3, e4⟩ := h
    rw [e2] at ha
    rw [List.mem_singleton.mp ha]
    exact .inr (.inr ⟨_, _, e3⟩)
  | mm rows =>
    obtain ⟨b, bs, e1, e2, e3, e4, e5⟩ := h
    rw [e2] at ha
    rcases List.mem_cons.mp ha with rfl | ha
    · exact .inl ⟨_, e4⟩
    · exact .inl (Rows.dom e5 ha)
  | st => rw [h.1] at ha; cases ha
theorem Rel.own (r : Rel M0 fp st σ H ρ s) {i : Nat} {a : Addr} (ha : a ∈ fp i) : (∃ xs, H a = some (.lst xs)) ∨ (∃ ks, H a = some (.dK ks)) ∨ ∃ o ks, H a = some (.frz o (.dK ks)) := by
  by_cases h : ∃ sl, ρ[i]? = some (some sl)
  · obtain ⟨sl, h⟩ := h
    obtain ⟨v, _, q⟩ := r.sl i sl h
    exact q.dom ha
  · rw [r.no i fun sl e => h ⟨sl, e⟩] at ha; cases ha
theorem Rel.ownD (r : Rel M0 fp st σ H ρ s) {i : Nat} {a : Addr} (ha : a ∈ fp i) : ∃ o, H a = some o := by
  rcases r.own ha with ⟨_, e⟩ | ⟨_, e⟩ | ⟨_, _, e⟩ <;> exact ⟨_, e⟩
theorem Rel.dom (r : Rel M0 fp st σ H ρ s) {a : Addr} (ha : Mof M0 fp a) : ∃ o, H a = some o := by
  rcases ha with ha | ⟨i, ha⟩
  · exact r.m0 a ha
  · exact r.ownD ha
theorem Rel.fresh (r : Rel M0 fp st σ H ρ s) {p : Addr} (hp : H p = none) : ¬ Mof M0 fp p := fun h => by
  obtain ⟨o, e⟩ := r.dom h
  rw [hp] at e; cases e
theorem Rel.notSt (r : Rel M0 fp st σ H ρ s) {a : Addr} (h : ¬ M0 a) : NotSt st a := fun sa sc e => by
  obtain ⟨_, h2, h3, _⟩ := r.sto sa sc e
  exact ⟨fun z => h (z ▸ h2), fun z => h (z ▸ h3)⟩
theorem StOk.notStTup {M : Addr → Prop} (h : StOk st M H s) {a : Addr} {xs : List V} (e : H a = some (.tup xs)) : NotSt st a := fun sa sc q => by
  obtain ⟨_, _, _, h4, h5⟩ := h sa sc q
  exact ⟨fun z => (by subst z; rw [e] at h4; cases h4), fun z => (by subst z; rw [e] at h5; cases h5)⟩
/-- data stands through an expression -/
theorem Rel.keep (r : Rel M0 fp st σ H ρ s) (f : FrE st H H') : (∀ a xs, H a = some (.lst xs) → ¬ Mof M0 fp a → H' a = some (.lst xs) ∧ ¬ Mof M0 fp a) ∧ ∀ a xs, H a = some (.tup xs) → H' a = some (.tup xs) :=
  ⟨fun a xs e n => ⟨f _ _ e (r.notSt fun z => n (.inl z)), n⟩, fun a xs e => f _ _ e (r.sto.notStTup e)⟩
theorem Rel.rp (r : Rel M0 fp st σ H ρ s) (f : FrE st H H') {v : V} {d : D} (h : Rp H (Mof M0 fp) v d) : Rp H' (Mof M0 fp) v d := Rp.move (r.keep f).1 (r.keep f).2 _ _ h
theorem Rel.rps (r : Rel M0 fp st σ H ρ s) (f : FrE st H H') {v : List V} {d : List D} (h : Rps H (Mof M0 fp) v d) : Rps H' (Mof M0 fp) v d := Rps.move (r.keep f).1 (r.keep f).2 _ _ h
theorem Rel.ext (r : Rel M0 fp st σ H ρ s) (f : FrE st H H') (t : StOk st M0 H' s') : Rel M0 fp st σ H' ρ s' := by
  refine ⟨r.len, t, fun a ha => ?_, r.fr, r.dj, r.no, fun i sl e => ?_⟩
  · obtain ⟨o, e⟩ := r.m0 a ha
    by_cases h : NotSt st a
    · exact ⟨o, f a o e h⟩
    · cases q : st with
      | none => exact absurd (fun sa sc z => by rw [q] at z; cases z) h
      | some p =>
        obtain ⟨sa, sc⟩ := p
        obtain ⟨_, _, _, h4, h5⟩ := t sa sc q
        by_cases e1 : a = sa
        · exact ⟨_, e1 ▸ h4⟩
        · by_cases e2 : a = sc
          · exact ⟨_, e2 ▸ h5⟩
          · refine absurd (fun sa' sc' z => ?_) h
            rw [q] at z; cases z; exact ⟨e1, e2⟩
  · obtain ⟨v, e1, e2⟩ := r.sl i sl e
    exact ⟨v, e1, e2.move (r.keep f).1 (r.keep f).2 fun b hb o q => f b o q (r.notSt (r.fr i b hb))⟩
theorem Rel.same (r : Rel M0 fp st σ H ρ s) (f : Same H H') : Rel M0 fp st σ H' ρ s := r.ext (FrE.same f) (r.sto.same f)
end

/-! ### freezing -/
def frzS : Sl → Sl
  | .ml ds => .im (.list ds)
  | .mm rows => .im (.list (rows.map PyData.list))
  | x => x
def isMl : Sl → Bool
  | .ml _ => true
  | .mm _ => true
  | _ => false
def frz (p : Nat → Bool) (ρ : Ev) : Ev := ρ.mapIdx fun i o => if p i = true then o.map frzS else o
abbrev frzA (ρ : Ev) : Ev := frz (fun _ => true) ρ
theorem frz_get (p : Nat → Bool) (ρ : Ev) (i : Nat) : (frz p ρ)[i]? = (ρ[i]?).map fun o => if p i = true then o.map frzS else o := by
  unfold frz; rw [List.getElem?_mapIdx]
def fpF (p : Nat → Bool) (ρ : Ev) (fp : Nat → List Addr) (i : Nat) : List Addr := match ρ[i]? with
  | some (some sl) => if p i = true ∧ isMl sl = true then [] else fp i
  | _ => fp i
theorem fpF_sub {p : Nat → Bool} {ρ : Ev} {fp : Nat → List Addr} {i : Nat} {a : Addr} (h : a ∈ fpF p ρ fp i) : a ∈ fp i := by
  unfold fpF at h
  split at h
  · split at h
    · cases h
    · exact h
  · exact h
theorem Rows.rps {H : Hp} {M : Addr → Prop} {bs : List Addr} {rs : List (List D)} (h : Rows H M bs rs) (hn : ∀ b ∈ bs, ¬ M b) : Rps H M (bs.map V.ref) (rs.map PyData.list) := by
  induction h with
  | nil => exact .nil
  | cons h1 h2 h3 ih => exact .cons (.lst (hn _ List.mem_cons_self) h1 h2) (ih fun b hb => hn b (List.mem_cons_of_mem _ hb))
theorem Rel.frz {M0 : Addr → Prop} {fp : Nat → List Addr} {st : Option (Addr × Addr)} {σ : Sg} {H : Hp} {ρ : Ev} {s : DS} (r : Rel M0 fp st σ H ρ s) (p : Nat → Bool) : Rel M0 (fpF p ρ fp) st σ H (frz p ρ) s := by
  have mono : ∀ a, Mof M0 (fpF p ρ fp) a → Mof M0 fp a := fun a h => h.imp id fun ⟨i, hi⟩ => ⟨i, fpF_sub hi⟩
  have hl : ∀ a xs, H a = some (.lst xs) → ¬ Mof M0 fp a → H a = some (.lst xs) ∧ ¬ Mof M0 (fpF p ρ fp) a := fun a xs e n => ⟨e, fun z => n (mono a z)⟩
  have ht : ∀ a xs, H a = some (.tup xs) → H a = some (.tup xs) := fun _ _ e => e
  refine ⟨by unfold GF.frz; rw [List.length_mapIdx]; exact r.len, r.sto, r.m0, fun i a ha => r.fr i a (fpF_sub ha), fun i j a h1 h2 => r.dj i j a (fpF_sub h1) (fpF_sub h2), fun i hn => ?_, fun i sl e => ?_⟩
  · have : ∀ sl, ρ[i]? ≠ some (some sl) := fun sl e => by
      refine hn (if p i = true then frzS sl else sl) ?_
      rw [frz_get, e]
      show some _ = some _
      split <;> rfl
    unfold fpF
    split
    · rename_i sl e; exact absurd e (this sl)
    · exact r.no i this
  · rw [frz_get] at e
    cases q : ρ[i]? with
    | none => rw [q] at e; cases e
    | some o =>
      rw [q] at e
      cases o with
      | none => by_cases hp : p i = true <;> simp [hp] at e
      | some sl0 =>
        obtain ⟨v, e1, e2⟩ := r.sl i sl0 q
        refine ⟨v, e1, ?_⟩
        by_cases hc : p i = true ∧ isMl sl0 = true
        · have ef : fpF p ρ fp i = [] := by unfold fpF; rw [q]; simp only; rw [if_pos hc]
          have es : sl = frzS sl0 := by simp [hc.1] at e; exact e.symm
          have nf : ∀ a, a ∈ fp i → ¬ Mof M0 (fpF p ρ fp) a := fun a ha z => by
            rcases z with z | ⟨j, z⟩
            · exact r.fr i a ha z
            · obtain rfl := r.dj i j a ha (fpF_sub z)
              rw [ef] at z; cases z
          rw [es, ef]
          cases sl0 with
          | ml ds =>
            obtain ⟨a, xs, h1, h2, h3, h4⟩ := e2
            subst h1
            exact ⟨rfl, .lst (nf a (by rw [h2]; exact List.mem_cons_self)) h3 (Rps.move hl ht _ _ h4)⟩
          | mm rows =>
            obtain ⟨a, bs, h1, h2, h3, h4, h5⟩ := e2
            subst h1
            refine ⟨rfl, .lst (nf a (by rw [h2]; exact List.mem_cons_self)) h4 ?_⟩
            exact (h5.move hl ht fun _ _ _ q => q).rps fun b hb => nf b (by rw [h2]; exact List.mem_cons_of_mem _ hb)
          | im d => cases hc.2
          | md d => cases hc.2
          | mz d => cases hc.2
          | st => cases hc.2
        · have ef : fpF p ρ fp i = fp i := by unfold fpF; rw [q]; simp only; rw [if_neg hc]
          have es : sl = sl0 := by
            by_cases hp : p i = true
            · have hm : isMl sl0 = false := by cases h : isMl sl0; rfl; exact absurd ⟨hp, h⟩ hc
              simp [hp] at e
              rw [← e]
              cases sl0 <;> first | rfl | cases hm
            · simp [hp] at e; exact e.symm
          rw [es, ef]
          exact e2.move hl ht fun _ _ _ q => q
end GF
/-! GF1: what holds of every context of a def; the judgements; expressions -/
namespace GF
open PySem PySem.Spec PyProof.Rows L2

structure Cfg where
  P : Program
  w : World
  K : PySem.W.Frag
  mg : Str → Option Value
  base : Heap
  N : List Str
  sc : Scope
  fnb : Str → Bool
  k : Nat
structure In (c : Cfg) (X : Cx) : Prop where
  P : X.prog = c.P
  w : X.w = c.w
  K : X.K = c.K
  mg : X.mg = c.mg
  base : X.base = c.base
  N : X.N = c.N
  nd : c.N.Nodup
  sc : X.env.scope = c.sc
  fn : ∀ x, c.fnb x = true → X.fn x = true
  calm : X.calm = true
  room : Room c.k X.A
  xe : X.xe = fun _ _ => False

/-! ### the weakest readings -/
def wE (c : Cfg) (e : Expr) : TE := fun σ H Q => ∃ t, (∀ X, In c X → PE X e t) ∧ t σ H Q
def wT (c : Cfg) (e : Expr) : TT := fun σ H Q => ∃ t, (∀ X, In c X → PT X e t) ∧ t σ H Q
def wW (c : Cfg) (e : Expr) : TT := fun σ H Q => ∃ t, (∀ X, In c X → PW X e t) ∧ t σ H Q
def wTs (c : Cfg) (es : List Expr) : TT := fun σ H Q => ∃ t, (∀ X, In c X → PTs X es t) ∧ t σ H Q
def wA (c : Cfg) (es : List Expr) : TA := fun σ H Q => ∃ t, (∀ X, In c X → PA X es t) ∧ t σ H Q
def wS (c : Cfg) (st : Stmt) : TS := fun D σ H => ∃ t, (∀ X, In c X → PS X st t) ∧ t D σ H
def wSs (c : Cfg) (st : List Stmt) : TS := fun D σ H => ∃ t, (∀ X, In c X → PSs X st t) ∧ t D σ H
def wI (c : Cfg) (tg e : Expr) : TI := fun σ H R => ∃ t, (∀ X, In c X → PI X tg e t) ∧ t σ H R
def wG (c : Cfg) (tg : Expr) : TG := fun v σ H Q => ∃ t, (∀ X, In c X → PG X tg t) ∧ t v σ H Q
def wGs (c : Cfg) (tg : List Expr) : TGs := fun v σ H Q => ∃ t, (∀ X, In c X → PGs X tg t) ∧ t v σ H Q
def wOp (c : Cfg) (f : Value → Value → Sem Value) : R2 := fun x y H Q => ∃ r, (∀ X, In c X → OpR X f r) ∧ r x y H Q
def wIx (c : Cfg) : R2 := fun x y H Q => ∃ r, (∀ X, In c X → IxR X r) ∧ r x y H Q
def wCall (c : Cfg) (f : Value) : List V → Hp → VK → Prop := fun xs H Q => ∃ r, (∀ X, In c X → CallR X f r) ∧ r xs H Q
section
variable {c : Cfg} {X : Cx}
theorem pe_w (h : In c X) {e : Expr} : PE X e (wE c e) := ⟨fun pins s σ H Q I ⟨_, ht, q⟩ => (ht X h).run pins s σ H Q I q⟩
theorem pt_w (h : In c X) {e : Expr} : PT X e (wT c e) := ⟨fun pins s σ H Q I ⟨_, ht, q⟩ => (ht X h).run pins s σ H Q I q⟩
theorem pw_w (h : In c X) {e : Expr} : PW X e (wW c e) := ⟨fun wh pins s σ H Q I ⟨_, ht, q⟩ => (ht X h).run wh pins s σ H Q I q⟩
theorem pts_w (h : In c X) {e : List Expr} : PTs X e (wTs c e) := ⟨fun pins s σ H Q I ⟨_, ht, q⟩ => (ht X h).run pins s σ H Q I q⟩
theorem pa_w (h : In c X) {e : List Expr} : PA X e (wA c e) := ⟨fun pos pins s σ H Q I ⟨_, ht, q⟩ => (ht X h).run pos pins s σ H Q I q⟩
theorem ps_w (h : In c X) {e : Stmt} : PS X e (wS c e) := ⟨fun pins s σ H D I ⟨_, ht, q⟩ => (ht X h).run pins s σ H D I q⟩
theorem pss_w (h : In c X) {e : List Stmt} : PSs X e (wSs c e) := ⟨fun pins s σ H D I ⟨_, ht, q⟩ => (ht X h).run pins s σ H D I q⟩
theorem pi_w (h : In c X) {tg e : Expr} : PI X tg e (wI c tg e) := ⟨fun pins s σ H R I ⟨_, ht, q⟩ => (ht X h).run pins s σ H R I q⟩
theorem pg_w (h : In c X) {tg : Expr} : PG X tg (wG c tg) := ⟨fun pins s σ H v u Q I r ⟨_, ht, q⟩ => (ht X h).run pins s σ H v u Q I r q⟩
theorem pgs_w (h : In c X) {tg : List Expr} : PGs X tg (wGs c tg) := ⟨fun pins s σ H v u Q I r ⟨_, ht, q⟩ => (ht X h).run pins s σ H v u Q I r q⟩
theorem op_w (h : In c X) {f : Value → Value → Sem Value} : OpR X f (wOp c f) := fun pins s σ H x y v u Q I rx ry ⟨_, ht, q⟩ => ht X h pins s σ H x y v u Q I rx ry q
theorem ix_w (h : In c X) : IxR X (wIx c) := fun value slice pins s σ H x y v u Q I rx ry ⟨_, ht, q⟩ hs => ht X h value slice pins s σ H x y v u Q I rx ry q hs
theorem call_w (h : In c X) {f : Value} : CallR X f (wCall c f) := fun pins s σ H xs us Q I r ⟨_, ht, q⟩ => ht X h pins s σ H xs us Q I r q
end

/-! ### the judgements -/
section
variable (c : Cfg)
def SE (e : Expr) (f : Ex) : Prop := ∀ (st : Option (Addr × Addr)) (M0 : Addr → Prop) (fp : Nat → List Addr) (σ : Sg) (H : Hp) (ρ : Ev) (s : DS) (d : D) (s' : DS) (Q : VK), Rel M0 fp st σ H ρ s → f ρ s = some (d, s') →
  (∀ v H', FrE st H H' → StOk st M0 H' s' → Rp H' (Mof M0 fp) v d → Q v H') → wE c e σ H Q
/-- a list that is new -/
def SF (e : Expr) (f : Exs) : Prop := ∀ (st : Option (Addr × Addr)) (M0 : Addr → Prop) (fp : Nat → List Addr) (σ : Sg) (H : Hp) (ρ : Ev) (s : DS) (ds : List D) (s' : DS) (Q : VK), Rel M0 fp st σ H ρ s → f ρ s = some (ds, s') →
  (∀ p xs H', FrE st H H' → StOk st M0 H' s' → H p = none → H' p = some (.lst xs) → Rps H' (fun a => Mof M0 fp a ∨ a = p) xs ds → Q (.ref p) H') → wE c e σ H Q
def ST (e : Expr) (f : Tx) : Prop := ∀ (st : Option (Addr × Addr)) (M0 : Addr → Prop) (fp : Nat → List Addr) (σ : Sg) (H : Hp) (ρ : Ev) (s : DS) (b : Bool) (s' : DS) (Q : Bool → Hp → Prop), Rel M0 fp st σ H ρ s → f ρ s = some (b, s') →
  (∀ H', FrE st H H' → StOk st M0 H' s' → Q b H') → wT c e σ H Q
def SW (e : Expr) (f : Tx) : Prop := ∀ (st : Option (Addr × Addr)) (M0 : Addr → Prop) (fp : Nat → List Addr) (σ : Sg) (H : Hp) (ρ : Ev) (s : DS) (b : Bool) (s' : DS) (Q : Bool → Hp → Prop), Rel M0 fp st σ H ρ s → f ρ s = some (b, s') →
  (∀ H', FrE st H H' → StOk st M0 H' s' → Q b H') → wW c e σ H Q
def SA (es : List Expr) (f : Exs) : Prop := ∀ (st : Option (Addr × Addr)) (M0 : Addr → Prop) (fp : Nat → List Addr) (σ : Sg) (H : Hp) (ρ : Ev) (s : DS) (ds : List D) (s' : DS) (Q : List V → Hp → Prop), Rel M0 fp st σ H ρ s → f ρ s = some (ds, s') →
  (∀ vs H', FrE st H H' → StOk st M0 H' s' → Rps H' (Mof M0 fp) vs ds → Q vs H') → wA c es σ H Q
/-- an operation by values -/
def OpS (f : Value → Value → Sem Value) (m : D → D → Option D) : Prop := ∀ (H : Hp) (M : Addr → Prop) (x y : V) (d e r : D) (Q : VK), (∀ p, H p = none → ¬ M p) → Rp H M x d → Rp H M y e → m d e = some r →
  (∀ v H', Same H H' → Rp H' M v r → Q v H') → wOp c f x y H Q
/-- .. that gives a new list -/
def OpF (f : Value → Value → Sem Value) (m : D → D → Option (List D)) : Prop := ∀ (H : Hp) (M : Addr → Prop) (x y : V) (d e : D) (r : List D) (Q : VK), Rp H M x d → Rp H M y e → m d e = some r →
  (∀ p xs H', Same H H' → H p = none → H' p = some (.lst xs) → Rps H' (fun a => M a ∨ a = p) xs r → Q (.ref p) H') → wOp c f x y H Q
def CallS (f : Value) (m : List D → Option D) : Prop := ∀ (H : Hp) (M : Addr → Prop) (xs : List V) (ds : List D) (r : D) (Q : VK), (∀ p, H p = none → ¬ M p) → Rps H M xs ds → m ds = some r →
  (∀ v H', Same H H' → Rp H' M v r → Q v H') → wCall c f xs H Q
def CallF (f : Value) (m : List D → Option (List D)) : Prop := ∀ (H : Hp) (M : Addr → Prop) (xs : List V) (ds : List D) (r : List D) (Q : VK), Rps H M xs ds → m ds = some r →
  (∀ p xs H', Same H H' → H p = none → H' p = some (.lst xs) → Rps H' (fun a => M a ∨ a = p) xs r → Q (.ref p) H') → wCall c f xs H Q
def IxS (m : D → D → Option D) : Prop := ∀ (H : Hp) (M : Addr → Prop) (x y : V) (d e r : D) (Q : VK), Rp H M x d → Rp H M y e → m d e = some r → (∀ v, Rp H M v r → Q v H) → wIx c x y H Q
end

theorem Rps.fresh {H : Hp} {M : Addr → Prop} {xs : List V} {ds : List D} {p : Addr} {o : HO} (h : Rps H M xs ds) (hp : H p = none) : Rps (upd H p o) (fun a => M a ∨ a = p) xs ds :=
  Rps.move (fun a ys e n => ⟨by rw [upd_ne (ne_of_none e hp)]; exact e, fun z => z.elim n (ne_of_none e hp)⟩) (fun a ys e => by rw [upd_ne (ne_of_none e hp)]; exact e) _ _ h
theorem Rps.same {H H' : Hp} {M : Addr → Prop} {xs : List V} {ds : List D} (h : Rps H M xs ds) (e : Same H H') : Rps H' M xs ds := Rps.move (fun a ys q n => ⟨e _ _ q, n⟩) (fun a ys q => e _ _ q) _ _ h
theorem Rp.same {H H' : Hp} {M : Addr → Prop} {x : V} {d : D} (h : Rp H M x d) (e : Same H H') : Rp H' M x d := Rp.move (fun a ys q n => ⟨e _ _ q, n⟩) (fun a ys q => e _ _ q) _ _ h
theorem Rps.less {H : Hp} {M M' : Addr → Prop} {xs : List V} {ds : List D} (h : Rps H M xs ds) (e : ∀ a, M' a → M a) : Rps H M' xs ds := Rps.move (fun a ys q n => ⟨q, fun z => n (e a z)⟩) (fun a ys q => q) _ _ h
theorem Rp.less {H : Hp} {M M' : Addr → Prop} {x : V} {d : D} (h : Rp H M x d) (e : ∀ a, M' a → M a) : Rp H M' x d := Rp.move (fun a ys q n => ⟨q, fun z => n (e a z)⟩) (fun a ys q => q) _ _ h

/-! ### names, constants -/
def visB (sc : Scope) (x : Str) : Bool := match sc.names.lookup x with
  | some .local => true
  | some .cell => true
  | some .free => true
  | _ => false
theorem vis_of {sc : Scope} {x : Str} (h : visB sc x = true) : Vis sc x := by
  unfold visB at h
  split at h
  · rename_i e; exact .inl e
  · rename_i e; exact .inr (.inl e)
  · rename_i e; exact .inr (.inr e)
  · cases h
def glB (sc : Scope) (x : Str) : Bool := match sc.names.lookup x with
  | some .globalImplicit => true
  | _ => false
theorem gl_of {sc : Scope} {x : Str} (h : glB sc x = true) : sc.names.lookup x = some .globalImplicit := by
  unfold glB at h
  split at h
  · rename_i e; exact e
  · cases h

def dVar (i : Nat) : Ex := fun ρ s => match ρ[i]? with
  | some (some (.im d)) => some (d, s)
  | _ => none
def dC (d : D) : Ex := fun _ s => some (d, s)
section
variable {c : Cfg} {pos : Pos}
theorem se_var {i : Nat} {x : Str} (hN : c.N[i]? = some x) (hv : visB c.sc x = true) (hd : (x == ("__debug__" : Str)) = false := by decide) (hcd : (x == ("__classdict__" : Str)) = false := by decide) : SE c (.Name x pos) (dVar i) := by
  intro st M0 fp σ H ρ s d s' Q r e q
  unfold dVar at e
  split at e
  · rename_i d0 e0
    cases e
    obtain ⟨v, e1, _, e3⟩ := r.sl i _ e0
    exact ⟨tVar i, fun X hX => pe_var (by rw [hX.N]; exact hN) (by rw [hX.sc]; exact vis_of hv) hd hcd, v, e1, q v H FrE.refl r.sto e3⟩
  · cases e
theorem se_int {n : Int} {j : Nat} : SE c (.Constant (.int n) j pos) (dC (.int n)) := by
  intro st M0 fp σ H ρ s d s' Q r e q
  cases e
  exact ⟨_, fun X hX => pe_int, q _ H FrE.refl r.sto (.int n)⟩
theorem se_bl {b : Bool} {j : Nat} : SE c (.Constant (.bool b) j pos) (dC (.bool b)) := by
  intro st M0 fp σ H ρ s d s' Q r e q
  cases e
  exact ⟨_, fun X hX => pe_bl, q _ H FrE.refl r.sto (.bl b)⟩
theorem se_non {j : Nat} : SE c (.Constant .none j pos) (dC .none) := by
  intro st M0 fp σ H ρ s d s' Q r e q
  cases e
  exact ⟨_, fun X hX => pe_non, q _ H FrE.refl r.sto .non⟩
theorem se_str {x : Str} {j : Nat} : SE c (.Constant (.str x) j pos) (dC (.str x)) := by
  intro st M0 fp σ H ρ s d s' Q r e q
  cases e
  exact ⟨_, fun X hX => pe_str, q _ H FrE.refl r.sto (.str x)⟩
end

/-! ### sequencing -/
def dOp (m : D → D → Option D) (f g : Ex) : Ex := fun ρ s => (f ρ s).bind fun p => (g ρ p.2).bind fun q => (m p.1 q.1).map fun d => (d, q.2)
def dOpF (m : D → D → Option (List D)) (f g : Ex) : Exs := fun ρ s => (f ρ s).bind fun p => (g ρ p.2).bind fun q => (m p.1 q.1).map fun d => (d, q.2)
section
variable {c : Cfg} {a b e : Expr} {es : List Expr} {f g : Ex} {fs : Exs} {pos : Pos}
/-- two expressions in a row -/
theorem two (ha : SE c a f) (hb : SE c b g) {st : Option (Addr × Addr)} {M0 : Addr → Prop} {fp : Nat → List Addr} {σ : Sg} {H : Hp} {ρ : Ev} {s s1 s2 : DS} {d1 d2 : D} (r : Rel M0 fp st σ H ρ s) (e1 : f ρ s = some (d1, s1)) (e2 : g ρ s1 = some (d2, s2))
    {R : V → V → Hp → Prop} (h : ∀ v u H2, FrE st H H2 → StOk st M0 H2 s2 → Rp H2 (Mof M0 fp) v d1 → Rp H2 (Mof M0 fp) u d2 → R v u H2) :
    wE c a σ H fun x H1 => wE c b σ H1 fun y H2 => R x y H2 := by
  refine ha st M0 fp σ H ρ s d1 s1 _ r e1 fun v H1 f1 t1 r1 => ?_
  refine hb st M0 fp σ H1 ρ s1 d2 s2 _ (r.ext f1 t1) e2 fun u H2 f2 t2 r2 => ?_
  exact h v u H2 (f1.trans f2) t2 ((r.ext f1 t1).rp f2 r1) r2
theorem dOp_some {m : D → D → Option D} {ρ : Ev} {s s' : DS} {d : D} (h : dOp m f g ρ s = some (d, s')) : ∃ d1 s1 d2, f ρ s = some (d1, s1) ∧ g ρ s1 = some (d2, s') ∧ m d1 d2 = some d := by
  unfold dOp at h
  obtain ⟨⟨d1, s1⟩, e1, h⟩ := Option.bind_eq_some_iff.mp h
  obtain ⟨⟨d2, s2⟩, e2, h⟩ := Option.bind_eq_some_iff.mp h
  obtain ⟨d3, e3, h⟩ := Option.map_eq_some_iff.mp h
  cases h
  exact ⟨d1, s1, d2, e1, e2, e3⟩
theorem dOpF_some {m : D → D → Option (List D)} {ρ : Ev} {s s' : DS} {d : List D} (h : dOpF m f g ρ s = some (d, s')) : ∃ d1 s1 d2, f ρ s = some (d1, s1) ∧ g ρ s1 = some (d2, s') ∧ m d1 d2 = some d := by
  unfold dOpF at h
  obtain ⟨⟨d1, s1⟩, e1, h⟩ := Option.bind_eq_some_iff.mp h
  obtain ⟨⟨d2, s2⟩, e2, h⟩ := Option.bind_eq_some_iff.mp h
  obtain ⟨d3, e3, h⟩ := Option.map_eq_some_iff.mp h
  cases h
  exact ⟨d1, s1, d2, e1, e2, e3⟩
theorem Rel.freshAt {M0 : Addr → Prop} {fp : Nat → List Addr} {st : Option (Addr × Addr)} {σ : Sg} {H H' : Hp} {ρ : Ev} {s s' : DS} (r : Rel M0 fp st σ H ρ s) (f : FrE st H H') (t : StOk st M0 H' s') : ∀ p, H' p = none → ¬ Mof M0 fp p := fun p hp => (r.ext f t).fresh hp
theorem FrE.none {st : Option (Addr × Addr)} {H H' : Hp} {M0 : Addr → Prop} {s s' : DS} (f : FrE st H H') (t : StOk st M0 H s) (t' : StOk st M0 H' s') {p : Addr} (h : H' p = none) : H p = none := by
  cases e : H p with
  | none => rfl
  | some o =>
    by_cases n : NotSt st p
    · rw [f p o e n] at h; cases h
    · exfalso
      refine n fun sa sc q => ?_
      obtain ⟨_, _, _, h4, h5⟩ := t' sa sc q
      exact ⟨fun z => (by rw [← z, h] at h4; cases h4), fun z => (by rw [← z, h] at h5; cases h5)⟩
theorem se_bin {op : Operator} {m : D → D → Option D} (ho : OpS c (binaryOp op) m) (ha : SE c a f) (hb : SE c b g) : SE c (.BinOp a op b pos) (dOp m f g) := by
  intro st M0 fp σ H ρ s d s' Q r e q
  obtain ⟨d1, s1, d2, e1, e2, e3⟩ := dOp_some e
  refine ⟨tOp (wOp c (binaryOp op)) (wE c a) (wE c b), fun X hX => pe_op (op_w hX) (pe_w hX) (pe_w hX), ?_⟩
  refine two ha hb r e1 e2 fun v u H2 f2 t2 r1 r2 => ?_
  exact ho H2 _ v u d1 d2 d Q (r.freshAt f2 t2) r1 r2 e3 fun v' H' sm rv => q v' H' (f2.trans (FrE.same sm)) (t2.same sm) rv
theorem sf_bin {op : Operator} {m : D → D → Option (List D)} (ho : OpF c (binaryOp op) m) (ha : SE c a f) (hb : SE c b g) : SF c (.BinOp a op b pos) (dOpF m f g) := by
  intro st M0 fp σ H ρ s d s' Q r e q
  obtain ⟨d1, s1, d2, e1, e2, e3⟩ := dOpF_some e
  refine ⟨tOp (wOp c (binaryOp op)) (wE c a) (wE c b), fun X hX => pe_op (op_w hX) (pe_w hX) (pe_w hX), ?_⟩
  refine two ha hb r e1 e2 fun v u H2 f2 t2 r1 r2 => ?_
  exact ho H2 _ v u d1 d2 d Q r1 r2 e3 fun p xs H' sm hp hx rv => q p xs H' (f2.trans (FrE.same sm)) (t2.same sm) (f2.none r.sto t2 hp) hx rv
theorem se_cmp {op : CmpOp} {m : D → D → Option D} (ho : OpS c (compareOp op) m) (ha : SE c a f) (hb : SE c b g) (hm : behindInMarks op b = false := by first | exact nobehind _ (by decide) (by decide) | rfl) : SE c (.Compare a [op] [b] pos) (dOp m f g) := by
  intro st M0 fp σ H ρ s d s' Q r e q
  obtain ⟨d1, s1, d2, e1, e2, e3⟩ := dOp_some e
  refine ⟨tOp (wOp c (compareOp op)) (wE c a) (wE c b), fun X hX => pe_cmpR (op_w hX) (pe_w hX) (pe_w hX) hm, ?_⟩
  refine two ha hb r e1 e2 fun v u H2 f2 t2 r1 r2 => ?_
  exact ho H2 _ v u d1 d2 d Q (r.freshAt f2 t2) r1 r2 e3 fun v' H' sm rv => q v' H' (f2.trans (FrE.same sm)) (t2.same sm) rv
def dTest (f : Ex) : Tx := fun ρ s => (f ρ s).bind fun p => match p.1 with
  | .bool b => some (b, p.2)
  | _ => none
theorem dTest_some {ρ : Ev} {s s' : DS} {b : Bool} (h : dTest f ρ s = some (b, s')) : f ρ s = some (.bool b, s') := by
  unfold dTest at h
  obtain ⟨⟨d1, s1⟩, e1, h⟩ := Option.bind_eq_some_iff.mp h
  simp only at h
  split at h
  · cases h; exact e1
  · cases h
theorem st_cmp {op : CmpOp} {m : D → D → Option D} (ho : OpS c (compareOp op) m) (ha : SE c a f) (hb : SE c b g) (hm : behindInMarks op b = false := by first | exact nobehind _ (by decide) (by decide) | rfl) : ST c (.Compare a [op] [b] pos) (dTest (dOp m f g)) := by
  intro st M0 fp σ H ρ s bb s' Q r e q
  obtain ⟨d1, s1, d2, e1, e2, e3⟩ := dOp_some (dTest_some e)
  refine ⟨tTest (tOp (wOp c (compareOp op)) (wE c a) (wE c b)), fun X hX => pt_cmpR (op_w hX) (pe_w hX) (pe_w hX) hm, ?_⟩
  refine two ha hb r e1 e2 fun v u H2 f2 t2 r1 r2 => ?_
  exact ho H2 _ v u d1 d2 _ _ (r.freshAt f2 t2) r1 r2 e3 fun v' H' sm rv => by
    cases rv
    exact ⟨bb, rfl, q H' (f2.trans (FrE.same sm)) (t2.same sm)⟩
/-- a op b op' c, b asked once -/
def dChain (m m' : D → D → Option D) (f g h : Ex) : Ex := fun ρ s => (f ρ s).bind fun p => (g ρ p.2).bind fun q => match m p.1 q.1 with
  | some (.bool false) => some (.bool false, q.2)
  | some (.bool true) => (h ρ q.2).bind fun r => (m' q.1 r.1).map fun d => (d, r.2)
  | _ => none
theorem dChain_some {m m' : D → D → Option D} {h : Ex} {ρ : Ev} {s s' : DS} {d : D} (e : dChain m m' f g h ρ s = some (d, s')) : ∃ d1 s1 d2 s2, f ρ s = some (d1, s1) ∧ g ρ s1 = some (d2, s2) ∧
    ((m d1 d2 = some (.bool false) ∧ d = .bool false ∧ s' = s2) ∨ (m d1 d2 = some (.bool true) ∧ ∃ d3, h ρ s2 = some (d3, s') ∧ m' d2 d3 = some d)) := by
  unfold dChain at e
  obtain ⟨⟨d1, s1⟩, e1, e⟩ := Option.bind_eq_some_iff.mp e
  obtain ⟨⟨d2, s2⟩, e2, e⟩ := Option.bind_eq_some_iff.mp e
  refine ⟨d1, s1, d2, s2, e1, e2, ?_⟩
  simp only at e
  split at e
  · rename_i q; cases e; exact .inl ⟨q, rfl, rfl⟩
  · rename_i q
    obtain ⟨⟨d3, s3⟩, e3, e⟩ := Option.bind_eq_some_iff.mp e
    obtain ⟨d4, e4, e⟩ := Option.map_eq_some_iff.mp e
    cases e
    exact .inr ⟨q, d3, e3, e4⟩
  · cases e
variable {cc : Expr} {h : Ex}
theorem st_chain {op op' : CmpOp} {m m' : D → D → Option D} (ho : OpS c (compareOp op) m) (ho' : OpS c (compareOp op') m') (ha : SE c a f) (hb : SE c b g) (hc : SE c cc h)
    (hm' : behindInMarks op' cc = false := by first | exact nobehind _ (by decide) (by decide) | rfl) : ST c (.Compare a [op, op'] [b, cc] pos) (dTest (dChain m m' f g h)) := by
  intro st M0 fp σ H ρ s bb s' Q r e q
  obtain ⟨d1, s1, d2, s2, e1, e2, e3⟩ := dChain_some (dTest_some e)
  refine ⟨_, fun X hX => pt_chain (op_w hX) (op_w hX) (pe_w hX) (pe_w hX) (pe_w hX) hm', ?_⟩
  refine two ha hb r e1 e2 fun v u H2 f2 t2 r1 r2 => ?_
  rcases e3 with ⟨e3, e4, e5⟩ | ⟨e3, d3, e4, e5⟩
  · cases e4; subst e5
    exact ho H2 _ v u d1 d2 _ _ (r.freshAt f2 t2) r1 r2 e3 fun v' H' sm rv => by
      cases rv
      exact ⟨false, rfl, by rw [if_neg Bool.false_ne_true]; exact ⟨false, rfl, q H' (f2.trans (FrE.same sm)) (t2.same sm)⟩⟩
  · refine ho H2 _ v u d1 d2 _ _ (r.freshAt f2 t2) r1 r2 e3 fun v' H' sm rv => ?_
    cases rv
    refine ⟨true, rfl, ?_⟩
    rw [if_pos rfl]
    have f3 := f2.trans (FrE.same sm)
    have t3 := t2.same sm
    refine hc st M0 fp σ H' ρ s2 d3 s' _ (r.ext f3 t3) e4 fun w H4 f4 t4 r4 => ?_
    have r2' := (r.ext f3 t3).rp f4 (r2.same sm)
    exact ho' H4 _ u w d2 d3 _ _ (r.freshAt (f3.trans f4) t4) r2' r4 e5 fun v'' H5 sm2 rv2 => by
      cases rv2
      exact ⟨bb, rfl, q H5 ((f3.trans f4).trans (FrE.same sm2)) (t4.same sm2)⟩
theorem se_chain {op op' : CmpOp} {m m' : D → D → Option D} (ho : OpS c (compareOp op) m) (ho' : OpS c (compareOp op') m') (ha : SE c a f) (hb : SE c b g) (hc : SE c cc h)
    (hm' : behindInMarks op' cc = false := by first | exact nobehind _ (by decide) (by decide) | rfl) : SE c (.Compare a [op, op'] [b, cc] pos) (dChain m m' f g h) := by
  intro st M0 fp σ H ρ s d s' Q r e q
  obtain ⟨d1, s1, d2, s2, e1, e2, e3⟩ := dChain_some e
  refine ⟨_, fun X hX => pe_chain (op_w hX) (op_w hX) (pe_w hX) (pe_w hX) (pe_w hX) hm', ?_⟩
  refine two ha hb r e1 e2 fun v u H2 f2 t2 r1 r2 => ?_
  rcases e3 with ⟨e3, e4, e5⟩ | ⟨e3, d3, e4, e5⟩
  · subst e4; subst e5
    exact ho H2 _ v u d1 d2 _ _ (r.freshAt f2 t2) r1 r2 e3 fun v' H' sm rv => by
      cases rv
      exact ⟨false, rfl, by rw [if_neg Bool.false_ne_true]; exact q _ H' (f2.trans (FrE.same sm)) (t2.same sm) (.bl false)⟩
  · refine ho H2 _ v u d1 d2 _ _ (r.freshAt f2 t2) r1 r2 e3 fun v' H' sm rv => ?_
    cases rv
    refine ⟨true, rfl, ?_⟩
    rw [if_pos rfl]
    have f3 := f2.trans (FrE.same sm)
    have t3 := t2.same sm
    refine hc st M0 fp σ H' ρ s2 d3 s' _ (r.ext f3 t3) e4 fun w H4 f4 t4 r4 => ?_
    have r2' := (r.ext f3 t3).rp f4 (r2.same sm)
    exact ho' H4 _ u w d2 d3 _ _ (r.freshAt (f3.trans f4) t4) r2' r4 e5 fun v'' H5 sm2 rv2 => q v'' H5 ((f3.trans f4).trans (FrE.same sm2)) (t4.same sm2) rv2

/-! ### lists of expressions, displays -/
def dNil : Exs := fun _ s => some ([], s)
def dCons (f : Ex) (fs : Exs) : Exs := fun ρ s => (f ρ s).bind fun p => (fs ρ p.2).map fun q => (p.1 :: q.1, q.2)
theorem sa_nil : SA c [] dNil := by
  intro st M0 fp σ H ρ s d s' Q r e q
  cases e
  exact ⟨_, fun X hX => pa_nil, q [] H FrE.refl r.sto .nil⟩
theorem sa_cons (ha : SE c e f) (hr : SA c es fs) (hs : ∀ env, starEach (e :: es) env = (false, eval e env) :: starEach es env := by intro _; rfl) : SA c (e :: es) (dCons f fs) := by
  intro st M0 fp σ H ρ s d s' Q r e q
  unfold dCons at e
  obtain ⟨⟨d1, s1⟩, e1, e⟩ := Option.bind_eq_some_iff.mp e
  obtain ⟨⟨ds, s2⟩, e2, e⟩ := Option.map_eq_some_iff.mp e
  cases e
  refine ⟨tCons (wE c _) (wA c es), fun X hX => pa_cons (pe_w hX) (pa_w hX) (hs _), ?_⟩
  refine ha st M0 fp σ H ρ s d1 s1 _ r e1 fun v H1 f1 t1 r1 => ?_
  refine hr st M0 fp σ H1 ρ s1 ds s2 _ (r.ext f1 t1) e2 fun vs H2 f2 t2 r2 => ?_
  exact q _ H2 (f1.trans f2) t2 (.cons ((r.ext f1 t1).rp f2 r1) r2)
theorem lim_line {n : Nat} (h : n ≤ 16777216) : n ≤ sizeLine := by rw [sizeLine_eq]; exact h
def dTup (fs : Exs) : Ex := fun ρ s => (fs ρ s).bind fun p => if p.1.length ≤ 16777216 then some (.tuple p.1, p.2) else none
def dLst (fs : Exs) : Exs := fun ρ s => (fs ρ s).bind fun p => if p.1.length ≤ 16777216 then some (p.1, p.2) else none
theorem se_tup {k : Nat} (h : SA c es fs) : SE c (.Tuple es k pos) (dTup fs) := by
  intro st M0 fp σ H ρ s d s' Q r e q
  unfold dTup at e
  obtain ⟨⟨ds, s1⟩, e1, e⟩ := Option.bind_eq_some_iff.mp e
  simp only at e
  split at e
  · rename_i hl
    cases e
    refine ⟨tTup (wA c es), fun X hX => pe_tup (pa_w hX), ?_⟩
    refine h st M0 fp σ H ρ s ds _ _ r e1 fun vs H1 f1 t1 r1 => ⟨by rw [r1.length]; exact lim_line hl, fun p hp => ?_⟩
    have sm : Same H1 (upd H1 p (.tup vs)) := Same.upd hp
    exact q _ _ (f1.trans (FrE.same sm)) (t1.same sm) (.tup upd_same (r1.same sm))
  · cases e
theorem sf_lst (h : SA c es fs) : SF c (.List es pos) (dLst fs) := by
  intro st M0 fp σ H ρ s d s' Q r e q
  unfold dLst at e
  obtain ⟨⟨ds, s1⟩, e1, e⟩ := Option.bind_eq_some_iff.mp e
  simp only at e
  split at e
  · rename_i hl
    cases e
    refine ⟨tLst (wA c es), fun X hX => pe_lst (pa_w hX), ?_⟩
    refine h st M0 fp σ H ρ s _ _ _ r e1 fun vs H1 f1 t1 r1 => ⟨by rw [r1.length]; exact lim_line hl, fun p hp => ?_⟩
    have sm : Same H1 (upd H1 p (.lst vs)) := Same.upd hp
    exact q p vs _ (f1.trans (FrE.same sm)) (t1.same sm) (f1.none r.sto t1 hp) upd_same (r1.fresh hp)
  · cases e

/-! ### a new list as a value; borrowing -/
def dFr (f : Exs) : Ex := fun ρ s => (f ρ s).map fun p => (.list p.1, p.2)
theorem se_fr {f : Exs} (h : SF c e f) : SE c e (dFr f) := by
  intro st M0 fp σ H ρ s d s' Q r e q
  unfold dFr at e
  obtain ⟨⟨ds, s1⟩, e1, e⟩ := Option.map_eq_some_iff.mp e
  cases e
  refine h st M0 fp σ H ρ s ds _ _ r e1 fun p xs H1 f1 t1 hp hx r1 => ?_
  exact q _ H1 f1 t1 (.lst (r.fresh hp) hx (r1.less fun a z => .inl z))
/-- lists of this def's own are read, and nothing of them is kept -/
def dBw (f : Ex) : Ex := fun ρ s => (f (frzA ρ) s).bind fun p => if noLst p.1 = true then some p else none
def dBwF (f : Exs) : Exs := fun ρ s => (f (frzA ρ) s).bind fun p => if noLsts p.1 = true then some p else none
def dBwT (f : Tx) : Tx := fun ρ s => f (frzA ρ) s
theorem se_bw (h : SE c e f) : SE c e (dBw f) := by
  intro st M0 fp σ H ρ s d s' Q r e q
  unfold dBw at e
  obtain ⟨⟨ds, s1⟩, e1, e⟩ := Option.bind_eq_some_iff.mp e
  simp only at e
  split at e
  · rename_i hl
    cases e
    exact h st M0 _ σ H _ s _ _ _ (r.frz _) e1 fun v H1 f1 t1 r1 => q v H1 f1 t1 (Rp.free _ _ hl r1)
  · cases e
theorem sf_bw {f : Exs} (h : SF c e f) : SF c e (dBwF f) := by
  intro st M0 fp σ H ρ s d s' Q r e q
  unfold dBwF at e
  obtain ⟨⟨ds, s1⟩, e1, e⟩ := Option.bind_eq_some_iff.mp e
  simp only at e
  split at e
  · rename_i hl
    cases e
    exact h st M0 _ σ H _ s _ _ _ (r.frz _) e1 fun p xs H1 f1 t1 hp hx r1 => q p xs H1 f1 t1 hp hx (Rps.free _ _ hl r1)
  · cases e
theorem st_bw {f : Tx} (h : ST c e f) : ST c e (dBwT f) := by
  intro st M0 fp σ H ρ s d s' Q r e q
  exact h st M0 _ σ H _ s _ _ _ (r.frz _) e fun H1 f1 t1 => q H1 f1 t1

/-! ### tests -/
def mTru : D → Option Bool
  | .none => some false
  | .bool b => some b
  | .int i => some (i != 0)
  | .list ds => some !ds.isEmpty
  | .tuple ds => some !ds.isEmpty
  | _ => none
theorem Rps.isEmpty {H : Hp} {M : Addr → Prop} {xs : List V} {ds : List D} (h : Rps H M xs ds) : xs.isEmpty = ds.isEmpty := by
  cases h <;> rfl
theorem mTru_of {K : PySem.W.Frag} {H : Hp} {M : Addr → Prop} {v : V} {d : D} {b : Bool} (r : Rp H M v d) (h : mTru d = some b) : TruV K v H b := by
  cases r with
  | non => cases h; rfl
  | bl x => cases h; rfl
  | int i => cases h; rfl
  | str x => cases h
  | lst h1 h2 h3 => cases h; exact .inl ⟨_, SqL.of h2, by rw [h3.isEmpty]⟩
  | tup h2 h3 => cases h; exact .inr (.inl ⟨_, SqT.of h2, by rw [h3.isEmpty]⟩)
def dTru (f : Ex) : Tx := fun ρ s => (f ρ s).bind fun p => (mTru p.1).map fun b => (b, p.2)
theorem st_tru (ha : SE c a f) (he : ∀ env whole, isTrue a env whole = (do let v ← whole; standAt a.pos; holding [v] (truthy v)) := by intro _ _; rfl) : ST c a (dTru f) := by
  intro st M0 fp σ H ρ s b s' Q r e q
  unfold dTru at e
  obtain ⟨⟨d1, s1⟩, e1, e⟩ := Option.bind_eq_some_iff.mp e
  obtain ⟨b1, e2, e⟩ := Option.map_eq_some_iff.mp e
  cases e
  refine ⟨fun σ H Q => wE c a σ H fun x H' => ∃ k, TruV c.K x H' k ∧ Q k H', fun X hX => ?_, ?_⟩
  · have := pt_truth (X := X) (pe_w hX) (he X.env)
    rw [hX.K] at this
    exact this
  · exact ha st M0 fp σ H ρ s d1 _ _ r e1 fun v H1 f1 t1 r1 => ⟨_, mTru_of r1 e2, q H1 f1 t1⟩
def dNot (f : Tx) : Tx := fun ρ s => (f ρ s).map fun p => (!p.1, p.2)
def dAnd (f g : Tx) : Tx := fun ρ s => (f ρ s).bind fun p => if p.1 = true then g ρ p.2 else some (false, p.2)
def dOr (f g : Tx) : Tx := fun ρ s => (f ρ s).bind fun p => if p.1 = true then some (true, p.2) else g ρ p.2
variable {ft gt : Tx} {rest : List Expr}
theorem st_not (ha : ST c a ft) : ST c (.UnaryOp .Not a pos) (dNot ft) := by
  intro st M0 fp σ H ρ s b s' Q r e q
  unfold dNot at e
  obtain ⟨⟨d1, s1⟩, e1, e⟩ := Option.map_eq_some_iff.mp e
  cases e
  exact ⟨tNot (wT c a), fun X hX => pt_not (pt_w hX), ha st M0 fp σ H ρ s d1 _ _ r e1 fun H1 f1 t1 => q H1 f1 t1⟩
theorem sw_and1 (ha : ST c a ft) : SW c (.BoolOp .And [a] pos) ft := by
  intro st M0 fp σ H ρ s b s' Q r e q
  exact ⟨wT c a, fun X hX => pw_and1 (pt_w hX), ha st M0 fp σ H ρ s _ _ _ r e q⟩
theorem sw_or1 (ha : ST c a ft) : SW c (.BoolOp .Or [a] pos) ft := by
  intro st M0 fp σ H ρ s b s' Q r e q
  exact ⟨wT c a, fun X hX => pw_or1 (pt_w hX), ha st M0 fp σ H ρ s _ _ _ r e q⟩
theorem sw_and (ha : ST c a ft) (hb : SW c (.BoolOp .And (b :: rest) pos) gt) : SW c (.BoolOp .And (a :: b :: rest) pos) (dAnd ft gt) := by
  intro st M0 fp σ H ρ s bb s' Q r e q
  unfold dAnd at e
  obtain ⟨⟨d1, s1⟩, e1, e⟩ := Option.bind_eq_some_iff.mp e
  refine ⟨tAnd (wT c a) (wW c _), fun X hX => pw_and (pt_w hX) (pw_w hX), ?_⟩
  refine ha st M0 fp σ H ρ s d1 s1 _ r e1 fun H1 f1 t1 => ?_
  simp only at e
  cases d1 with
  | true =>
    rw [if_pos rfl] at e ⊢
    exact hb st M0 fp σ H1 ρ s1 _ _ _ (r.ext f1 t1) e fun H2 f2 t2 => q H2 (f1.trans f2) t2
  | false =>
    rw [if_neg Bool.false_ne_true] at e ⊢
    cases e
    exact q H1 f1 t1
theorem sw_or (ha : ST c a ft) (hb : SW c (.BoolOp .Or (b :: rest) pos) gt) : SW c (.BoolOp .Or (a :: b :: rest) pos) (dOr ft gt) := by
  intro st M0 fp σ H ρ s bb s' Q r e q
  unfold dOr at e
  obtain ⟨⟨d1, s1⟩, e1, e⟩ := Option.bind_eq_some_iff.mp e
  refine ⟨tOr (wT c a) (wW c _), fun X hX => pw_or (pt_w hX) (pw_w hX), ?_⟩
  refine ha st M0 fp σ H ρ s d1 s1 _ r e1 fun H1 f1 t1 => ?_
  simp only at e
  cases d1 with
  | false =>
    rw [if_neg Bool.false_ne_true] at e ⊢
    exact hb st M0 fp σ H1 ρ s1 _ _ _ (r.ext f1 t1) e fun H2 f2 t2 => q H2 (f1.trans f2) t2
  | true =>
    rw [if_pos rfl] at e ⊢
    cases e
    exact q H1 f1 t1
theorem st_w (h : SW c e ft) : ST c e ft := by
  intro st M0 fp σ H ρ s bb s' Q r e q
  obtain ⟨t, ht, q⟩ := h st M0 fp σ H ρ s bb s' Q r e q
  exact ⟨t, fun X hX => (ht X hX).pt, q⟩
/-- and, or as values of bools -/
def dAndV (f g : Ex) : Ex := fun ρ s => (f ρ s).bind fun p => match p.1 with
  | .bool true => g ρ p.2
  | .bool false => some (.bool false, p.2)
  | _ => none
def dOrV (f g : Ex) : Ex := fun ρ s => (f ρ s).bind fun p => match p.1 with
  | .bool false => g ρ p.2
  | .bool true => some (.bool true, p.2)
  | _ => none
def dNotV (f : Ex) : Ex := fun ρ s => (f ρ s).bind fun p => match p.1 with
  | .bool b => some (.bool !b, p.2)
  | _ => none
theorem se_one {op} (h : SE c a f) : SE c (.BoolOp op [a] pos) f := by
  intro st M0 fp σ H ρ s d s' Q r e q
  exact ⟨wE c a, fun X hX => pe_one (pe_w hX), h st M0 fp σ H ρ s d s' Q r e q⟩
theorem se_and (ha : SE c a f) (hb : SE c (.BoolOp .And (b :: rest) pos) g) : SE c (.BoolOp .And (a :: b :: rest) pos) (dAndV f g) := by
  intro st M0 fp σ H ρ s d s' Q r e q
  unfold dAndV at e
  obtain ⟨⟨d1, s1⟩, e1, e⟩ := Option.bind_eq_some_iff.mp e
  refine ⟨tAndV (wE c a) (wE c _), fun X hX => pe_and (pe_w hX) (pe_w hX), ?_⟩
  refine ha st M0 fp σ H ρ s d1 s1 _ r e1 fun v H1 f1 t1 r1 => ?_
  simp only at e
  split at e
  · cases r1
    exact ⟨true, rfl, by rw [if_pos rfl]; exact hb st M0 fp σ H1 ρ s1 d s' Q (r.ext f1 t1) e fun v H2 f2 t2 r2 => q v H2 (f1.trans f2) t2 r2⟩
  · cases r1
    cases e
    exact ⟨false, rfl, by rw [if_neg Bool.false_ne_true]; exact q _ H1 f1 t1 (.bl false)⟩
  · cases e
theorem se_or (ha : SE c a f) (hb : SE c (.BoolOp .Or (b :: rest) pos) g) : SE c (.BoolOp .Or (a :: b :: rest) pos) (dOrV f g) := by
  intro st M0 fp σ H ρ s d s' Q r e q
  unfold dOrV at e
  obtain ⟨⟨d1, s1⟩, e1, e⟩ := Option.bind_eq_some_iff.mp e
  refine ⟨tOrV (wE c a) (wE c _), fun X hX => pe_or (pe_w hX) (pe_w hX), ?_⟩
  refine ha st M0 fp σ H ρ s d1 s1 _ r e1 fun v H1 f1 t1 r1 => ?_
  simp only at e
  split at e
  · cases r1
    exact ⟨false, rfl, by rw [if_neg Bool.false_ne_true]; exact hb st M0 fp σ H1 ρ s1 d s' Q (r.ext f1 t1) e fun v H2 f2 t2 r2 => q v H2 (f1.trans f2) t2 r2⟩
  · cases r1
    cases e
    exact ⟨true, rfl, by rw [if_pos rfl]; exact q _ H1 f1 t1 (.bl true)⟩
  · cases e
theorem se_not (ha : SE c a f) : SE c (.UnaryOp .Not a pos) (dNotV f) := by
  intro st M0 fp σ H ρ s d s' Q r e q
  unfold dNotV at e
  obtain ⟨⟨d1, s1⟩, e1, e⟩ := Option.bind_eq_some_iff.mp e
  simp only at e
  split at e
  · cases e
    refine ⟨tNotV (wE c a), fun X hX => pe_not (pe_w hX), ?_⟩
    refine ha st M0 fp σ H ρ s _ _ _ r e1 fun v H1 f1 t1 r1 => ?_
    cases r1
    exact ⟨_, rfl, q _ H1 f1 t1 (.bl _)⟩
  · cases e
/-- not of a value by its truth -/
def dNotT (f : Ex) : Ex := fun ρ s => (f ρ s).bind fun p => (mTru p.1).map fun b => (.bool !b, p.2)
theorem se_notT (ha : SE c a f) : SE c (.UnaryOp .Not a pos) (dNotT f) := by
  intro st M0 fp σ H ρ s d s' Q r e q
  unfold dNotT at e
  obtain ⟨⟨d1, s1⟩, e1, e⟩ := Option.bind_eq_some_iff.mp e
  obtain ⟨b1, e2, e⟩ := Option.map_eq_some_iff.mp e
  cases e
  refine ⟨tNotT c.K (wE c a), fun X hX => ?_, ?_⟩
  · have := pe_notT (X := X) (pos := pos) (pe_w hX (e := a))
    rw [hX.K] at this
    exact this
  · exact ha st M0 fp σ H ρ s d1 _ _ r e1 fun v H1 f1 t1 r1 => ⟨_, mTru_of r1 e2, q _ H1 f1 t1 (.bl _)⟩
def dIfE (t : Tx) (f g : Ex) : Ex := fun ρ s => (t ρ s).bind fun p => if p.1 = true then f ρ p.2 else g ρ p.2
theorem se_ife (hc : ST c cc ft) (ha : SE c a f) (hb : SE c b g) : SE c (.IfExp cc a b pos) (dIfE ft f g) := by
  intro st M0 fp σ H ρ s d s' Q r e q
  unfold dIfE at e
  obtain ⟨⟨d1, s1⟩, e1, e⟩ := Option.bind_eq_some_iff.mp e
  refine ⟨tIf (wT c cc) (wE c a) (wE c b), fun X hX => pe_ifExp (pt_w hX) (pe_w hX) (pe_w hX), ?_⟩
  refine hc st M0 fp σ H ρ s d1 s1 _ r e1 fun H1 f1 t1 => ?_
  simp only at e
  cases d1 with
  | true =>
    rw [if_pos rfl] at e ⊢
    exact ha st M0 fp σ H1 ρ s1 d s' Q (r.ext f1 t1) e fun v H2 f2 t2 r2 => q v H2 (f1.trans f2) t2 r2
  | false =>
    rw [if_neg Bool.false_ne_true] at e ⊢
    exact hb st M0 fp σ H1 ρ s1 d s' Q (r.ext f1 t1) e fun v H2 f2 t2 r2 => q v H2 (f1.trans f2) t2 r2
/-- an expression that gives a list, new on both ways -/
def dIfF (t : Tx) (f g : Exs) : Exs := fun ρ s => (t ρ s).bind fun p => if p.1 = true then f ρ p.2 else g ρ p.2
end
end GF
/-! GF2: operations by values, subscripts, slices, built-in functions, calls of defs -/
namespace GF
open PySem PySem.Spec PyProof.Rows L2

/-! ### operators -/
def mAdd : D → D → Option D
  | .int i, .int j => some (.int (i + j))
  | .tuple ds, .tuple es => if ds.length + es.length ≤ 16777216 then some (.tuple (ds ++ es)) else none
  | _, _ => none
def mSub : D → D → Option D
  | .int i, .int j => some (.int (i - j))
  | _, _ => none
def mMul : D → D → Option D
  | .int i, .int j => if i.natAbs < 2 ^ 64 ∨ j.natAbs < 2 ^ 64 then some (.int (i * j)) else none
  | _, _ => none
def mFdiv : D → D → Option D
  | .int i, .int j => if j ≠ 0 ∧ j.natAbs < 1073741824 then some (.int (i.fdiv j)) else none
  | _, _ => none
def mMod : D → D → Option D
  | .int i, .int j => if j ≠ 0 then some (.int (i.fmod j)) else none
  | _, _ => none
def mCat : D → D → Option (List D)
  | .list ds, .list es => if ds.length + es.length ≤ 16777216 then some (ds ++ es) else none
  | _, _ => none
def mRep : D → D → Option (List D)
  | .list ds, .int k => if k.natAbs < 2 ^ 63 ∧ ds.length * k.toNat ≤ 16777216 then some (List.replicate k.toNat ds).flatten else none
  | _, _ => none
def mLt : D → D → Option D
  | .int i, .int j => some (.bool (decide (i < j)))
  | _, _ => none
def mLe : D → D → Option D
  | .int i, .int j => some (.bool (decide (i ≤ j)))
  | _, _ => none
def mGt : D → D → Option D
  | .int i, .int j => some (.bool (decide (j < i)))
  | _, _ => none
def mGe : D → D → Option D
  | .int i, .int j => some (.bool (decide (j ≤ i)))
  | _, _ => none
def mEq (d e : D) : Option D := if SeqAt.shaped d = true ∧ SeqAt.shaped e = true then some (.bool (PyData.eqv d e)) else none
def mNe (d e : D) : Option D := if SeqAt.shaped d = true ∧ SeqAt.shaped e = true then some (.bool (!PyData.eqv d e)) else none
def flatD : D → Bool
  | .none => true
  | .bool _ => true
  | .int _ => true
  | .str _ => true
  | _ => false
def mIn (d : D) : D → Option D
  | .list ds => if SeqAt.shaped d = true ∧ SeqAt.shaped (.list ds) = true then some (.bool (ds.any fun z => PyData.eqv z d)) else none
  | .tuple ds => if flatD d = true ∧ ds.all flatD = true then some (.bool (ds.any fun z => PyData.eqv z d)) else none
  | _ => none
def mNotIn (d : D) : D → Option D
  | .list ds => if SeqAt.shaped d = true ∧ SeqAt.shaped (.list ds) = true then some (.bool (!ds.any fun z => PyData.eqv z d)) else none
  | .tuple ds => if flatD d = true ∧ ds.all flatD = true then some (.bool (!ds.any fun z => PyData.eqv z d)) else none
  | _ => none
def isNon : D → Bool
  | .none => true
  | _ => false
/-- is None, is True, is False -/
def mIs (d : D) : D → Option D
  | .none => some (.bool (isNon d))
  | .bool b => match d with
    | .bool a => some (.bool (decide (a = b)))
    | _ => none
  | _ => none
def mIsNot (d : D) : D → Option D
  | .none => some (.bool (!isNon d))
  | .bool b => match d with
    | .bool a => some (.bool (!decide (a = b)))
    | _ => none
  | _ => none

section
variable {c : Cfg}
theorem os_int {f : Value → Value → Sem Value} {m : D → D → Option D} {g : Int → Int → V} {g' : Int → Int → D} (hm : ∀ d e r, m d e = some r → ∃ i j, d = .int i ∧ e = .int j ∧ r = g' i j) (hg : ∀ i j H M, Rp H M (g i j) (g' i j)) (ho : ∀ X, In c X → OpR X f (rI0 g)) : OpS c f m := by
  intro H M x y d e r Q hM rx ry e1 q
  obtain ⟨i, j, rfl, rfl, rfl⟩ := hm _ _ _ e1
  cases rx; cases ry
  exact ⟨_, ho, i, j, rfl, rfl, q _ H (Same.refl H) (hg i j H M)⟩
theorem os_intC {f : Value → Value → Sem Value} {m : D → D → Option D} {C : Int → Int → Prop} {g : Int → Int → V} {g' : Int → Int → D} (hm : ∀ d e r, m d e = some r → ∃ i j, d = .int i ∧ e = .int j ∧ C i j ∧ r = g' i j) (hg : ∀ i j H M, Rp H M (g i j) (g' i j)) (ho : ∀ X, In c X → OpR X f (rI C g)) : OpS c f m := by
  intro H M x y d e r Q hM rx ry e1 q
  obtain ⟨i, j, rfl, rfl, hc, rfl⟩ := hm _ _ _ e1
  cases rx; cases ry
  exact ⟨_, ho, i, j, rfl, rfl, hc, q _ H (Same.refl H) (hg i j H M)⟩
theorem os_add : OpS c (binaryOp .Add) mAdd := by
  intro H M x y d e r Q hM rx ry e1 q
  unfold mAdd at e1
  split at e1
  · cases e1; cases rx; cases ry
    exact ⟨_, fun X hX => op_add, _, _, rfl, rfl, q _ H (Same.refl H) (.int _)⟩
  · split at e1
    · rename_i ds es hl
      cases e1
      cases rx with
      | @tup a xs _ h1 h2 =>
        cases ry with
        | @tup b ys _ h3 h4 =>
          refine ⟨rCatA c.K, fun X hX => (by rw [← hX.K]; exact op_catA), a, b, xs, ys, rfl, rfl, SqT.of h1, SqT.of h3, by rw [h2.length, h4.length]; exact lim_line hl, fun e => ?_, fun _ e => ?_, fun _ _ p hp => ?_⟩
          · subst e
            cases h2
            exact q _ H (Same.refl H) (.tup h3 h4)
          · subst e
            cases h4
            rw [List.append_nil] at q
            exact q _ H (Same.refl H) (.tup h1 h2)
          · have sm : Same H (upd H p (.tup (xs ++ ys))) := Same.upd hp
            exact q _ _ sm (.tup upd_same ((h2.append h4).same sm))
    · cases e1
  · cases e1
theorem os_sub : OpS c (binaryOp .Sub) mSub := os_int (g := fun i j => .int (i - j)) (g' := fun i j => .int (i - j)) (fun d e r h => by unfold mSub at h; split at h <;> cases h; exact ⟨_, _, rfl, rfl, rfl⟩) (fun i j H M => .int _) fun X hX => op_sub
theorem os_mul : OpS c (binaryOp .Mult) mMul := os_intC (C := CMul) (g := fun i j => .int (i * j)) (g' := fun i j => .int (i * j)) (fun d e r h => by
  unfold mMul at h; split at h
  · split at h
    · rename_i hc; cases h; exact ⟨_, _, rfl, rfl, hc.imp (fun z => by omega) (fun z => by omega), rfl⟩
    · cases h
  · cases h) (fun i j H M => .int _) fun X hX => op_mul
theorem os_fdiv : OpS c (binaryOp .FloorDiv) mFdiv := os_intC (C := CDivN) (g := fun i j => .int (i.fdiv j)) (g' := fun i j => .int (i.fdiv j)) (fun d e r h => by
  unfold mFdiv at h; split at h
  · split at h
    · rename_i hc; cases h; exact ⟨_, _, rfl, rfl, hc, rfl⟩
    · cases h
  · cases h) (fun i j H M => .int _) fun X hX => op_fdivN
theorem os_mod : OpS c (binaryOp .Mod) mMod := os_intC (C := fun _ j => j ≠ 0) (g := fun i j => .int (i.fmod j)) (g' := fun i j => .int (i.fmod j)) (fun d e r h => by
  unfold mMod at h; split at h
  · split at h
    · rename_i hc; cases h; exact ⟨_, _, rfl, rfl, hc, rfl⟩
    · cases h
  · cases h) (fun i j H M => .int _) fun X hX => op_modN
theorem of_cat : OpF c (binaryOp .Add) mCat := by
  intro H M x y d e r Q rx ry e1 q
  unfold mCat at e1
  split at e1
  · split at e1
    · rename_i ds es hl
      cases e1
      cases rx with
      | @lst a xs _ n1 h1 h2 =>
        cases ry with
        | @lst b ys _ n2 h3 h4 =>
          refine ⟨_, fun X hX => op_cat, a, b, xs, ys, rfl, rfl, h1, h3, by rw [h2.length, h4.length]; exact lim_line hl, fun p hp => ?_⟩
          exact q p _ _ (Same.upd hp) hp upd_same ((h2.append h4).fresh hp)
    · cases e1
  · cases e1
theorem of_rep : OpF c (binaryOp .Mult) mRep := by
  intro H M x y d e r Q rx ry e1 q
  unfold mRep at e1
  split at e1
  · split at e1
    · rename_i ds k hl
      cases e1
      cases ry
      cases rx with
      | @lst a xs _ n1 h1 h2 =>
        refine ⟨_, fun X hX => op_rep, a, k, xs, rfl, rfl, h1, by have := hl.1; omega, by have := hl.1; omega, by rw [h2.length]; exact lim_line hl.2, fun p hp => ?_⟩
        exact q p _ _ (Same.upd hp) hp upd_same ((h2.replicate _).fresh hp)
    · cases e1
  · cases e1
theorem os_lt : OpS c (compareOp .Lt) mLt := os_int (g := fun i j => .bl (decide (i < j))) (g' := fun i j => .bool (decide (i < j))) (fun d e r h => by unfold mLt at h; split at h <;> cases h; exact ⟨_, _, rfl, rfl, rfl⟩) (fun i j H M => .bl _) fun X hX => op_lt
theorem os_le : OpS c (compareOp .LtE) mLe := os_int (g := fun i j => .bl (decide (i ≤ j))) (g' := fun i j => .bool (decide (i ≤ j))) (fun d e r h => by unfold mLe at h; split at h <;> cases h; exact ⟨_, _, rfl, rfl, rfl⟩) (fun i j H M => .bl _) fun X hX => op_le
theorem os_gt : OpS c (compareOp .Gt) mGt := os_int (g := fun i j => .bl (decide (j < i))) (g' := fun i j => .bool (decide (j < i))) (fun d e r h => by unfold mGt at h; split at h <;> cases h; exact ⟨_, _, rfl, rfl, rfl⟩) (fun i j H M => .bl _) fun X hX => op_gt
theorem os_ge : OpS c (compareOp .GtE) mGe := os_int (g := fun i j => .bl (decide (j ≤ i))) (g' := fun i j => .bool (decide (j ≤ i))) (fun d e r h => by unfold mGe at h; split at h <;> cases h; exact ⟨_, _, rfl, rfl, rfl⟩) (fun i j H M => .bl _) fun X hX => op_ge
theorem In.units {X : Cx} (h : In c X) : X.A.units + 65 < cLine := by have := h.room.un; omega
theorem os_eq : OpS c (compareOp .Eq) mEq := by
  intro H M x y d e r Q hM rx ry e1 q
  unfold mEq at e1
  split at e1
  · rename_i hc
    cases e1
    exact ⟨rEqD c.K, fun X hX => (by rw [← hX.K]; exact op_eqD (by have := hX.units; omega)), d, e, Rp.dp _ _ rx, Rp.dp _ _ ry, hc.1, hc.2, q _ H (Same.refl H) (.bl _)⟩
  · cases e1
theorem os_ne : OpS c (compareOp .NotEq) mNe := by
  intro H M x y d e r Q hM rx ry e1 q
  unfold mNe at e1
  split at e1
  · rename_i hc
    cases e1
    exact ⟨rNeD c.K, fun X hX => (by rw [← hX.K]; exact op_neD (by have := hX.units; omega)), d, e, Rp.dp _ _ rx, Rp.dp _ _ ry, hc.1, hc.2, q _ H (Same.refl H) (.bl _)⟩
  · cases e1
theorem flat_V {H : Hp} {M : Addr → Prop} {v : V} {d : D} (r : Rp H M v d) (h : flatD d = true) : flatV v = true := by
  cases r <;> first | rfl | cases h
theorem Rps.flat {H : Hp} {M : Addr → Prop} {vs : List V} {ds : List D} (r : Rps H M vs ds) (h : ds.all flatD = true) : vs.all flatV = true := by
  induction ds generalizing vs with
  | nil => cases r; rfl
  | cons d ds ih =>
    cases r with
    | cons h1 h2 =>
      rw [List.all_cons, Bool.and_eq_true] at h
      rw [List.all_cons, Bool.and_eq_true]
      exact ⟨flat_V h1 h.1, ih h2 h.2⟩
theorem eqV_eqv {H : Hp} {M : Addr → Prop} {v u : V} {d e : D} (r : Rp H M v d) (r' : Rp H M u e) (h : flatD d = true) (h' : flatD e = true) : eqV v u = PyData.eqv d e := by
  cases r <;> cases r' <;> first | rfl | cases h | cases h' | (unfold PyData.eqv; rfl)
theorem Rps.inV {H : Hp} {M : Addr → Prop} {v : V} {d : D} (r0 : Rp H M v d) (h0 : flatD d = true) {vs : List V} {ds : List D} (r : Rps H M vs ds) (h : ds.all flatD = true) : L2.inV v vs = ds.any fun z => PyData.eqv z d := by
  unfold L2.inV
  induction ds generalizing vs with
  | nil => cases r; rfl
  | cons d ds ih =>
    cases r with
    | cons h1 h2 =>
      rw [List.all_cons, Bool.and_eq_true] at h
      rw [List.any_cons, List.any_cons, ih h2 h.2, eqV_eqv h1 r0 h.1 h0]
theorem os_in : OpS c (compareOp .In) mIn := by
  intro H M x y d e r Q hM rx ry e1 q
  unfold mIn at e1
  split at e1
  · split at e1
    · rename_i hc
      cases e1
      exact ⟨rInD c.K, fun X hX => (by rw [← hX.K]; exact op_inD hX.units), d, _, Rp.dp _ _ rx, Rp.dp _ _ ry, hc.1, hc.2, q _ H (Same.refl H) (.bl _)⟩
    · cases e1
  · split at e1
    · rename_i hc
      cases e1
      cases ry with
      | @tup a xs _ h1 h2 =>
        refine ⟨rIn c.K false, fun X hX => (by rw [← hX.K]; exact op_in_seq), a, xs, rfl, .inr (SqT.of h1), flat_V rx hc.1, h2.flat hc.2, ?_⟩
        rw [if_neg Bool.false_ne_true, h2.inV rx hc.1 hc.2]
        exact q _ H (Same.refl H) (.bl _)
    · cases e1
  · cases e1
theorem os_notIn : OpS c (compareOp .NotIn) mNotIn := by
  intro H M x y d e r Q hM rx ry e1 q
  unfold mNotIn at e1
  split at e1
  · split at e1
    · rename_i hc
      cases e1
      exact ⟨rNotInD c.K, fun X hX => (by rw [← hX.K]; exact op_notInD hX.units), d, _, Rp.dp _ _ rx, Rp.dp _ _ ry, hc.1, hc.2, q _ H (Same.refl H) (.bl _)⟩
    · cases e1
  · split at e1
    · rename_i hc
      cases e1
      cases ry with
      | @tup a xs _ h1 h2 =>
        refine ⟨rIn c.K true, fun X hX => (by rw [← hX.K]; exact op_notIn_seq), a, xs, rfl, .inr (SqT.of h1), flat_V rx hc.1, h2.flat hc.2, ?_⟩
        rw [if_pos rfl, h2.inV rx hc.1 hc.2]
        exact q _ H (Same.refl H) (.bl _)
    · cases e1
  · cases e1
theorem isNon_of {H : Hp} {M : Addr → Prop} {v : V} {d : D} (r : Rp H M v d) : decide (v = .non) = isNon d := by
  cases r <;> simp [isNon]
theorem os_is : OpS c (compareOp .Is) mIs := by
  intro H M x y d e r Q hM rx ry e1 q
  unfold mIs at e1
  split at e1
  · cases e1; cases ry
    exact ⟨_, fun X hX => op_isN, rfl, by rw [isNon_of rx]; exact q _ H (Same.refl H) (.bl _)⟩
  · split at e1
    · cases e1; cases ry; cases rx
      exact ⟨_, fun X hX => op_is_bl, _, _, rfl, rfl, q _ H (Same.refl H) (.bl _)⟩
    · cases e1
  · cases e1
theorem os_isNot : OpS c (compareOp .IsNot) mIsNot := by
  intro H M x y d e r Q hM rx ry e1 q
  unfold mIsNot at e1
  split at e1
  · cases e1; cases ry
    exact ⟨_, fun X hX => op_notN, rfl, by rw [isNon_of rx]; exact q _ H (Same.refl H) (.bl _)⟩
  · split at e1
    · cases e1; cases ry; cases rx
      exact ⟨_, fun X hX => op_isnot_bl, _, _, rfl, rfl, q _ H (Same.refl H) (.bl _)⟩
    · cases e1
  · cases e1
/-! ### minus -/
def dNeg (f : Ex) : Ex := fun ρ s => (f ρ s).bind fun p => match p.1 with
  | .int i => some (.int (-i), p.2)
  | _ => none
variable {a b e : Expr} {es : List Expr} {f g : Ex} {fs : Exs} {pos : Pos}
theorem se_neg (ha : SE c a f) : SE c (.UnaryOp .USub a pos) (dNeg f) := by
  intro st M0 fp σ H ρ s d s' Q r e q
  unfold dNeg at e
  obtain ⟨⟨d1, s1⟩, e1, e⟩ := Option.bind_eq_some_iff.mp e
  simp only at e
  split at e
  · cases e
    refine ⟨tUn (rU fun i => .int (-i)) (wE c a), fun X hX => pe_un un_neg (pe_w hX), ?_⟩
    refine ha st M0 fp σ H ρ s _ _ _ r e1 fun v H1 f1 t1 r1 => ?_
    cases r1
    exact ⟨_, rfl, q _ H1 f1 t1 (.int _)⟩
  · cases e

/-! ### subscripts -/
def mIx : D → D → Option D
  | .list ds, .int i => atI ds i
  | .tuple ds, .int i => atI ds i
  | _, _ => none
theorem Rps.atI {H : Hp} {M : Addr → Prop} {vs : List V} {ds : List D} (h : Rps H M vs ds) {i : Int} {d : D} (e : atI ds i = some d) : ∃ v, L2.atI vs i = some v ∧ Rp H M v d := by
  unfold L2.atI at e ⊢
  rw [h.length]
  cases q : ixN ds.length i with
  | none => rw [q] at e; cases e
  | some j =>
    rw [q] at e
    obtain ⟨v, e1, e2⟩ := h.get (show ds[j]? = some d from e)
    exact ⟨v, e1, e2⟩
theorem is_ix : IxS c mIx := by
  intro H M x y d e r Q rx ry e1 q
  unfold mIx at e1
  split at e1
  · cases ry
    cases rx with
    | @lst p xs _ n1 h1 h2 =>
      obtain ⟨v, e2, e3⟩ := h2.atI e1
      exact ⟨rIxL c.K, fun X hX => (by rw [← hX.K]; exact ix_list), p, xs, _, v, rfl, rfl, SqL.of h1, e2, q v e3⟩
  · cases ry
    cases rx with
    | @tup p xs _ h1 h2 =>
      obtain ⟨v, e2, e3⟩ := h2.atI e1
      exact ⟨rIxT c.K, fun X hX => (by rw [← hX.K]; exact ix_tup), p, xs, _, v, rfl, rfl, SqT.of h1, e2, q v e3⟩
  · cases e1
theorem se_ix (ha : SE c a f) (hb : SE c b g) (hs : PlainIx b := by exact fun _ _ => rfl) : SE c (.Subscript a b pos) (dOp mIx f g) := by
  intro st M0 fp σ H ρ s d s' Q r e q
  obtain ⟨d1, s1, d2, e1, e2, e3⟩ := dOp_some e
  refine ⟨tOp (wIx c) (wE c a) (wE c b), fun X hX => pe_ix (ix_w hX) (pe_w hX) (pe_w hX) hs, ?_⟩
  refine two ha hb r e1 e2 fun v u H2 f2 t2 r1 r2 => ?_
  exact is_ix H2 _ v u d1 d2 d _ r1 r2 e3 fun v' rv => q v' H2 f2 t2 rv

/-! ### slices -/
def wO (c : Cfg) (e : Option Expr) : TO := fun σ H Q => ∃ t, (∀ X, In c X → PO X e t) ∧ t σ H Q
theorem po_w {X : Cx} (h : In c X) {e : Option Expr} : PO X e (wO c e) := ⟨fun pins s σ H Q I ⟨_, ht, q⟩ => (ht X h).run pins s σ H Q I q⟩
abbrev Ox := Ev → DS → Option (Option Int × DS)
def SO (c : Cfg) (e : Option Expr) (f : Ox) : Prop := ∀ (st : Option (Addr × Addr)) (M0 : Addr → Prop) (fp : Nat → List Addr) (σ : Sg) (H : Hp) (ρ : Ev) (s : DS) (d : Option Int) (s' : DS) (Q : Option Int → Hp → Prop), Rel M0 fp st σ H ρ s → f ρ s = some (d, s') →
  (∀ H', FrE st H H' → StOk st M0 H' s' → Q d H') → wO c e σ H Q
def dO0 : Ox := fun _ s => some (none, s)
def dO1 (f : Ex) : Ox := fun ρ s => (f ρ s).bind fun p => match p.1 with
  | .int i => some (some i, p.2)
  | _ => none
theorem so_0 : SO c none dO0 := by
  intro st M0 fp σ H ρ s d s' Q r e q
  cases e
  exact ⟨_, fun X hX => po_none, q H FrE.refl r.sto⟩
theorem so_1 (ha : SE c a f) : SO c (some a) (dO1 f) := by
  intro st M0 fp σ H ρ s d s' Q r e q
  unfold dO1 at e
  obtain ⟨⟨d1, s1⟩, e1, e⟩ := Option.bind_eq_some_iff.mp e
  simp only at e
  split at e
  · cases e
    refine ⟨tPart (wE c a), fun X hX => po_some (pe_w hX), ?_⟩
    refine ha st M0 fp σ H ρ s _ _ _ r e1 fun v H1 f1 t1 r1 => ?_
    cases r1
    exact ⟨_, rfl, q H1 f1 t1⟩
  · cases e
def cutD (xs : List D) (lo hi : Option Int) : List D := (xs.drop (HT.sIx xs.length 0 lo)).take (HT.sIx xs.length xs.length hi - HT.sIx xs.length 0 lo)
theorem Rps.cut {H : Hp} {M : Addr → Prop} {vs : List V} {ds : List D} (h : Rps H M vs ds) (lo hi : Option Int) : Rps H M (cutV vs lo hi) (cutD ds lo hi) := by
  unfold cutV cutD
  rw [h.length]
  exact (h.drop _).take _
theorem cutD_all {xs : List D} {lo hi : Option Int} (h : HT.sIx xs.length 0 lo = 0 ∧ HT.sIx xs.length xs.length hi = xs.length) : cutD xs lo hi = xs := by
  unfold cutD
  rw [h.1, h.2, List.drop_zero, Nat.sub_zero, List.take_length]
def dSlT (f : Ex) (lo hi : Ox) : Ex := fun ρ s => (f ρ s).bind fun p => (lo ρ p.2).bind fun l => (hi ρ l.2).bind fun h => match p.1 with
  | .tuple ds => some (.tuple (cutD ds l.1 h.1), h.2)
  | _ => none
def dSlL (f : Ex) (lo hi : Ox) : Exs := fun ρ s => (f ρ s).bind fun p => (lo ρ p.2).bind fun l => (hi ρ l.2).bind fun h => match p.1 with
  | .list ds => some (cutD ds l.1 h.1, h.2)
  | _ => none
variable {lo hi : Option Expr} {fl fh : Ox} {p2 : Pos}
theorem se_slT (ha : SE c a f) (hl : SO c lo fl) (hh : SO c hi fh) : SE c (.Subscript a (.Slice lo hi none p2) pos) (dSlT f fl fh) := by
  intro st M0 fp σ H ρ s d s' Q r e q
  unfold dSlT at e
  obtain ⟨⟨d1, s1⟩, e1, e⟩ := Option.bind_eq_some_iff.mp e
  obtain ⟨⟨d2, s2⟩, e2, e⟩ := Option.bind_eq_some_iff.mp e
  obtain ⟨⟨d3, s3⟩, e3, e⟩ := Option.bind_eq_some_iff.mp e
  simp only at e
  split at e
  · cases e
    refine ⟨tSl (rSlA c.K) (wE c a) (wO c lo) (wO c hi), fun X hX => pe_slice (by have := sl_tupA (X := X); rw [hX.K] at this; exact this) (pe_w hX) (po_w hX) (po_w hX), ?_⟩
    refine ha st M0 fp σ H ρ s _ _ _ r e1 fun v H1 f1 t1 r1 => ?_
    refine hl st M0 fp σ H1 ρ _ _ _ _ (r.ext f1 t1) e2 fun H2 f2 t2 => ?_
    refine hh st M0 fp σ H2 ρ _ _ _ _ (r.ext (f1.trans f2) t2) e3 fun H3 f3 t3 => ?_
    have f13 := f1.trans (f2.trans f3)
    have r3 := (r.ext f1 t1).rp (f2.trans f3) r1
    cases r3 with
    | @tup p xs _ h1 h2 =>
      refine ⟨p, xs, rfl, SqT.of h1, fun hw => ?_, fun hw p' hp => ?_⟩
      · rw [h2.length] at hw
        rw [cutD_all hw] at q
        exact q _ H3 f13 t3 (.tup h1 h2)
      · have sm : Same H3 (upd H3 p' (.tup (cutV xs d2 d3))) := Same.upd hp
        exact q _ _ (f13.trans (FrE.same sm)) (t3.same sm) (.tup upd_same ((h2.cut d2 d3).same sm))
  · cases e
theorem sf_slL (ha : SE c a f) (hl : SO c lo fl) (hh : SO c hi fh) : SF c (.Subscript a (.Slice lo hi none p2) pos) (dSlL f fl fh) := by
  intro st M0 fp σ H ρ s d s' Q r e q
  unfold dSlL at e
  obtain ⟨⟨d1, s1⟩, e1, e⟩ := Option.bind_eq_some_iff.mp e
  obtain ⟨⟨d2, s2⟩, e2, e⟩ := Option.bind_eq_some_iff.mp e
  obtain ⟨⟨d3, s3⟩, e3, e⟩ := Option.bind_eq_some_iff.mp e
  simp only at e
  split at e
  · cases e
    refine ⟨tSl (rSlL c.K) (wE c a) (wO c lo) (wO c hi), fun X hX => pe_slice (by have := sl_list (X := X); rw [hX.K] at this; exact this) (pe_w hX) (po_w hX) (po_w hX), ?_⟩
    refine ha st M0 fp σ H ρ s _ _ _ r e1 fun v H1 f1 t1 r1 => ?_
    refine hl st M0 fp σ H1 ρ _ _ _ _ (r.ext f1 t1) e2 fun H2 f2 t2 => ?_
    refine hh st M0 fp σ H2 ρ _ _ _ _ (r.ext (f1.trans f2) t2) e3 fun H3 f3 t3 => ?_
    have f13 := f1.trans (f2.trans f3)
    have r3 := (r.ext f1 t1).rp (f2.trans f3) r1
    cases r3 with
    | @lst p xs _ n1 h1 h2 =>
      refine ⟨p, xs, rfl, SqL.of h1, fun p' hp => ?_⟩
      have sm : Same H3 (upd H3 p' (.lst (cutV xs d2 d3))) := Same.upd hp
      exact q p' _ _ (f13.trans (FrE.same sm)) (t3.same sm) (f13.none r.sto t3 hp) upd_same ((h2.cut d2 d3).fresh hp)
  · cases e

/-! ### built-in functions -/
def dCall (m : List D → Option D) (fs : Exs) : Ex := fun ρ s => (fs ρ s).bind fun p => (m p.1).map fun d => (d, p.2)
def dCallF (m : List D → Option (List D)) (fs : Exs) : Exs := fun ρ s => (fs ρ s).bind fun p => (m p.1).map fun d => (d, p.2)
section
variable {x : Str} {id T : String} {p : Pos}
theorem se_callB {m : List D → Option D} (hc : CallS c (.builtin id) m) (hg : glB c.sc x = true) (hm : c.mg x = none) (hv : bootBuiltins x = some (.builtin id)) (ha : SA c (e :: es) fs) (hn : x ≠ "__name__" := by decide) (hdb : (x == ("__debug__" : Str)) = false := by decide)
    (hs : ∀ env, starEach (e :: es) env = (false, eval e env) :: starEach es env := by intro _; rfl) (hpl : ∀ env, (backTo pos (starEach es env)).any (·.1) = false := by intro _; rfl) : SE c (.Call (.Name x p) (e :: es) [] pos) (dCall m fs) := by
  intro st M0 fp σ H ρ s d s' Q r e1 q
  unfold dCall at e1
  obtain ⟨⟨ds, s1⟩, e2, e1⟩ := Option.bind_eq_some_iff.mp e1
  obtain ⟨d1, e3, e1⟩ := Option.map_eq_some_iff.mp e1
  cases e1
  refine ⟨tCB (wCall c (.builtin id)) (wA c (e :: es)), fun X hX => ?_, ?_⟩
  · exact pe_callB (call_w hX) (by show X.env.scope.names.lookup x = _; rw [hX.sc]; exact gl_of hg) (by rw [hX.mg]; exact hm) hv (pa_w hX) hn hdb (hs _) (hpl _)
  · refine ha st M0 fp σ H ρ s ds _ _ r e2 fun vs H1 f1 t1 r1 => ?_
    exact hc H1 _ vs ds _ _ (r.freshAt f1 t1) r1 e3 fun v H2 sm rv => q v H2 (f1.trans (FrE.same sm)) (t1.same sm) rv
theorem sf_callB {m : List D → Option (List D)} (hc : CallF c (.builtin id) m) (hg : glB c.sc x = true) (hm : c.mg x = none) (hv : bootBuiltins x = some (.builtin id)) (ha : SA c (e :: es) fs) (hn : x ≠ "__name__" := by decide) (hdb : (x == ("__debug__" : Str)) = false := by decide)
    (hs : ∀ env, starEach (e :: es) env = (false, eval e env) :: starEach es env := by intro _; rfl) (hpl : ∀ env, (backTo pos (starEach es env)).any (·.1) = false := by intro _; rfl) : SF c (.Call (.Name x p) (e :: es) [] pos) (dCallF m fs) := by
  intro st M0 fp σ H ρ s d s' Q r e1 q
  unfold dCallF at e1
  obtain ⟨⟨ds, s1⟩, e2, e1⟩ := Option.bind_eq_some_iff.mp e1
  obtain ⟨d1, e3, e1⟩ := Option.map_eq_some_iff.mp e1
  cases e1
  refine ⟨tCB (wCall c (.builtin id)) (wA c (e :: es)), fun X hX => ?_, ?_⟩
  · exact pe_callB (call_w hX) (by show X.env.scope.names.lookup x = _; rw [hX.sc]; exact gl_of hg) (by rw [hX.mg]; exact hm) hv (pa_w hX) hn hdb (hs _) (hpl _)
  · refine ha st M0 fp σ H ρ s ds _ _ r e2 fun vs H1 f1 t1 r1 => ?_
    exact hc H1 _ vs ds _ _ r1 e3 fun p xs H2 sm hp hx rv => q p xs H2 (f1.trans (FrE.same sm)) (t1.same sm) (f1.none r.sto t1 hp) hx rv
theorem se_callT {m : List D → Option D} (hc : CallS c (.type T) m) (hg : glB c.sc x = true) (hm : c.mg x = none) (hv : bootBuiltins x = some (.type T)) (ha : SA c (e :: es) fs) (hn : x ≠ "__name__" := by decide) (hdb : (x == ("__debug__" : Str)) = false := by decide)
    (hs : ∀ env, starEach (e :: es) env = (false, eval e env) :: starEach es env := by intro _; rfl) (hpl : ∀ env, (backTo pos (starEach es env)).any (·.1) = false := by intro _; rfl) : SE c (.Call (.Name x p) (e :: es) [] pos) (dCall m fs) := by
  intro st M0 fp σ H ρ s d s' Q r e1 q
  unfold dCall at e1
  obtain ⟨⟨ds, s1⟩, e2, e1⟩ := Option.bind_eq_some_iff.mp e1
  obtain ⟨d1, e3, e1⟩ := Option.map_eq_some_iff.mp e1
  cases e1
  refine ⟨tCB (wCall c (.type T)) (wA c (e :: es)), fun X hX => ?_, ?_⟩
  · exact pe_callTy (call_w hX) (by show X.env.scope.names.lookup x = _; rw [hX.sc]; exact gl_of hg) (by rw [hX.mg]; exact hm) hv (pa_w hX) hn hdb (hs _) (hpl _)
  · refine ha st M0 fp σ H ρ s ds _ _ r e2 fun vs H1 f1 t1 r1 => ?_
    exact hc H1 _ vs ds _ _ (r.freshAt f1 t1) r1 e3 fun v H2 sm rv => q v H2 (f1.trans (FrE.same sm)) (t1.same sm) rv
theorem sf_callT {m : List D → Option (List D)} (hc : CallF c (.type T) m) (hg : glB c.sc x = true) (hm : c.mg x = none) (hv : bootBuiltins x = some (.type T)) (ha : SA c (e :: es) fs) (hn : x ≠ "__name__" := by decide) (hdb : (x == ("__debug__" : Str)) = false := by decide)
    (hs : ∀ env, starEach (e :: es) env = (false, eval e env) :: starEach es env := by intro _; rfl) (hpl : ∀ env, (backTo pos (starEach es env)).any (·.1) = false := by intro _; rfl) : SF c (.Call (.Name x p) (e :: es) [] pos) (dCallF m fs) := by
  intro st M0 fp σ H ρ s d s' Q r e1 q
  unfold dCallF at e1
  obtain ⟨⟨ds, s1⟩, e2, e1⟩ := Option.bind_eq_some_iff.mp e1
  obtain ⟨d1, e3, e1⟩ := Option.map_eq_some_iff.mp e1
  cases e1
  refine ⟨tCB (wCall c (.type T)) (wA c (e :: es)), fun X hX => ?_, ?_⟩
  · exact pe_callTy (call_w hX) (by show X.env.scope.names.lookup x = _; rw [hX.sc]; exact gl_of hg) (by rw [hX.mg]; exact hm) hv (pa_w hX) hn hdb (hs _) (hpl _)
  · refine ha st M0 fp σ H ρ s ds _ _ r e2 fun vs H1 f1 t1 r1 => ?_
    exact hc H1 _ vs ds _ _ r1 e3 fun p xs H2 sm hp hx rv => q p xs H2 (f1.trans (FrE.same sm)) (t1.same sm) (f1.none r.sto t1 hp) hx rv
end
/-- the ints of a list -/
def intsOf : List D → Option (List Int)
  | [] => some []
  | .int i :: ds => (intsOf ds).map (i :: ·)
  | _ => none
theorem intsOf_eq : ∀ {ds : List D} {ns : List Int}, intsOf ds = some ns → ds = ns.map PyData.int
  | [], _, h => by cases h; rfl
  | d :: ds, ns, h => by
    unfold intsOf at h
    split at h
    · rename_i e; cases e
    · rename_i e; cases e
      obtain ⟨ms, e1, e2⟩ := Option.map_eq_some_iff.mp h
      subst e2
      rw [intsOf_eq e1]; rfl
    · cases h
theorem intsOf_map (ns : List Int) : intsOf (ns.map PyData.int) = some ns := by
  induction ns with
  | nil => rfl
  | cons n ns ih => rw [List.map_cons, intsOf, ih]; rfl
def boolsOf : List D → Option (List Bool)
  | [] => some []
  | .bool i :: ds => (boolsOf ds).map (i :: ·)
  | _ => none
theorem boolsOf_eq : ∀ {ds : List D} {ns : List Bool}, boolsOf ds = some ns → ds = ns.map PyData.bool
  | [], _, h => by cases h; rfl
  | d :: ds, ns, h => by
    unfold boolsOf at h
    split at h
    · rename_i e; cases e
    · rename_i e; cases e
      obtain ⟨ms, e1, e2⟩ := Option.map_eq_some_iff.mp h
      subst e2
      rw [boolsOf_eq e1]; rfl
    · cases h
theorem boolsOf_map (ns : List Bool) : boolsOf (ns.map PyData.bool) = some ns := by
  induction ns with
  | nil => rfl
  | cons n ns ih => rw [List.map_cons, boolsOf, ih]; rfl
def mLen : List D → Option D
  | [.list ds] => some (.int ds.length)
  | [.tuple ds] => some (.int ds.length)
  | _ => none
def mAbs : List D → Option D
  | [.int i] => some (.int (if i < 0 then -i else i))
  | _ => none
def maxI : Int → List Int → Int
  | x, [] => x
  | x, y :: r => maxI (if y > x then y else x) r
def minI : Int → List Int → Int
  | x, [] => x
  | x, y :: r => minI (if y < x then y else x) r
def mMax : List D → Option D
  | [.int i, .int j] => some (.int (if j > i then j else i))
  | [.list ds] => (intsOf ds).bind fun ns => match ns with
    | [] => none
    | x :: r => some (.int (maxI x r))
  | _ => none
def mMin : List D → Option D
  | [.int i, .int j] => some (.int (if j < i then j else i))
  | [.list ds] => (intsOf ds).bind fun ns => match ns with
    | [] => none
    | x :: r => some (.int (minI x r))
  | _ => none
def mSum : List D → Option D
  | [.list ds] => (intsOf ds).map fun ns => .int ns.sum
  | _ => none
def mInt : List D → Option D
  | [.int i] => some (.int i)
  | [.bool b] => some (.int (if b then 1 else 0))
  | _ => none
def mTuple : List D → Option D
  | [.list ds] => some (.tuple ds)
  | [.tuple ds] => some (.tuple ds)
  | _ => none
def mList : List D → Option (List D)
  | [.list ds] => some ds
  | [.tuple ds] => some ds
  | _ => none
def mAny : List D → Option D
  | [.list ds] => (boolsOf ds).map fun bs => .bool (bs.any id)
  | _ => none
def mAll : List D → Option D
  | [.list ds] => (boolsOf ds).map fun bs => .bool (bs.all id)
  | _ => none
theorem maxI_mem : ∀ (x : Int) (r : List Int), maxI x r ∈ x :: r ∧ ∀ y ∈ x :: r, y ≤ maxI x r
  | x, [] => ⟨List.mem_cons_self, fun y h => by rw [List.mem_singleton.mp h]; exact Int.le_refl _⟩
  | x, y :: r => by
    obtain ⟨h1, h2⟩ := maxI_mem (if y > x then y else x) r
    unfold maxI
    constructor
    · rcases List.mem_cons.mp h1 with e | h
      · rw [e]
        split
        · exact List.mem_cons_of_mem _ List.mem_cons_self
        · exact List.mem_cons_self
      · exact List.mem_cons_of_mem _ (List.mem_cons_of_mem _ h)
    · intro z hz
      have h3 := h2 _ List.mem_cons_self
      rcases List.mem_cons.mp hz with rfl | hz
      · split at h3 <;> split <;> omega
      · rcases List.mem_cons.mp hz with rfl | hz
        · split at h3 <;> split <;> omega
        · exact h2 z (List.mem_cons_of_mem _ hz)
theorem minI_mem : ∀ (x : Int) (r : List Int), minI x r ∈ x :: r ∧ ∀ y ∈ x :: r, minI x r ≤ y
  | x, [] => ⟨List.mem_cons_self, fun y h => by rw [List.mem_singleton.mp h]; exact Int.le_refl _⟩
  | x, y :: r => by
    obtain ⟨h1, h2⟩ := minI_mem (if y < x then y else x) r
    unfold minI
    constructor
    · rcases List.mem_cons.mp h1 with e | h
      · rw [e]
        split
        · exact List.mem_cons_of_mem _ List.mem_cons_self
        · exact List.mem_cons_self
      · exact List.mem_cons_of_mem _ (List.mem_cons_of_mem _ h)
    · intro z hz
      have h3 := h2 _ List.mem_cons_self
      rcases List.mem_cons.mp hz with rfl | hz
      · split at h3 <;> split <;> omega
      · rcases List.mem_cons.mp hz with rfl | hz
        · split at h3 <;> split <;> omega
        · exact h2 z (List.mem_cons_of_mem _ hz)
def rLenS (K : PySem.W.Frag) : List V → Hp → VK → Prop := fun xs H Q => ∃ p ys, xs = [.ref p] ∧ (SqL K H p ys ∨ SqT K H p ys) ∧ Q (.int ys.length) H
def rLstOf (K : PySem.W.Frag) : List V → Hp → VK → Prop := fun xs H Q => ∃ p ys, xs = [.ref p] ∧ (SqL K H p ys ∨ SqT K H p ys) ∧ ∀ l, H l = none → Q (.ref l) (upd H l (.lst ys))
def rTupOf (K : PySem.W.Frag) : List V → Hp → VK → Prop := fun xs H Q => ∃ p ys, xs = [.ref p] ∧ ((SqL K H p ys ∧ ∀ l, H l = none → Q (.ref l) (upd H l (.tup ys))) ∨ (SqT K H p ys ∧ Q (.ref p) H))
theorem cs_len : CallS c (.builtin "len") mLen := by
  intro H M xs ds r Q hM rs e q
  unfold mLen at e
  split at e
  · cases e
    cases rs with
    | cons r1 r2 =>
      cases r2
      cases r1 with
      | @lst p xs _ n1 h1 h2 => exact ⟨rLenS c.K, fun X hX => (by rw [← hX.K]; exact call_len_seq), p, xs, rfl, .inl (SqL.of h1), by rw [h2.length]; exact q _ H (Same.refl H) (.int _)⟩
  · cases e
    cases rs with
    | cons r1 r2 =>
      cases r2
      cases r1 with
      | @tup p xs _ h1 h2 => exact ⟨rLenS c.K, fun X hX => (by rw [← hX.K]; exact call_len_seq), p, xs, rfl, .inr (SqT.of h1), by rw [h2.length]; exact q _ H (Same.refl H) (.int _)⟩
  · cases e
theorem Rps.int1 {H : Hp} {M : Addr → Prop} {xs : List V} {i : Int} (h : Rps H M xs [.int i]) : xs = [.int i] := by
  cases h with
  | cons r1 r2 => cases r2; cases r1; rfl
theorem Rps.int2 {H : Hp} {M : Addr → Prop} {xs : List V} {i j : Int} (h : Rps H M xs [.int i, .int j]) : xs = [.int i, .int j] := by
  cases h with
  | cons r1 r2 =>
    cases r2 with
    | cons r3 r4 => cases r4; cases r1; cases r3; rfl
theorem Rps.list1 {H : Hp} {M : Addr → Prop} {xs : List V} {ds : List D} (h : Rps H M xs [.list ds]) : ∃ p ys, xs = [.ref p] ∧ ¬ M p ∧ H p = some (.lst ys) ∧ Rps H M ys ds := by
  cases h with
  | cons r1 r2 =>
    cases r2
    cases r1 with
    | lst n h1 h2 => exact ⟨_, _, rfl, n, h1, h2⟩
theorem Rps.tup1 {H : Hp} {M : Addr → Prop} {xs : List V} {ds : List D} (h : Rps H M xs [.tuple ds]) : ∃ p ys, xs = [.ref p] ∧ H p = some (.tup ys) ∧ Rps H M ys ds := by
  cases h with
  | cons r1 r2 =>
    cases r2
    cases r1 with
    | tup h1 h2 => exact ⟨_, _, rfl, h1, h2⟩
theorem cs_abs : CallS c (.builtin "abs") mAbs := by
  intro H M xs ds r Q hM rs e q
  unfold mAbs at e
  split at e
  · cases e
    rw [rs.int1]
    exact ⟨_, fun X hX => call_abs, _, rfl, q _ H (Same.refl H) (.int _)⟩
  · cases e
theorem cs_max : CallS c (.builtin "max") mMax := by
  intro H M xs ds r Q hM rs e q
  unfold mMax at e
  split at e
  · cases e
    rw [rs.int2]
    exact ⟨_, fun X hX => call_max2 hX.calm, _, _, rfl, q _ H (Same.refl H) (.int _)⟩
  · obtain ⟨ns, e1, e⟩ := Option.bind_eq_some_iff.mp e
    split at e
    · cases e
    · rename_i x rr
      cases e
      obtain ⟨p, ys, rfl, n, h1, h2⟩ := rs.list1
      rw [intsOf_eq e1] at h2
      rw [h2.ints] at h1
      refine ⟨rMax c.K, fun X hX => (by rw [← hX.K]; exact cr_max hX.calm), p, _, rfl, SqL.of h1, by simp, fun m hm hle => ?_⟩
      obtain ⟨g1, g2⟩ := maxI_mem x rr
      have em : m = maxI x rr := by have a1 := hle _ g1; have a2 := g2 _ hm; omega
      rw [em]
      exact q _ H (Same.refl H) (.int _)
  · cases e
theorem cs_min : CallS c (.builtin "min") mMin := by
  intro H M xs ds r Q hM rs e q
  unfold mMin at e
  split at e
  · cases e
    rw [rs.int2]
    exact ⟨_, fun X hX => call_min2 hX.calm, _, _, rfl, q _ H (Same.refl H) (.int _)⟩
  · obtain ⟨ns, e1, e⟩ := Option.bind_eq_some_iff.mp e
    split at e
    · cases e
    · rename_i x rr
      cases e
      obtain ⟨p, ys, rfl, n, h1, h2⟩ := rs.list1
      rw [intsOf_eq e1] at h2
      rw [h2.ints] at h1
      refine ⟨rMin c.K, fun X hX => (by rw [← hX.K]; exact cr_min hX.calm), p, _, rfl, SqL.of h1, by simp, fun m hm hle => ?_⟩
      obtain ⟨g1, g2⟩ := minI_mem x rr
      have em : m = minI x rr := by have a1 := hle _ g1; have a2 := g2 _ hm; omega
      rw [em]
      exact q _ H (Same.refl H) (.int _)
  · cases e
theorem cs_sum : CallS c (.builtin "sum") mSum := by
  intro H M xs ds r Q hM rs e q
  unfold mSum at e
  split at e
  · obtain ⟨ns, e1, e⟩ := Option.map_eq_some_iff.mp e
    cases e
    obtain ⟨p, ys, rfl, n, h1, h2⟩ := rs.list1
    rw [intsOf_eq e1] at h2
    rw [h2.ints] at h1
    exact ⟨rSum c.K, fun X hX => (by rw [← hX.K]; exact cr_sum hX.calm), p, _, rfl, SqL.of h1, q _ H (Same.refl H) (.int _)⟩
  · cases e
theorem cs_any : CallS c (.builtin "any") mAny := by
  intro H M xs ds r Q hM rs e q
  unfold mAny at e
  split at e
  · obtain ⟨ns, e1, e⟩ := Option.map_eq_some_iff.mp e
    cases e
    obtain ⟨p, ys, rfl, n, h1, h2⟩ := rs.list1
    rw [boolsOf_eq e1] at h2
    rw [h2.bools] at h1
    exact ⟨rAny c.K, fun X hX => (by rw [← hX.K]; exact cr_any hX.calm), p, _, rfl, SqL.of h1, q _ H (Same.refl H) (.bl _)⟩
  · cases e
theorem cs_all : CallS c (.builtin "all") mAll := by
  intro H M xs ds r Q hM rs e q
  unfold mAll at e
  split at e
  · obtain ⟨ns, e1, e⟩ := Option.map_eq_some_iff.mp e
    cases e
    obtain ⟨p, ys, rfl, n, h1, h2⟩ := rs.list1
    rw [boolsOf_eq e1] at h2
    rw [h2.bools] at h1
    exact ⟨rAll c.K, fun X hX => (by rw [← hX.K]; exact cr_all hX.calm), p, _, rfl, SqL.of h1, q _ H (Same.refl H) (.bl _)⟩
  · cases e
theorem cs_int : CallS c (.type "int") mInt := by
  intro H M xs ds r Q hM rs e q
  unfold mInt at e
  split at e
  · cases e
    rw [rs.int1]
    exact ⟨_, fun X hX => call_int1, .inl ⟨_, rfl, q _ H (Same.refl H) (.int _)⟩⟩
  · cases e
    cases rs with
    | cons r1 r2 =>
      cases r2; cases r1
      exact ⟨_, fun X hX => call_int1, .inr ⟨_, rfl, q _ H (Same.refl H) (.int _)⟩⟩
  · cases e
theorem cs_tuple : CallS c (.type "tuple") mTuple := by
  intro H M xs ds r Q hM rs e q
  unfold mTuple at e
  split at e
  · cases e
    obtain ⟨p, ys, rfl, n, h1, h2⟩ := rs.list1
    refine ⟨rTupOf c.K, fun X hX => (by rw [← hX.K]; exact call_tuple_of), p, ys, rfl, .inl ⟨SqL.of h1, fun l hl => ?_⟩⟩
    have sm : Same H (upd H l (.tup ys)) := Same.upd hl
    exact q _ _ sm (.tup upd_same (h2.same sm))
  · cases e
    obtain ⟨p, ys, rfl, h1, h2⟩ := rs.tup1
    exact ⟨rTupOf c.K, fun X hX => (by rw [← hX.K]; exact call_tuple_of), p, ys, rfl, .inr ⟨SqT.of h1, q _ H (Same.refl H) (.tup h1 h2)⟩⟩
  · cases e
theorem cf_list : CallF c (.type "list") mList := by
  intro H M xs ds r Q rs e q
  unfold mList at e
  split at e
  · cases e
    obtain ⟨p, ys, rfl, n, h1, h2⟩ := rs.list1
    exact ⟨rLstOf c.K, fun X hX => (by rw [← hX.K]; exact call_list_of), p, ys, rfl, .inl (SqL.of h1), fun l hl => q l _ _ (Same.upd hl) hl upd_same (h2.fresh hl)⟩
  · cases e
    obtain ⟨p, ys, rfl, h1, h2⟩ := rs.tup1
    exact ⟨rLstOf c.K, fun X hX => (by rw [← hX.K]; exact call_list_of), p, ys, rfl, .inr (SqT.of h1), fun l hl => q l _ _ (Same.upd hl) hl upd_same (h2.fresh hl)⟩
  · cases e
/-- sorted: of ints; of pairs of ints -/
def leI (a b : Int) : Bool := decide (a ≤ b)
def sortI (ns : List Int) : List Int := ns.mergeSort leI
theorem sortI_perm (ns : List Int) : (sortI ns).Perm ns := List.mergeSort_perm ns _
theorem sortI_sorted (ns : List Int) : (sortI ns).Pairwise (· ≤ ·) := by
  have h := List.pairwise_mergeSort (le := leI) (fun a b d h1 h2 => by unfold leI at *; simp at *; omega) (fun a b => by unfold leI; simp; omega) ns
  exact h.imp fun h => by unfold leI at h; simpa using h
def pairsOf : List D → Option (List (Int × Int))
  | [] => some []
  | .tuple [.int i, .int j] :: ds => (pairsOf ds).map ((i, j) :: ·)
  | _ => none
def pairD (p : Int × Int) : D := .tuple [.int p.1, .int p.2]
theorem pairsOf_eq : ∀ {ds : List D} {ns : List (Int × Int)}, pairsOf ds = some ns → ds = ns.map pairD
  | [], _, h => by cases h; rfl
  | d :: ds, ns, h => by
    unfold pairsOf at h
    split at h
    · rename_i e; cases e
    · rename_i e; cases e
      obtain ⟨ms, e1, e2⟩ := Option.map_eq_some_iff.mp h
      subst e2
      rw [pairsOf_eq e1]; rfl
    · cases h
theorem pairsOf_map (ns : List (Int × Int)) : pairsOf (ns.map pairD) = some ns := by
  induction ns with
  | nil => rfl
  | cons n ns ih => rw [List.map_cons, pairD, pairsOf, ih]; rfl
def leP (a b : Int × Int) : Bool := !SrtO.lexB b a
def sortP (ns : List (Int × Int)) : List (Int × Int) := ns.mergeSort leP
def mSorted : List D → Option (List D)
  | [.list ds] => match intsOf ds with
    | some ns => some ((sortI ns).map PyData.int)
    | none => (pairsOf ds).map fun ps => (sortP ps).map pairD
  | _ => none
theorem leP_trans (a b d : Int × Int) (h1 : leP a b = true) (h2 : leP b d = true) : leP a d = true := by
  unfold leP at *
  simp only [Bool.not_eq_true'] at *
  have p := SrtO.lexB_no.mp h1
  have q := SrtO.lexB_no.mp h2
  refine SrtO.lexB_no.mpr ?_
  omega
theorem leP_total (a b : Int × Int) : (leP a b || leP b a) = true := by
  unfold leP
  cases h : SrtO.lexB b a with
  | false => rfl
  | true =>
    have p := SrtO.lexB_iff.mp h
    have : SrtO.lexB a b = false := SrtO.lexB_no.mpr (by omega)
    rw [this]; rfl
theorem sortP_perm (ns : List (Int × Int)) : (sortP ns).Perm ns := List.mergeSort_perm ns _
theorem sortP_sorted (ns : List (Int × Int)) : (sortP ns).Pairwise fun a b => leP a b = true := List.pairwise_mergeSort leP_trans leP_total ns
theorem pairs_same : ∀ {a b : List (Int × Int)}, a.Perm b → a.Pairwise (fun a b => leP a b = true) → b.Pairwise (fun a b => leP a b = true) → a = b
  | [], b, h, _, _ => (List.Perm.eq_nil h.symm).symm
  | x :: l, [], h, _, _ => absurd h.length_eq (by simp)
  | x :: l, y :: m, h, hl, hm => by
    have le1 : leP x y = true := by
      rcases List.mem_cons.mp (h.mem_iff.mpr (List.mem_cons_self (a := y) (l := m))) with e | hy
      · rw [e]; unfold leP; rw [show SrtO.lexB x x = false from SrtO.lexB_no.mpr (by omega)]; rfl
      · exact (List.pairwise_cons.mp hl).1 y hy
    have le2 : leP y x = true := by
      rcases List.mem_cons.mp (h.mem_iff.mp (List.mem_cons_self (a := x) (l := l))) with e | hx
      · rw [e]; unfold leP; rw [show SrtO.lexB y y = false from SrtO.lexB_no.mpr (by omega)]; rfl
      · exact (List.pairwise_cons.mp hm).1 x hx
    have e : x = y := by
      unfold leP at le1 le2
      simp only [Bool.not_eq_true'] at le1 le2
      have p := SrtO.lexB_no.mp le1
      have q := SrtO.lexB_no.mp le2
      exact Prod.ext (by omega) (by omega)
    subst e
    rw [pairs_same h.cons_inv (List.pairwise_cons.mp hl).2 (List.pairwise_cons.mp hm).2]
theorem pairsOf_ints {ds : List D} {ns : List Int} (h : intsOf ds = some ns) (ps : List (Int × Int)) (h' : pairsOf ds = some ps) : ds = [] := by
  rw [intsOf_eq h] at h'
  cases ns with
  | nil => rw [intsOf_eq h]; rfl
  | cons n ns => rw [List.map_cons] at h'; unfold pairsOf at h'; cases h'
/-- the pairs that stand at the places of a list -/
theorem Rps.pairs {H : Hp} {M : Addr → Prop} {ps : List (Int × Int)} : ∀ {vs : List V}, Rps H M vs (ps.map pairD) → ∀ v ∈ vs, ∃ t p, p ∈ ps ∧ v = V.ref t ∧ H t = some (.tup [.int p.1, .int p.2]) := by
  induction ps with
  | nil => intro vs h v hv; cases h; cases hv
  | cons p ps ih =>
    intro vs h v hv
    cases h with
    | cons h1 h2 =>
      rcases List.mem_cons.mp hv with rfl | hv
      · cases h1 with
        | tup g1 g2 =>
          rw [g2.int2] at g1
          exact ⟨_, p, List.mem_cons_self, rfl, g1⟩
      · obtain ⟨t, p', hp, e1, e2⟩ := ih h2 v hv
        exact ⟨t, p', List.mem_cons_of_mem _ hp, e1, e2⟩
def keyP (H : Hp) (v : V) : Int × Int := match v with
  | .ref t => match H t with
    | some (.tup [.int i, .int j]) => (i, j)
    | _ => (0, 0)
  | _ => (0, 0)
theorem keyP_of {H : Hp} {t : Addr} {i j : Int} (h : H t = some (.tup [.int i, .int j])) : keyP H (.ref t) = (i, j) := by
  unfold keyP; simp only [h]
theorem Rps.keys {H : Hp} {M : Addr → Prop} {ps : List (Int × Int)} : ∀ {vs : List V}, Rps H M vs (ps.map pairD) → vs.map (keyP H) = ps := by
  induction ps with
  | nil => intro vs h; cases h; rfl
  | cons p ps ih =>
    intro vs h
    cases h with
    | cons h1 h2 =>
      rw [List.map_cons, ih h2]
      cases h1 with
      | tup g1 g2 =>
        rw [g2.int2] at g1
        rw [keyP_of g1]
theorem Rps.ofKeys {H : Hp} {M : Addr → Prop} : ∀ {vs : List V}, (∀ v ∈ vs, ∃ t, v = V.ref t ∧ H t = some (.tup [.int (keyP H v).1, .int (keyP H v).2])) → Rps H M vs ((vs.map (keyP H)).map pairD)
  | [], _ => .nil
  | v :: vs, h => by
    obtain ⟨t, e1, e2⟩ := h v List.mem_cons_self
    rw [List.map_cons, List.map_cons]
    refine .cons ?_ (Rps.ofKeys fun u hu => h u (List.mem_cons_of_mem _ hu))
    rw [e1] at e2 ⊢
    exact .tup e2 (.cons (.int _) (.cons (.int _) .nil))
theorem cf_sorted : CallF c (.builtin "sorted") mSorted := by
  intro H M xs ds r Q rs e q
  unfold mSorted at e
  split at e
  · rename_i ds0
    obtain ⟨p, ys, rfl, n, h1, h2⟩ := rs.list1
    split at e
    · rename_i ns e1
      cases e
      rw [intsOf_eq e1] at h2
      rw [h2.ints] at h1
      refine ⟨rSortedI c.K, fun X hX => (by rw [← hX.K]; exact cr_sortedI), p, ns, rfl, SqL.of h1, fun ns' l pm sr hl => ?_⟩
      have es : ns' = sortI ns := PySem.W.ksm_same (pm.trans (sortI_perm ns).symm) sr (sortI_sorted ns)
      rw [es]
      exact q l _ _ (Same.upd hl) hl upd_same (Rps.ofInts _)
    · obtain ⟨ps, e1, e⟩ := Option.map_eq_some_iff.mp e
      cases e
      rw [pairsOf_eq e1] at h2
      have hk := h2.keys
      have hpt : ∀ v ∈ ys, ∃ t, v = V.ref t ∧ H t = some (.tup [.int (keyP H v).1, .int (keyP H v).2]) := fun v hv => by
        obtain ⟨t, pp, hp, e1, e2⟩ := h2.pairs v hv
        subst e1
        exact ⟨t, rfl, by rw [keyP_of e2]; exact e2⟩
      refine ⟨rSortedPO c.K, fun X hX => (by rw [← hX.K]; exact cr_sortedPO), p, ys, keyP H, rfl, SqL.of h1, hpt, fun zs l sr stb hl => ?_⟩
      have pm : zs.Perm ys := stb.perm
      have e3 : zs.map (keyP H) = sortP ps := by
        refine pairs_same ((pm.map _).trans (by rw [hk]; exact (sortP_perm ps).symm)) ?_ (sortP_sorted ps)
        rw [List.pairwise_map]
        exact sr.imp fun {a b} h => by
          (show (!ltP (keyP H) b a) = true; rw [h]; rfl)
      have r3 : Rps H M zs ((sortP ps).map pairD) := by
        rw [← e3]
        exact Rps.ofKeys fun v hv => hpt v (pm.mem_iff.mp hv)
      exact q l zs _ (Same.upd hl) hl upd_same (r3.fresh hl)
  · cases e

/-! ### calls of defs -/
/-- a def that changes nothing: arguments in, a value out -/
def spP (np : Nat) (m : List D → Option D) : Sp := fun vs H Q _ => vs.length = np ∧ ∃ (M : Addr → Prop) (ds : List D) (d : D), (∀ a, M a → ∃ o, H a = some o) ∧ Rps H M vs ds ∧ m ds = some d ∧ ∀ v H', Same H H' → Rp H' M v d → Q v H'
/-- a def whose first argument is the law's state -/
def spS (np : Nat) (m : List D → DS → Option (D × DS)) : Sp := fun vs H Q _ => vs.length = np + 1 ∧ ∃ (M : Addr → Prop) (sa sc : Addr) (us : List V) (ds : List D) (s : DS) (d : D) (s' : DS), vs = .ref sa :: us ∧ (∀ a, M a → ∃ o, H a = some o) ∧ StOk (some (sa, sc)) M H s ∧ Rps H M us ds ∧
  m ds s = some (d, s') ∧ ∀ v H', FrE (some (sa, sc)) H H' → StOk (some (sa, sc)) M H' s' → Rp H' M v d → Q v H'
/-- a def of the text with its promise -/
def FnIs (c : Cfg) (x : Str) (k : Nat) (sp : Sp) : Prop := ∃ f fd ps, FnOk c.P c.w c.K c.mg c.base CX0 k f fd ps sp ∧ c.mg x = some (.ref f) ∧ PySem.W.keepIn c.K (.ref f) = true ∧ Binds c.K fd ps []
section
variable {x : Str} {p : Pos} {k : Nat}
theorem se_call {np : Nat} {m : List D → Option D} (F : FnIs c x k (spP np m)) (hk : k ≤ c.k) (hg : glB c.sc x = true) (ha : SA c (e :: es) fs) (hl : (e :: es).length = np := by rfl) (hdb : (x == ("__debug__" : Str)) = false := by decide)
    (hs : ∀ env, starEach (e :: es) env = (false, eval e env) :: starEach es env := by intro _; rfl) (hpl : ∀ env, (backTo pos (starEach es env)).any (·.1) = false := by intro _; rfl)
    (hlen : ∀ ρ s ds s', fs ρ s = some (ds, s') → ds.length = np) : SE c (.Call (.Name x p) (e :: es) [] pos) (dCall m fs) := by
  intro st M0 fp σ H ρ s d s' Q r e1 q
  unfold dCall at e1
  obtain ⟨⟨ds, s1⟩, e2, e1⟩ := Option.bind_eq_some_iff.mp e1
  obtain ⟨d1, e3, e1⟩ := Option.map_eq_some_iff.mp e1
  cases e1
  obtain ⟨f0, fd, ps, G, g1, g2, g3⟩ := F
  refine ⟨tCall (spP np m) [] E0 (wA c (e :: es)), fun X hX => ?_, ?_⟩
  · have G' : FnOk X.prog X.w X.K X.mg X.base CX0 k f0 fd ps (spP np m) := by rw [hX.P, hX.w, hX.K, hX.mg, hX.base]; exact G
    exact pe_call G' (hX.room.mono hk) (by show X.env.scope.names.lookup x = _; rw [hX.sc]; exact gl_of hg) (by rw [hX.mg]; exact g1) (by rw [hX.K]; exact g2) (by rw [hX.K]; exact g3) .nil pass0 (pa_w hX) hdb (hs _) (hpl _)
  · refine ha st M0 fp σ H ρ s ds _ _ r e2 fun vs H1 f1 t1 r1 => ?_
    rw [List.append_nil]
    refine ⟨by rw [r1.length]; exact hlen _ _ _ _ e2, Mof M0 fp, ds, _, fun a ha => (r.ext f1 t1).dom ha, r1, e3, fun v H2 sm rv => ?_⟩
    exact q v H2 (f1.trans (FrE.same sm)) (t1.same sm) rv
/-- .. of a def that has the state as its first argument -/
def dCallS (i : Nat) (m : List D → DS → Option (D × DS)) (fs : Exs) : Ex := fun ρ s => match ρ[i]? with
  | some (some .st) => (fs ρ s).bind fun p => m p.1 p.2
  | _ => none
theorem se_callS {np : Nat} {m : List D → DS → Option (D × DS)} {i : Nat} {y : Str} {py : Pos} (F : FnIs c x k (spS np m)) (hk : k ≤ c.k) (hg : glB c.sc x = true) (hN : c.N[i]? = some y) (hv : visB c.sc y = true) (ha : SA c es fs)
    (hlen : ∀ ρ s ds s', fs ρ s = some (ds, s') → ds.length = np) (hdb : (x == ("__debug__" : Str)) = false := by decide) (hd : (y == ("__debug__" : Str)) = false := by decide) (hcd : (y == ("__classdict__" : Str)) = false := by decide)
    (hs : ∀ env, starEach (.Name y py :: es) env = (false, eval (.Name y py) env) :: starEach es env := by intro _; rfl) (hpl : ∀ env, (backTo pos (starEach es env)).any (·.1) = false := by intro _; rfl) : SE c (.Call (.Name x p) (.Name y py :: es) [] pos) (dCallS i m fs) := by
  intro st M0 fp σ H ρ s d s' Q r e1 q
  unfold dCallS at e1
  split at e1
  · rename_i e0
    obtain ⟨⟨ds, s1⟩, e2, e3⟩ := Option.bind_eq_some_iff.mp e1
    obtain ⟨v0, g0, _, sa, sc, est, ev⟩ := r.sl i _ e0
    obtain ⟨f0, fd, ps, G, g1, g2, g3⟩ := F
    refine ⟨tCall (spS np m) [] E0 (tCons (tVar i) (wA c es)), fun X hX => ?_, ?_⟩
    · have G' : FnOk X.prog X.w X.K X.mg X.base CX0 k f0 fd ps (spS np m) := by rw [hX.P, hX.w, hX.K, hX.mg, hX.base]; exact G
      refine pe_call G' (hX.room.mono hk) (by show X.env.scope.names.lookup x = _; rw [hX.sc]; exact gl_of hg) (by rw [hX.mg]; exact g1) (by rw [hX.K]; exact g2) (by rw [hX.K]; exact g3) .nil pass0 (pa_cons ?_ (pa_w hX) (hs _)) hdb (hs _) (hpl _)
      exact pe_var (by rw [hX.N]; exact hN) (by rw [hX.sc]; exact vis_of hv) hd hcd
    · refine ⟨v0, g0, ?_⟩
      refine ha st M0 fp σ H ρ s ds _ _ r e2 fun vs H1 f1 t1 r1 => ?_
      show spS np m ((v0 :: vs) ++ []) H1 Q E0
      rw [List.append_nil]
      subst est; subst ev
      refine ⟨by rw [List.length_cons, r1.length, hlen _ _ _ _ e2], Mof M0 fp, sa, sc, vs, ds, s1, d, s', rfl, fun a ha => (r.ext f1 t1).dom ha, ?_, r1, e3, fun v H2 f2 t2 rv => ?_⟩
      · intro sa' sc' z
        obtain ⟨k1, k2, k3, k4, k5⟩ := t1 sa' sc' z
        exact ⟨k1, .inl k2, .inl k3, k4, k5⟩
      · refine q v H2 (f1.trans f2) ?_ rv
        intro sa' sc' z
        obtain ⟨k1, k2, k3, k4, k5⟩ := t2 sa' sc' z
        obtain ⟨_, n2, n3, _, _⟩ := t1 sa' sc' z
        exact ⟨k1, n2, n3, k4, k5⟩
  · cases e1
end
theorem len_nil : ∀ ρ s ds s', dNil ρ s = some (ds, s') → ds.length = 0 := fun ρ s ds s' h => by cases h; rfl
theorem len_cons {n : Nat} (h : ∀ ρ s ds s', fs ρ s = some (ds, s') → ds.length = n) : ∀ ρ s ds s', dCons f fs ρ s = some (ds, s') → ds.length = n + 1 := fun ρ s ds s' e => by
  unfold dCons at e
  obtain ⟨⟨d1, s1⟩, e1, e⟩ := Option.bind_eq_some_iff.mp e
  obtain ⟨⟨ds, s2⟩, e2, e⟩ := Option.map_eq_some_iff.mp e
  cases e
  rw [List.length_cons, h _ _ _ _ e2]
end
end GF
/-! GF3: what may be stored; statements; loops -/
namespace GF
open PySem PySem.Spec PyProof.Rows L2

def Mor (M0 : Addr → Prop) (l : List Addr) (a : Addr) : Prop := M0 a ∨ a ∈ l
theorem Mor_nil {M0 : Addr → Prop} : Mor M0 [] = M0 := by funext a; unfold Mor; simp
abbrev Xx := Ev → DS → Option (Sl × DS)
abbrev Xxs := Ev → DS → Option (List Sl × DS)
def SX (c : Cfg) (e : Expr) (f : Xx) : Prop := ∀ (st : Option (Addr × Addr)) (M0 : Addr → Prop) (fp : Nat → List Addr) (σ : Sg) (H : Hp) (ρ : Ev) (s : DS) (sl : Sl) (s' : DS) (Q : VK), Rel M0 fp st σ H ρ s → f ρ s = some (sl, s') →
  (∀ v l H', FrE st H H' → Rel (Mor M0 l) fp st σ H' ρ s' → (∀ a ∈ l, H a = none) → SlOk st H' (Mof (Mor M0 l) fp) v l sl → Q v H') → wE c e σ H Q
inductive SlsOk (st : Option (Addr × Addr)) (H : Hp) (M : Addr → Prop) : List V → List (List Addr) → List Sl → Prop
  | nil : SlsOk st H M [] [] []
  | cons {v : V} {l : List Addr} {sl : Sl} {vs : List V} {ls : List (List Addr)} {sls : List Sl} : SlOk st H M v l sl → (∀ a ∈ l, a ∉ ls.flatten) → SlsOk st H M vs ls sls → SlsOk st H M (v :: vs) (l :: ls) (sl :: sls)
def SXs (c : Cfg) (es : List Expr) (f : Xxs) : Prop := ∀ (st : Option (Addr × Addr)) (M0 : Addr → Prop) (fp : Nat → List Addr) (σ : Sg) (H : Hp) (ρ : Ev) (s : DS) (sls : List Sl) (s' : DS) (Q : List V → Hp → Prop), Rel M0 fp st σ H ρ s → f ρ s = some (sls, s') →
  (∀ vs ls H', FrE st H H' → Rel (Mor M0 ls.flatten) fp st σ H' ρ s' → (∀ a ∈ ls.flatten, H a = none) → SlsOk st H' (Mof (Mor M0 ls.flatten) fp) vs ls sls → Q vs H') → wA c es σ H Q

section
variable {M0 : Addr → Prop} {fp fp' : Nat → List Addr} {st : Option (Addr × Addr)} {σ σ' : Sg} {H H' : Hp} {ρ ρ' : Ev} {s s' : DS}
theorem Mof.mor {l : List Addr} {a : Addr} : Mof (Mor M0 l) fp a ↔ Mof M0 fp a ∨ a ∈ l := by
  unfold Mof Mor
  constructor
  · rintro ((h | h) | h)
    · exact .inl (.inl h)
    · exact .inr h
    · exact .inl (.inr h)
  · rintro ((h | h) | h)
    · exact .inl (.inl h)
    · exact .inr h
    · exact .inl (.inr h)
/-- behind an expression that made new objects: nothing that a slot holds speaks of them -/
theorem Rel.more (r : Rel M0 fp st σ H ρ s) (f : FrE st H H') (t : StOk st M0 H' s') {l : List Addr} (hn : ∀ a ∈ l, H a = none) (hs : ∀ a ∈ l, ∃ o, H' a = some o) : Rel (Mor M0 l) fp st σ H' ρ s' := by
  have r' := r.ext f t
  have hl : ∀ a xs, H a = some (.lst xs) → ¬ Mof M0 fp a → H' a = some (.lst xs) ∧ ¬ Mof (Mor M0 l) fp a := fun a xs e n => by
    refine ⟨f _ _ e (r.notSt fun z => n (.inl z)), fun z => ?_⟩
    rcases Mof.mor.mp z with z | z
    · exact n z
    · rw [hn a z] at e; cases e
  have ht : ∀ a xs, H a = some (.tup xs) → H' a = some (.tup xs) := fun a xs e => f _ _ e (r.sto.notStTup e)
  refine ⟨r.len, fun sa sc e => ?_, fun a ha => ?_, fun i a ha z => ?_, r.dj, r.no, fun i sl e => ?_⟩
  · obtain ⟨h1, h2, h3, h4, h5⟩ := t sa sc e
    exact ⟨h1, .inl h2, .inl h3, h4, h5⟩
  · rcases ha with ha | ha
    · exact r'.m0 a ha
    · exact hs a ha
  · rcases z with z | z
    · exact r.fr i a ha z
    · obtain ⟨o, e⟩ := r.ownD ha
      rw [hn a z] at e; cases e
  · obtain ⟨v, e1, e2⟩ := r.sl i sl e
    exact ⟨v, e1, e2.move hl ht fun b hb o q => f b o q (r.notSt (r.fr i b hb))⟩
theorem Rel.nil (r : Rel M0 fp st σ H ρ s) : Rel (Mor M0 []) fp st σ H ρ s := by rw [Mor_nil]; exact r
def fpSet (fp : Nat → List Addr) (i : Nat) (l : List Addr) : Nat → List Addr := fun j => if j = i then l else fp j
theorem fpSet_self {i : Nat} {l : List Addr} : fpSet fp i l i = l := if_pos rfl
theorem fpSet_ne {i j : Nat} {l : List Addr} (h : j ≠ i) : fpSet fp i l j = fp j := if_neg h
/-- a slot is written -/
theorem Rel.store {i : Nat} {v : V} {l L : List Addr} {sl : Sl} (r : Rel (Mor M0 (l ++ L)) fp st σ H ρ s) (hi : i < ρ.length) (h : SlOk st H (Mof (Mor M0 (l ++ L)) fp) v l sl) (h1 : ∀ a ∈ l, ¬ M0 a ∧ a ∉ L) (h2 : StOk st (Mor M0 L) H s) : Rel (Mor M0 L) (fpSet fp i l) st (σ.set i (some v)) H (ρ.set i (some sl)) s := by
  have mono : ∀ a, Mof (Mor M0 L) (fpSet fp i l) a → Mof (Mor M0 (l ++ L)) fp a := fun a z => by
    rcases z with (z | z) | ⟨j, z⟩
    · exact .inl (.inl z)
    · exact .inl (.inr (List.mem_append_right _ z))
    · by_cases e : j = i
      · subst e
        rw [fpSet_self] at z
        exact .inl (.inr (List.mem_append_left _ z))
      · rw [fpSet_ne e] at z
        exact .inr ⟨j, z⟩
  have hl : ∀ a xs, H a = some (.lst xs) → ¬ Mof (Mor M0 (l ++ L)) fp a → H a = some (.lst xs) ∧ ¬ Mof (Mor M0 L) (fpSet fp i l) a := fun a xs e n => ⟨e, fun z => n (mono a z)⟩
  have hl' : ∀ a, a ∈ l → ∀ j, a ∉ fp j := fun a ha j hj => r.fr j a hj (.inr (List.mem_append_left _ ha))
  refine ⟨by rw [List.length_set, List.length_set]; exact r.len, h2, fun a ha => r.m0 a (ha.imp id fun z => List.mem_append_right _ z), fun j a ha => ?_, fun j k a ha hb => ?_, fun j hn => ?_, fun j sl' e => ?_⟩
  · by_cases e : j = i
    · subst e
      rw [fpSet_self] at ha
      intro z
      rcases z with z | z
      · exact (h1 a ha).1 z
      · exact (h1 a ha).2 z
    · rw [fpSet_ne e] at ha
      exact fun z => r.fr j a ha (z.imp id fun z => List.mem_append_right _ z)
  · by_cases e : j = i
    · subst e
      rw [fpSet_self] at ha
      by_cases e2 : k = j
      · exact e2.symm
      · rw [fpSet_ne e2] at hb
        exact absurd hb (hl' a ha k)
    · rw [fpSet_ne e] at ha
      by_cases e2 : k = i
      · subst e2
        rw [fpSet_self] at hb
        exact absurd ha (hl' a hb j)
      · rw [fpSet_ne e2] at hb
        exact r.dj j k a ha hb
  · by_cases e : j = i
    · subst e
      exact absurd (List.getElem?_set_self hi) (hn sl)
    · rw [fpSet_ne e]
      refine r.no j fun sl' q => hn sl' ?_
      rw [List.getElem?_set_ne (Ne.symm e)]
      exact q
  · by_cases e2 : j = i
    · subst e2
      rw [List.getElem?_set_self hi] at e
      cases e
      refine ⟨v, List.getElem?_set_self (by rw [← r.len]; exact hi), ?_⟩
      rw [fpSet_self]
      exact h.move hl (fun _ _ q => q) fun _ _ _ q => q
    · rw [List.getElem?_set_ne (Ne.symm e2)] at e
      obtain ⟨w, q1, q2⟩ := r.sl j sl' e
      refine ⟨w, by rw [List.getElem?_set_ne (Ne.symm e2)]; exact q1, ?_⟩
      rw [fpSet_ne e2]
      exact q2.move hl (fun _ _ q => q) fun _ _ _ q => q
/-- .. one -/
theorem Rel.store1 {i : Nat} {v : V} {l : List Addr} {sl : Sl} (r : Rel (Mor M0 l) fp st σ H ρ s) (hi : i < ρ.length) (h : SlOk st H (Mof (Mor M0 l) fp) v l sl) (h1 : ∀ a ∈ l, ¬ M0 a) (h2 : StOk st M0 H s) : Rel M0 (fpSet fp i l) st (σ.set i (some v)) H (ρ.set i (some sl)) s := by
  have := Rel.store (M0 := M0) (l := l) (L := []) (by rw [List.append_nil]; exact r) hi (by rw [List.append_nil]; exact h) (fun a ha => ⟨h1 a ha, by simp⟩) (by rw [Mor_nil]; exact h2)
  rw [Mor_nil] at this
  exact this
theorem Rel.storeD {i : Nat} {v : V} {d : D} (r : Rel M0 fp st σ H ρ s) (hi : i < ρ.length) (h : Rp H (Mof M0 fp) v d) : Rel M0 (fpSet fp i []) st (σ.set i (some v)) H (ρ.set i (some (.im d))) s :=
  Rel.store1 (by rw [Mor_nil]; exact r) hi (by rw [Mor_nil]; exact ⟨rfl, h⟩) (fun a ha => by cases ha) r.sto
theorem fpSet_nil_sub {i j : Nat} {a : Addr} (h : a ∈ fpSet fp i [] j) : a ∈ fp j := by
  unfold fpSet at h
  split at h
  · cases h
  · exact h
/-- a slot's own object is written: H' is H but at the slot's own object -/
theorem Rel.write {i : Nat} {sl sl' : Sl} {l : List Addr} {a : Addr} {o : HO} (r : Rel M0 fp st σ H ρ s) (e0 : ρ[i]? = some (some sl)) (ha : a ∈ fp i) {v : V} (ev : σ[i]? = some (some v)) (hsub : ∀ b ∈ l, b ∈ fp i) (hm : ∀ xs, H a ≠ some (.tup xs))
    (h : SlOk st (upd H a o) (Mof M0 fp) v l sl') : Rel M0 (fpSet fp i l) st σ (upd H a o) (ρ.set i (some sl')) s := by
  have hi : i < ρ.length := (List.getElem?_eq_some_iff.mp e0).1
  have own : Mof M0 fp a := .inr ⟨i, ha⟩
  have mono : ∀ b, Mof M0 (fpSet fp i l) b → Mof M0 fp b := fun b z => by
    rcases z with z | ⟨j, z⟩
    · exact .inl z
    · by_cases e : j = i
      · subst e
        rw [fpSet_self] at z
        exact .inr ⟨j, hsub b z⟩
      · rw [fpSet_ne e] at z
        exact .inr ⟨j, z⟩
  have hl : ∀ b xs, H b = some (.lst xs) → ¬ Mof M0 fp b → upd H a o b = some (.lst xs) ∧ ¬ Mof M0 (fpSet fp i l) b := fun b xs e n => by
    refine ⟨?_, fun z => n (mono b z)⟩
    rw [upd_ne (show b ≠ a from fun z => n (z ▸ own))]; exact e
  have ht : ∀ b xs, H b = some (.tup xs) → upd H a o b = some (.tup xs) := fun b xs e => by
    rw [upd_ne (show b ≠ a from fun z => hm xs (z ▸ e))]; exact e
  have hM : ∀ b, M0 b → b ≠ a := fun b hb z => r.fr i a ha (z ▸ hb)
  have hk : ∀ b xs, (upd H a o) b = some (.lst xs) → ¬ Mof M0 fp b → (upd H a o) b = some (.lst xs) ∧ ¬ Mof M0 (fpSet fp i l) b := fun b xs e n => ⟨e, fun z => n (mono b z)⟩
  refine ⟨by rw [List.length_set]; exact r.len, fun sa sc e => ?_, fun b hb => ?_, fun j b hb => ?_, fun j k b hb hc => ?_, fun j hn => ?_, fun j sl2 e => ?_⟩
  · obtain ⟨h1, h2, h3, h4, h5⟩ := r.sto sa sc e
    exact ⟨h1, h2, h3, by rw [upd_ne (hM _ h2)]; exact h4, by rw [upd_ne (hM _ h3)]; exact h5⟩
  · rw [upd_ne (hM b hb)]; exact r.m0 b hb
  · by_cases e : j = i
    · subst e
      rw [fpSet_self] at hb
      exact r.fr j b (hsub b hb)
    · rw [fpSet_ne e] at hb
      exact r.fr j b hb
  · have up : ∀ j, b ∈ fpSet fp i l j → b ∈ fp j := fun j hb => by
      by_cases e : j = i
      · subst e
        rw [fpSet_self] at hb
        exact hsub b hb
      · rw [fpSet_ne e] at hb; exact hb
    exact r.dj j k b (up j hb) (up k hc)
  · by_cases e : j = i
    · subst e
      exact absurd (List.getElem?_set_self hi) (hn sl')
    · rw [fpSet_ne e]
      refine r.no j fun sl2 q => hn sl2 ?_
      rw [List.getElem?_set_ne (Ne.symm e)]
      exact q
  · by_cases e2 : j = i
    · subst e2
      rw [List.getElem?_set_self hi] at e
      cases e
      refine ⟨v, ev, ?_⟩
      rw [fpSet_self]
      exact h.move hk (fun _ _ q => q) fun _ _ _ q => q
    · rw [List.getElem?_set_ne (Ne.symm e2)] at e
      obtain ⟨w, q1, q2⟩ := r.sl j sl2 e
      refine ⟨w, q1, ?_⟩
      rw [fpSet_ne e2]
      exact q2.move hl ht fun b hb oo q => by rw [upd_ne (show b ≠ a from fun z => e2 (r.dj j i b hb (z ▸ ha)))]; exact q
end

/-! ### the judgement of a statement -/
def Fresh (fp fp' : Nat → List Addr) (H : Hp) : Prop := ∀ i a, a ∈ fp' i → (∃ j, a ∈ fp j) ∨ H a = none
def Post (st : Option (Addr × Addr)) (M0 : Addr → Prop) (fp : Nat → List Addr) (H : Hp) (o : Out) (E : Ends) : Prop := match o with
  | .nx ρ' s' => ∀ fp' σ' H', FrS st fp H H' → Fresh fp fp' H → Rel M0 fp' st σ' H' ρ' s' → E.nx σ' H'
  | .bk ρ' s' => ∀ fp' σ' H', FrS st fp H H' → Fresh fp fp' H → Rel M0 fp' st σ' H' ρ' s' → E.bk σ' H'
  | .ct ρ' s' => ∀ fp' σ' H', FrS st fp H H' → Fresh fp fp' H → Rel M0 fp' st σ' H' ρ' s' → E.ct σ' H'
  | .rt d s' => ∀ v H', FrS st fp H H' → StOk st M0 H' s' → Rp H' M0 v d → E.rt v H'
def SS (c : Cfg) (e : Stmt) (g : Sx) : Prop := ∀ (st : Option (Addr × Addr)) (M0 : Addr → Prop) (fp : Nat → List Addr) (σ : Sg) (H : Hp) (ρ : Ev) (s : DS) (o : Out) (E : Ends), Rel M0 fp st σ H ρ s → g ρ s = some o → Post st M0 fp H o E → wS c e E σ H
def SSs (c : Cfg) (e : List Stmt) (g : Sx) : Prop := ∀ (st : Option (Addr × Addr)) (M0 : Addr → Prop) (fp : Nat → List Addr) (σ : Sg) (H : Hp) (ρ : Ev) (s : DS) (o : Out) (E : Ends), Rel M0 fp st σ H ρ s → g ρ s = some o → Post st M0 fp H o E → wSs c e E σ H

section
variable {M0 : Addr → Prop} {fp fp1 fp2 : Nat → List Addr} {st : Option (Addr × Addr)} {σ σ1 : Sg} {H H1 H2 : Hp} {ρ ρ1 : Ev} {s s1 : DS} {o : Out} {E : Ends}
theorem FrS.refl : FrS st fp H H := fun _ _ h _ _ => h
theorem Fresh.refl : Fresh fp fp H := fun i a h => .inl ⟨i, h⟩
theorem Fresh.sub (h : ∀ i a, a ∈ fp1 i → a ∈ fp i) : Fresh fp fp1 H := fun i a q => .inl ⟨i, h i a q⟩
theorem FrS.trans (a : FrS st fp H H1) (b : Fresh fp fp1 H) (d : FrS st fp1 H1 H2) : FrS st fp H H2 := fun x o h n m => by
  refine d x o (a x o h n m) n fun i hi => ?_
  rcases b i x hi with ⟨j, hj⟩ | z
  · exact m j hj
  · rw [z] at h; cases h
theorem Fresh.trans (r : StOk st M0 H1 s1) (a : FrS st fp H H1) (b : Fresh fp fp1 H) (d : Fresh fp1 fp2 H1) : Fresh fp fp2 H := fun i x hx => by
  rcases d i x hx with ⟨j, hj⟩ | z
  · exact b j x hj
  · by_cases k : ∃ j, x ∈ fp j
    · exact .inl k
    · refine .inr ?_
      cases e : H x with
      | none => rfl
      | some o =>
        by_cases n : NotSt st x
        · rw [a x o e n fun j hj => k ⟨j, hj⟩] at z; cases z
        · exfalso
          refine n fun sa sc q => ?_
          obtain ⟨_, _, _, h4, h5⟩ := r sa sc q
          exact ⟨fun y => (by rw [y, h4] at z; cases z), fun y => (by rw [y, h5] at z; cases z)⟩
theorem Post.trans (r : Rel M0 fp1 st σ1 H1 ρ1 s1) (a : FrS st fp H H1) (b : Fresh fp fp1 H) (p : Post st M0 fp H o E) : Post st M0 fp1 H1 o E := by
  cases o with
  | nx ρ' s' => exact fun fp' σ' H' f g r' => p fp' σ' H' (a.trans b f) (Fresh.trans r.sto a b g) r'
  | bk ρ' s' => exact fun fp' σ' H' f g r' => p fp' σ' H' (a.trans b f) (Fresh.trans r.sto a b g) r'
  | ct ρ' s' => exact fun fp' σ' H' f g r' => p fp' σ' H' (a.trans b f) (Fresh.trans r.sto a b g) r'
  | rt d s' => exact fun v H' f t r' => p v H' (a.trans b f) t r'
theorem Rel.freshS (f : FrE st H H1) : FrS st fp H H1 := f.toS
end

/-! ### blocks -/
def dSkip : Sx := fun ρ s => some (.nx ρ s)
def dSeq (g h : Sx) : Sx := fun ρ s => (g ρ s).bind fun o => match o with
  | .nx ρ' s' => h ρ' s'
  | o => some o
section
variable {c : Cfg} {e a b : Expr} {es : List Expr} {f g : Ex} {fs : Exs} {ft : Tx} {fx : Xx} {fxs : Xxs} {S : Stmt} {B B' : List Stmt} {G G' : Sx} {pos pos' : Pos}
theorem ss_nil : SSs c [] dSkip := by
  intro st M0 fp σ H ρ s o E r e q
  cases e
  exact ⟨_, fun X hX => pss_nil, q fp σ H FrS.refl Fresh.refl r⟩
theorem ss_cons (h1 : SS c S G) (h2 : SSs c B G') : SSs c (S :: B) (dSeq G G') := by
  intro st M0 fp σ H ρ s o E r e q
  unfold dSeq at e
  obtain ⟨o1, e1, e⟩ := Option.bind_eq_some_iff.mp e
  refine ⟨tSeq (wS c S) (wSs c B), fun X hX => pss_cons (ps_w hX) (pss_w hX), ?_⟩
  refine h1 st M0 fp σ H ρ s o1 _ r e1 ?_
  cases o1 with
  | nx ρ1 s1 => exact fun fp1 σ1 H1 f1 g1 r1 => h2 st M0 fp1 σ1 H1 ρ1 s1 o E r1 e (q.trans r1 f1 g1)
  | bk ρ1 s1 => cases e; exact q
  | ct ρ1 s1 => cases e; exact q
  | rt d s1 => cases e; exact q
theorem ss_one (h1 : SS c S G) : SSs c [S] G := by
  intro st M0 fp σ H ρ s o E r e q
  exact ⟨wS c S, fun X hX => pss_one (ps_w hX), h1 st M0 fp σ H ρ s o E r e q⟩
/-- own lists of some slots are from here on nobody's own -/
def dFz (p : Nat → Bool) (G : Sx) : Sx := fun ρ s => G (frz p ρ) s
theorem ss_fz {p : Nat → Bool} (h : SS c S G) : SS c S (dFz p G) := by
  intro st M0 fp σ H ρ s o E r e q
  refine h st M0 _ σ H _ s o E (r.frz p) e ?_
  exact q.trans (r.frz p) FrS.refl (Fresh.sub fun i a => fpF_sub)
theorem ss_fzs {p : Nat → Bool} (h : SSs c B G) : SSs c B (dFz p G) := by
  intro st M0 fp σ H ρ s o E r e q
  refine h st M0 _ σ H _ s o E (r.frz p) e ?_
  exact q.trans (r.frz p) FrS.refl (Fresh.sub fun i a => fpF_sub)

/-! ### what may be stored -/
def xE (f : Ex) : Xx := fun ρ s => (f ρ s).map fun p => (.im p.1, p.2)
def xF (f : Exs) : Xx := fun ρ s => (f ρ s).map fun p => (.ml p.1, p.2)
theorem sx_E (h : SE c e f) : SX c e (xE f) := by
  intro st M0 fp σ H ρ s sl s' Q r e q
  unfold xE at e
  obtain ⟨⟨d, s1⟩, e1, e⟩ := Option.map_eq_some_iff.mp e
  cases e
  refine h st M0 fp σ H ρ s d _ _ r e1 fun v H1 f1 t1 r1 => ?_
  refine q v [] H1 f1 (r.ext f1 t1).nil (fun a ha => by cases ha) ?_
  rw [Mor_nil]
  exact ⟨rfl, r1⟩
theorem sx_F (h : SF c e fs) : SX c e (xF fs) := by
  intro st M0 fp σ H ρ s sl s' Q r e q
  unfold xF at e
  obtain ⟨⟨d, s1⟩, e1, e⟩ := Option.map_eq_some_iff.mp e
  cases e
  refine h st M0 fp σ H ρ s d _ _ r e1 fun p xs H1 f1 t1 hp hx r1 => ?_
  refine q (.ref p) [p] H1 f1 (r.more f1 t1 (fun a ha => by rw [List.mem_singleton.mp ha]; exact hp) fun a ha => by rw [List.mem_singleton.mp ha]; exact ⟨_, hx⟩) (fun a ha => by rw [List.mem_singleton.mp ha]; exact hp) ?_
  exact ⟨p, xs, rfl, rfl, hx, r1.less fun a z => (Mof.mor.mp z).imp id fun z => List.mem_singleton.mp z⟩
def xNil : Xxs := fun _ s => some ([], s)
def xCons (f : Xx) (fs : Xxs) : Xxs := fun ρ s => (f ρ s).bind fun p => (fs ρ p.2).map fun q => (p.1 :: q.1, q.2)
theorem sx_nil : SXs c [] xNil := by
  intro st M0 fp σ H ρ s sl s' Q r e q
  cases e
  refine ⟨_, fun X hX => pa_nil, q [] [] H FrE.refl ?_ (fun a ha => by cases ha) .nil⟩
  show Rel (Mor M0 []) fp st σ H ρ s
  exact r.nil
theorem SlsOk.move {st : Option (Addr × Addr)} {H H' : Hp} {M M' : Addr → Prop} (hl : ∀ a xs, H a = some (.lst xs) → ¬ M a → H' a = some (.lst xs) ∧ ¬ M' a) (ht : ∀ a xs, H a = some (.tup xs) → H' a = some (.tup xs))
    {vs : List V} {ls : List (List Addr)} {sls : List Sl} (h : SlsOk st H M vs ls sls) (hb : ∀ b ∈ ls.flatten, ∀ o, H b = some o → H' b = some o) : SlsOk st H' M' vs ls sls := by
  induction h with
  | nil => exact .nil
  | cons h1 h2 h3 ih =>
    rw [List.flatten_cons] at hb
    exact .cons (h1.move hl ht fun b hm => hb b (List.mem_append_left _ hm)) h2 (ih fun b hm => hb b (List.mem_append_right _ hm))
theorem sx_cons (h1 : SX c e fx) (h2 : SXs c es fxs) (hs : ∀ env, starEach (e :: es) env = (false, eval e env) :: starEach es env := by intro _; rfl) : SXs c (e :: es) (xCons fx fxs) := by
  intro st M0 fp σ H ρ s sls s' Q r e q
  unfold xCons at e
  obtain ⟨⟨sl1, s1⟩, e1, e⟩ := Option.bind_eq_some_iff.mp e
  obtain ⟨⟨sl2, s2⟩, e2, e⟩ := Option.map_eq_some_iff.mp e
  cases e
  refine ⟨tCons (wE c _) (wA c es), fun X hX => pa_cons (pe_w hX) (pa_w hX) (hs _), ?_⟩
  refine h1 st M0 fp σ H ρ s sl1 s1 _ r e1 fun v l H1 f1 r1 n1 k1 => ?_
  refine h2 st (Mor M0 l) fp σ H1 ρ s1 sl2 _ _ r1 e2 fun vs ls H2 f2 r2 n2 k2 => ?_
  have em : Mor (Mor M0 l) ls.flatten = Mor M0 (l :: ls).flatten := by
    funext a
    unfold Mor
    rw [List.flatten_cons, List.mem_append, or_assoc]
  rw [em] at r2 k2
  have dl : ∀ a ∈ l, ∃ o, H1 a = some o := fun a ha => by rcases k1.dom ha with ⟨_, z⟩ | ⟨_, z⟩ | ⟨_, _, z⟩ <;> exact ⟨_, z⟩
  refine q (v :: vs) (l :: ls) H2 (f1.trans f2) r2 (fun a ha => ?_) (.cons ?_ (fun a ha hb => ?_) k2)
  · rw [List.flatten_cons] at ha
    rcases List.mem_append.mp ha with ha | ha
    · exact n1 a ha
    · have z := n2 a ha
      cases e : H a with
      | none => rfl
      | some o =>
        by_cases n : NotSt st a
        · rw [f1 a o e n] at z; cases z
        · exfalso
          refine n fun sa sc q => ?_
          obtain ⟨_, _, _, h4, h5⟩ := r1.sto sa sc q
          exact ⟨fun y => (by rw [y, h4] at z; cases z), fun y => (by rw [y, h5] at z; cases z)⟩
  · refine k1.move (fun a xs e n => ⟨f2 _ _ e (r1.notSt fun z => n (.inl z)), fun z => ?_⟩) (fun a xs e => f2 _ _ e (r1.sto.notStTup e)) fun b hb o e => f2 b o e ?_
    · rw [← em] at z
      rcases Mof.mor.mp z with z | z
      · exact n z
      · rw [n2 a z] at e; cases e
    · intro sa sc q'
      obtain ⟨_, _, _, h4, h5⟩ := r.sto sa sc q'
      exact ⟨fun y => (by rw [← y, n1 b hb] at h4; cases h4), fun y => (by rw [← y, n1 b hb] at h5; cases h5)⟩
  · obtain ⟨o, z⟩ := dl a ha
    rw [n2 a hb] at z; cases z

/-! ### stores to names -/
def locB (sc : Scope) (x : Str) : Bool := match sc.names.lookup x with
  | some .local => true
  | some .cell => true
  | _ => false
theorem loc_of {sc : Scope} {x : Str} (h : locB sc x = true) : Loc sc x := by
  unfold locB at h
  split at h
  · rename_i e; exact .inl e
  · rename_i e; exact .inr e
  · cases h
def stB (c : Cfg) (x : Str) : Bool := c.fnb x || (match c.sc.names.lookup x with
  | some .local => true
  | _ => false)
theorem stB_of {X : Cx} (hX : In c X) {x : Str} (h : stB c x = true) : X.fn x = true ∨ X.env.scope.names.lookup x = some .local := by
  unfold stB at h
  rcases Bool.or_eq_true_iff.mp h with h | h
  · exact .inl (hX.fn x h)
  · refine .inr ?_
    rw [hX.sc]
    split at h
    · rename_i e; exact e
    · cases h
def dAsg (i : Nat) (f : Xx) : Sx := fun ρ s => (f ρ s).bind fun p => if i < ρ.length then some (.nx (ρ.set i (some p.1)) p.2) else none
theorem SX.to (h : SX c e fx) {i : Nat} {st : Option (Addr × Addr)} {M0 : Addr → Prop} {fp : Nat → List Addr} {σ : Sg} {H : Hp} {ρ : Ev} {s : DS} {o : Out} {E : Ends} (r : Rel M0 fp st σ H ρ s) (e0 : dAsg i fx ρ s = some o) (q : Post st M0 fp H o E) : tAsg (wE c e) (gName i) E σ H := by
  unfold dAsg at e0
  obtain ⟨⟨sl, s1⟩, e1, e0⟩ := Option.bind_eq_some_iff.mp e0
  simp only at e0
  split at e0
  · rename_i hi
    cases e0
    refine h st M0 fp σ H ρ s sl s1 _ r e1 fun v l H1 f1 r1 n1 k1 => ?_
    have t1 : StOk st M0 H1 s1 := fun sa sc z => by
      obtain ⟨h1, h2, h3, h4, h5⟩ := r1.sto sa sc z
      obtain ⟨_, g2, g3, _, _⟩ := r.sto sa sc z
      exact ⟨h1, g2, g3, h4, h5⟩
    refine q (fpSet fp i l) _ H1 f1.toS (fun j a ha => ?_) (r1.store1 hi k1 (fun a ha z => ?_) t1)
    · unfold fpSet at ha
      split at ha
      · exact .inr (n1 a ha)
      · exact .inl ⟨_, ha⟩
    · obtain ⟨o, y⟩ := r.m0 a z
      rw [n1 a ha] at y; cases y
  · cases e0
theorem ss_asg {i : Nat} {x : Str} (hN : c.N[i]? = some x) (hx : locB c.sc x = true) (h : SX c e fx) (hf : stB c x = true) (hs : ∀ env, env.scope = c.sc → env.scope.kind = .function → swapsWith e (some (.Name x pos')) pos.line env = pure false := by intro env h1 h2; first | rfl | (cases env; subst h1; rfl)) : SS c (.Assign [.Name x pos'] e pos) (dAsg i fx) := by
  intro st M0 fp σ H ρ s o E r e0 q
  refine ⟨tAsg (wE c e) (gName i), fun X hX => ⟨fun pins s' σ' H' E' I h' => ?_⟩, h.to r e0 q⟩
  exact (ps_set (by rw [hX.N]; exact hX.nd) (by rw [hX.N]; exact hN) (by rw [hX.sc]; exact loc_of hx) (pe_w hX) (hs _ hX.sc I.ok.kind) (stB_of hX hf)).run pins s' σ' H' E' I h'

/-! ### several names at once -/
def setAll : List Nat → List Sl → Ev → Option Ev
  | [], [], ρ => some ρ
  | i :: is, sl :: sls, ρ => if i < ρ.length ∧ i ∉ is then setAll is sls (ρ.set i (some sl)) else none
  | _, _, _ => none
def putAll : List Nat → List V → Sg → Sg
  | i :: is, v :: vs, σ => putAll is vs (σ.set i (some v))
  | _, _, σ => σ
theorem setAll_len : ∀ {is : List Nat} {sls : List Sl} {ρ ρ' : Ev}, setAll is sls ρ = some ρ' → is.length = sls.length
  | [], [], _, _, h => rfl
  | i :: is, sl :: sls, ρ, ρ', h => by
    unfold setAll at h
    split at h
    · rw [List.length_cons, List.length_cons, setAll_len h]
    · cases h
  | [], _ :: _, _, _, h => by cases h
  | _ :: _, [], _, _, h => by cases h
theorem SlsOk.store {st : Option (Addr × Addr)} {M0 : Addr → Prop} {H : Hp} {s : DS} (t : StOk st M0 H s) : ∀ {is : List Nat} {vs : List V} {ls : List (List Addr)} {sls : List Sl} {fp : Nat → List Addr} {σ : Sg} {ρ ρ' : Ev},
    SlsOk st H (Mof (Mor M0 ls.flatten) fp) vs ls sls → Rel (Mor M0 ls.flatten) fp st σ H ρ s → (∀ a ∈ ls.flatten, ¬ M0 a) → setAll is sls ρ = some ρ' →
    ∃ fp', (∀ i a, a ∈ fp' i → a ∈ fp i ∨ a ∈ ls.flatten) ∧ Rel M0 fp' st (putAll is vs σ) H ρ' s
  | is, _, _, _, fp, σ, ρ, ρ', .nil, r, hn, e => by
    cases is with
    | nil =>
      cases e
      have r' : Rel (Mor M0 []) fp st σ H ρ s := r
      rw [Mor_nil] at r'
      exact ⟨fp, fun i a h => .inl h, r'⟩
    | cons i is => cases e
  | is, _, _, _, fp, σ, ρ, ρ', .cons (v := v) (l := l) (sl := sl) (vs := vs) (ls := ls) (sls := sls) h1 h2 h3, r, hn, e => by
    cases is with
    | nil => cases e
    | cons i is =>
      unfold setAll at e
      split at e
      · rename_i hi
        rw [List.flatten_cons] at r h1 h3 hn
        have t' : StOk st (Mor M0 ls.flatten) H s := fun sa sc q => by
          obtain ⟨g1, g2, g3, g4, g5⟩ := t sa sc q
          exact ⟨g1, .inl g2, .inl g3, g4, g5⟩
        have r1 := Rel.store r hi.1 h1 (fun a ha => ⟨hn a (List.mem_append_left _ ha), h2 a ha⟩) t'
        have h3' : SlsOk st H (Mof (Mor M0 ls.flatten) (fpSet fp i l)) vs ls sls := by
          refine h3.move (fun a xs e n => ⟨e, fun z => n ?_⟩) (fun _ _ q => q) fun _ _ _ q => q
          rcases z with (z | z) | ⟨j, z⟩
          · exact .inl (.inl z)
          · exact .inl (.inr (List.mem_append_right _ z))
          · by_cases e : j = i
            · subst e
              rw [fpSet_self] at z
              exact .inl (.inr (List.mem_append_left _ z))
            · rw [fpSet_ne e] at z
              exact .inr ⟨j, z⟩
        obtain ⟨fp', k1, k2⟩ := SlsOk.store t h3' r1 (fun a ha => hn a (List.mem_append_right _ ha)) e
        refine ⟨fp', fun j a ha => ?_, k2⟩
        rw [List.flatten_cons]
        rcases k1 j a ha with z | z
        · by_cases e : j = i
          · subst e
            rw [fpSet_self] at z
            exact .inr (List.mem_append_left _ z)
          · rw [fpSet_ne e] at z
            exact .inl z
        · exact .inr (List.mem_append_right _ z)
      · cases e
def dPar (is : List Nat) (f : Xxs) : Sx := fun ρ s => (f ρ s).bind fun p => (setAll is p.1 ρ).map fun ρ' => .nx ρ' p.2
theorem SlsOk.length {st : Option (Addr × Addr)} {H : Hp} {M : Addr → Prop} {vs : List V} {ls : List (List Addr)} {sls : List Sl} (h : SlsOk st H M vs ls sls) : vs.length = sls.length := by
  induction h with
  | nil => rfl
  | cons _ _ _ ih => rw [List.length_cons, List.length_cons, ih]
theorem SXs.to (h : SXs c es fxs) {is : List Nat} {st : Option (Addr × Addr)} {M0 : Addr → Prop} {fp : Nat → List Addr} {σ : Sg} {H : Hp} {ρ : Ev} {s : DS} {o : Out} {E : Ends} (r : Rel M0 fp st σ H ρ s) (e0 : dPar is fxs ρ s = some o) (q : Post st M0 fp H o E)
    {Q : List V → Hp → Prop} (hQ : ∀ vs H1, vs.length = is.length → (∀ H2, Same H1 H2 → E.nx (putAll is vs σ) H2) → Q vs H1) : wA c es σ H Q := by
  unfold dPar at e0
  obtain ⟨⟨sls, s1⟩, e1, e0⟩ := Option.bind_eq_some_iff.mp e0
  obtain ⟨ρ', e2, e0⟩ := Option.map_eq_some_iff.mp e0
  cases e0
  refine h st M0 fp σ H ρ s sls s1 _ r e1 fun vs ls H1 f1 r1 n1 k1 => hQ vs H1 ?_ fun H2 sm => ?_
  · rw [setAll_len e2, k1.length]
  · have t1 : StOk st M0 H1 s1 := fun sa sc z => by
      obtain ⟨h1, h2, h3, h4, h5⟩ := r1.sto sa sc z
      obtain ⟨_, g2, g3, _, _⟩ := r.sto sa sc z
      exact ⟨h1, g2, g3, h4, h5⟩
    have k2 : SlsOk st H2 (Mof (Mor M0 ls.flatten) fp) vs ls sls := k1.move (fun a xs e n => ⟨sm _ _ e, n⟩) (fun a xs e => sm _ _ e) fun b hb o e => sm _ _ e
    obtain ⟨fp', g1, g2⟩ := k2.store (t1.same sm) (r1.same sm) (fun a ha z => by obtain ⟨o, y⟩ := r.m0 a z; rw [n1 a ha] at y; cases y) e2
    exact q fp' _ H2 (f1.trans (FrE.same sm)).toS (fun i a ha => (g1 i a ha).elim (fun z => .inl ⟨i, z⟩) fun z => .inr (n1 a z)) g2
section
variable {x y z : Str} {px py pz pt pt2 : Pos} {kt k2 : Nat} {a1 a2 a3 : Expr} {i j l : Nat}
/-- a, b = .., .. : two different plain locals, swapped -/
theorem ss_par2 (hi : c.N[i]? = some x) (hj : c.N[j]? = some y) (hij : i ≠ j) (hx : c.sc.names.lookup x = some .local) (hy : c.sc.names.lookup y = some .local) (h : SXs c [a1, a2] fxs)
    (hw : ∀ env, env.scope = c.sc → env.scope.kind = .function → swappedStores [.Tuple [.Name x px, .Name y py] kt pt] (.Tuple [a1, a2] k2 pt2) env = pure (some [x, y])) : SS c (.Assign [.Tuple [.Name x px, .Name y py] kt pt] (.Tuple [a1, a2] k2 pt2) pos) (dPar [i, j] fxs) := by
  intro st M0 fp σ H ρ s o E r e0 q
  refine ⟨tPar i j (wA c [a1, a2]), fun X hX => ⟨fun pins s' σ' H' E' I h' => ?_⟩, ?_⟩
  · exact (ps_par (X := X) (pos := pos) hX.calm (by rw [hX.N]; exact hX.nd) (by rw [hX.N]; exact hi) (by rw [hX.N]; exact hj) hij (by rw [hX.sc]; exact hx) (by rw [hX.sc]; exact hy) (pa_w hX) (hw X.env hX.sc I.ok.kind)).run pins s' σ' H' E' I h'
  · refine h.to r e0 q fun vs H1 hl k => ?_
    match vs, hl with
    | [v, w], _ => exact ⟨v, w, rfl, k H1 (Same.refl H1)⟩
theorem ss_par3 (hi : c.N[i]? = some x) (hj : c.N[j]? = some y) (hl : c.N[l]? = some z) (hij : i ≠ j) (hil : i ≠ l) (hjl : j ≠ l) (hx : c.sc.names.lookup x = some .local) (hy : c.sc.names.lookup y = some .local) (hz : c.sc.names.lookup z = some .local) (h : SXs c [a1, a2, a3] fxs)
    (hw : ∀ env, env.scope = c.sc → env.scope.kind = .function → swappedStores [.Tuple [.Name x px, .Name y py, .Name z pz] kt pt] (.Tuple [a1, a2, a3] k2 pt2) env = pure (some [x, y, z])) : SS c (.Assign [.Tuple [.Name x px, .Name y py, .Name z pz] kt pt] (.Tuple [a1, a2, a3] k2 pt2) pos) (dPar [i, j, l] fxs) := by
  intro st M0 fp σ H ρ s o E r e0 q
  refine ⟨tPar3 i j l (wA c [a1, a2, a3]), fun X hX => ⟨fun pins s' σ' H' E' I h' => ?_⟩, ?_⟩
  · exact (ps_par3 (X := X) (pos := pos) hX.calm (by rw [hX.N]; exact hX.nd) (by rw [hX.N]; exact hi) (by rw [hX.N]; exact hj) (by rw [hX.N]; exact hl) hij hil hjl (by rw [hX.sc]; exact hx) (by rw [hX.sc]; exact hy) (by rw [hX.sc]; exact hz) (pa_w hX) (hw X.env hX.sc I.ok.kind)).run pins s' σ' H' E' I h'
  · refine h.to r e0 q fun vs H1 hl k => ?_
    match vs, hl with
    | [v, w, u], _ => exact ⟨v, w, u, rfl, k H1 (Same.refl H1)⟩
end
end
end GF
/-! GF4: targets, branches, loops, stores into lists and dicts -/
namespace GF
open PySem PySem.Spec PyProof.Rows L2

section
variable {M0 : Addr → Prop} {fp fp' : Nat → List Addr} {st : Option (Addr × Addr)} {σ σ' : Sg} {H H' : Hp} {ρ ρ' : Ev} {s s' : DS}
theorem Rel.keepS (r : Rel M0 fp st σ H ρ s) (f : FrS st fp H H') (g : Fresh fp fp' H) : (∀ a xs, H a = some (.lst xs) → ¬ Mof M0 fp a → H' a = some (.lst xs) ∧ ¬ Mof M0 fp' a) ∧ ∀ a xs, H a = some (.tup xs) → H' a = some (.tup xs) := by
  refine ⟨fun a xs e n => ⟨f _ _ e (r.notSt fun z => n (.inl z)) fun i z => n (.inr ⟨i, z⟩), fun z => ?_⟩, fun a xs e => f _ _ e (r.sto.notStTup e) fun i z => ?_⟩
  · rcases z with z | ⟨i, z⟩
    · exact n (.inl z)
    · rcases g i a z with ⟨j, q⟩ | q
      · exact n (.inr ⟨j, q⟩)
      · rw [q] at e; cases e
  · rcases r.own z with ⟨_, q⟩ | ⟨_, q⟩ | ⟨_, _, q⟩ <;> (rw [q] at e; cases e)
theorem Rel.rpS (r : Rel M0 fp st σ H ρ s) (f : FrS st fp H H') (g : Fresh fp fp' H) {v : V} {d : D} (h : Rp H (Mof M0 fp) v d) : Rp H' (Mof M0 fp') v d := Rp.move (r.keepS f g).1 (r.keepS f g).2 _ _ h
theorem Rel.rpsS (r : Rel M0 fp st σ H ρ s) (f : FrS st fp H H') (g : Fresh fp fp' H) {v : List V} {d : List D} (h : Rps H (Mof M0 fp) v d) : Rps H' (Mof M0 fp') v d := Rps.move (r.keepS f g).1 (r.keepS f g).2 _ _ h
end

/-! ### targets that are names -/
abbrev Hx := D → Ev → Option Ev
abbrev Hxs := List D → Ev → Option Ev
def SG (c : Cfg) (tg : Expr) (is : List Nat) (h : Hx) : Prop := ∀ (st : Option (Addr × Addr)) (M0 : Addr → Prop) (fp : Nat → List Addr) (σ : Sg) (H : Hp) (ρ : Ev) (s : DS) (v : V) (d : D) (ρ' : Ev) (Q : Sg → Hp → Prop), Rel M0 fp st σ H ρ s → Rp H (Mof M0 fp) v d → h d ρ = some ρ' →
  (∀ fp' σ', (∀ i a, a ∈ fp' i → a ∈ fp i) → (∀ j, j ∉ is → fp' j = fp j) → (∀ j, j ∉ is → σ'[j]? = σ[j]?) → σ'.length = σ.length → Rel M0 fp' st σ' H ρ' s → Q σ' H) → wG c tg v σ H Q
def SGs (c : Cfg) (tg : List Expr) (is : List Nat) (h : Hxs) : Prop := ∀ (st : Option (Addr × Addr)) (M0 : Addr → Prop) (fp : Nat → List Addr) (σ : Sg) (H : Hp) (ρ : Ev) (s : DS) (v : List V) (d : List D) (ρ' : Ev) (Q : Sg → Hp → Prop), Rel M0 fp st σ H ρ s → Rps H (Mof M0 fp) v d → h d ρ = some ρ' →
  (∀ fp' σ', (∀ i a, a ∈ fp' i → a ∈ fp i) → (∀ j, j ∉ is → fp' j = fp j) → (∀ j, j ∉ is → σ'[j]? = σ[j]?) → σ'.length = σ.length → Rel M0 fp' st σ' H ρ' s → Q σ' H) → wGs c tg v σ H Q
def hN (i : Nat) : Hx := fun d ρ => if i < ρ.length then some (ρ.set i (some (.im d))) else none
def hNil : Hxs := fun ds ρ => match ds with
  | [] => some ρ
  | _ => none
def hCons (h : Hx) (hs : Hxs) : Hxs := fun ds ρ => match ds with
  | d :: r => (h d ρ).bind fun ρ' => hs r ρ'
  | [] => none
def hT (hs : Hxs) : Hx := fun d ρ => match d with
  | .tuple ds => hs ds ρ
  | _ => none
section
variable {c : Cfg} {e a b : Expr} {es : List Expr} {f g : Ex} {fs : Exs} {ft : Tx} {fx : Xx} {S : Stmt} {B B' : List Stmt} {G G' : Sx} {pos pos' tpos : Pos} {is js : List Nat} {h : Hx} {hs : Hxs} {i : Nat} {x : Str}
theorem sg_name (hi : c.N[i]? = some x) (hx : locB c.sc x = true) (hf : stB c x = true) : SG c (.Name x pos) [i] (hN i) := by
  intro st M0 fp σ H ρ s v d ρ' Q r rp e q
  unfold hN at e
  split at e
  · rename_i hl
    cases e
    refine ⟨gName i, fun X hX => pg_name (by rw [hX.N]; exact hX.nd) (by rw [hX.N]; exact hi) (by rw [hX.sc]; exact loc_of hx) (stB_of hX hf), ?_⟩
    exact q _ _ (fun j a => fpSet_nil_sub) (fun j hj => fpSet_ne fun z => hj (by rw [z]; exact List.mem_cons_self)) (fun j hj => List.getElem?_set_ne fun z => hj (by rw [z]; exact List.mem_cons_self)) (List.length_set ..) (r.storeD hl rp)
  · cases e
theorem sg_nil : SGs c [] [] hNil := by
  intro st M0 fp σ H ρ s v d ρ' Q r rp e q
  unfold hNil at e
  split at e
  · cases e
    cases rp
    exact ⟨gNil, fun X hX => pgs_nil, rfl, q fp σ (fun _ _ z => z) (fun _ _ => rfl) (fun _ _ => rfl) rfl r⟩
  · cases e
theorem sg_cons (h1 : SG c e is h) (h2 : SGs c es js hs) (ha : ∀ env, (assignEach (e :: es) env).map (·.2) = assign e env :: (assignEach es env).map (·.2) := by intro _; rfl) : SGs c (e :: es) (is ++ js) (hCons h hs) := by
  intro st M0 fp σ H ρ s v d ρ' Q r rp e q
  unfold hCons at e
  split at e
  · rename_i d1 dr
    obtain ⟨ρ1, e1, e⟩ := Option.bind_eq_some_iff.mp e
    cases rp with
    | cons r1 r2 =>
      refine ⟨gCons (wG c _) (wGs c es), fun X hX => pgs_cons (pg_w hX) (pgs_w hX) (ha _), _, _, rfl, ?_⟩
      refine h1 st M0 fp σ H ρ s _ _ ρ1 _ r r1 e1 fun fp1 σ1 s1 m1 k1 l1 g1 => ?_
      refine h2 st M0 fp1 σ1 H ρ1 s _ _ ρ' _ g1 (r2.less fun a z => z.imp id fun ⟨i, hi⟩ => ⟨i, s1 i a hi⟩) e fun fp2 σ2 s2 m2 k2 l2 g2 => ?_
      refine q fp2 σ2 (fun i a z => s1 i a (s2 i a z)) (fun j hj => by rw [List.mem_append] at hj; rw [m2 j fun z => hj (.inr z), m1 j fun z => hj (.inl z)]) (fun j hj => ?_) (l2.trans l1) g2
      rw [List.mem_append] at hj
      rw [k2 j fun z => hj (.inr z), k1 j fun z => hj (.inl z)]
  · cases e
theorem sg_tup {k : Nat} (h : SGs c es is hs) (hn : ∀ env, (assignEach es env).length = es.length := by intro _; rfl) (hst : ∀ env, (assignEach es env).findIdx? (·.1) = none := by intro _; rfl) (hl : ∀ ds ρ ρ', hs ds ρ = some ρ' → ds.length = es.length) : SG c (.Tuple es k pos) is (hT hs) := by
  intro st M0 fp σ H ρ s v d ρ' Q r rp e q
  unfold hT at e
  split at e
  · rename_i ds
    cases rp with
    | @tup a xs _ h1 h2 =>
      refine ⟨gTup c.K es.length (wGs c es), fun X hX => (by rw [← hX.K]; exact pg_tup hX.calm (pgs_w hX) (hn _) (hst _)), a, xs, rfl, SqT.of h1, by rw [h2.length]; exact hl _ _ _ e, ?_⟩
      exact h st M0 fp σ H ρ s xs ds ρ' Q r h2 e q
  · cases e
theorem hlen_nil : ∀ ds ρ ρ', hNil ds ρ = some ρ' → ds.length = ([] : List Expr).length := fun ds ρ ρ' e => by
  unfold hNil at e
  split at e
  · rfl
  · cases e
theorem hlen_cons (hl : ∀ ds ρ ρ', hs ds ρ = some ρ' → ds.length = es.length) : ∀ ds ρ ρ', hCons h hs ds ρ = some ρ' → ds.length = (e :: es).length := fun ds ρ ρ' q => by
  unfold hCons at q
  split at q
  · obtain ⟨ρ1, e1, q⟩ := Option.bind_eq_some_iff.mp q
    rw [List.length_cons, List.length_cons, hl _ _ _ q]
  · cases q
/-- target = value -/
def dAsgG (h : Hx) (f : Ex) : Sx := fun ρ s => (f ρ s).bind fun p => (h p.1 ρ).map fun ρ' => .nx ρ' p.2
theorem ss_asgG {tg : Expr} (he : SE c e f) (hg : SG c tg is h) (hs : ∀ env, swapsWithSole [tg] e pos.line env = pure false := by intro _; rfl) (hw : ∀ env, swappedStores [tg] e env = pure none := by intro _; rfl)
    (h1 : ∀ env, (assignEach [tg] env).map (·.2) = [assign tg env] := by intro _; rfl) : SS c (.Assign [tg] e pos) (dAsgG h f) := by
  intro st M0 fp σ H ρ s o E r e0 q
  unfold dAsgG at e0
  obtain ⟨⟨d, s1⟩, e1, e0⟩ := Option.bind_eq_some_iff.mp e0
  obtain ⟨ρ', e2, e0⟩ := Option.map_eq_some_iff.mp e0
  cases e0
  refine ⟨tAsg (wE c e) (wG c tg), fun X hX => ps_asg (pe_w hX) (pg_w hX) (hs _) (hw _) (h1 _), ?_⟩
  refine he st M0 fp σ H ρ s d s1 _ r e1 fun v H1 f1 t1 r1 => ?_
  exact hg st M0 fp σ H1 ρ s1 v d ρ' _ (r.ext f1 t1) r1 e2 fun fp' σ' k1 _ k2 k3 r' => q fp' σ' H1 f1.toS (Fresh.sub k1) r'
/-! several names from a written tuple that is made -/
def gNames : List Nat → TGs
  | [] => gNil
  | i :: is => gCons (gName i) (gNames is)
def SN (c : Cfg) (tgs : List Expr) (is : List Nat) : Prop := ∀ X, In c X → PGs X tgs (gNames is)
theorem sn_nil : SN c [] [] := fun X hX => pgs_nil
theorem sn_cons (hi : c.N[i]? = some x) (hx : locB c.sc x = true) (hf : stB c x = true) (h : SN c es is) (ha : ∀ env, (assignEach (.Name x pos :: es) env).map (·.2) = assign (.Name x pos) env :: (assignEach es env).map (·.2) := by intro _; rfl) : SN c (.Name x pos :: es) (i :: is) := fun X hX =>
  pgs_cons (pg_name (by rw [hX.N]; exact hX.nd) (by rw [hX.N]; exact hi) (by rw [hX.sc]; exact loc_of hx) (stB_of hX hf)) (h X hX) (ha _)
theorem gNames_of : ∀ {is : List Nat} {vs : List V} {σ : Sg} {H : Hp} {Q : Sg → Hp → Prop}, vs.length = is.length → Q (putAll is vs σ) H → gNames is vs σ H Q
  | [], [], _, _, _, _, h => ⟨rfl, h⟩
  | i :: is, v :: vs, _, _, _, hl, h => ⟨v, vs, rfl, gNames_of (by simpa using hl) h⟩
  | [], _ :: _, _, _, _, hl, _ => by cases hl
  | _ :: _, [], _, _, _, hl, _ => by cases hl
theorem ss_parG {tgs : List Expr} {fxs : Xxs} {kt k2 : Nat} {pt pt2 : Pos} (hn : SN c tgs is) (h : SXs c es fxs) (hl : is.length ≤ 1000 := by decide) (hlt : tgs.length = is.length := by rfl) (hs : ∀ env, swapsWithSole [.Tuple tgs kt pt] (.Tuple es k2 pt2) pos.line env = pure false := by intro _; rfl)
    (hw : ∀ env, env.scope = c.sc → env.scope.kind = .function → swappedStores [.Tuple tgs kt pt] (.Tuple es k2 pt2) env = pure none) (h1 : ∀ env, (assignEach [.Tuple tgs kt pt] env).map (·.2) = [assign (.Tuple tgs kt pt) env] := by intro _; rfl)
    (hna : ∀ env, (assignEach tgs env).length = tgs.length := by intro _; rfl) (hst : ∀ env, (assignEach tgs env).findIdx? (·.1) = none := by intro _; rfl) : SS c (.Assign [.Tuple tgs kt pt] (.Tuple es k2 pt2) pos) (dPar is fxs) := by
  intro st M0 fp σ H ρ s o E r e0 q
  refine ⟨tAsg (tTup (wA c es)) (gTup c.K tgs.length (gNames is)), fun X hX => ⟨fun pins s' σ' H' E' I h' => ?_⟩, ?_⟩
  · exact (ps_asg (pe_tup (pa_w hX)) (by rw [← hX.K]; exact pg_tup hX.calm (hn X hX) (hna _) (hst _)) (hs _) (hw _ hX.sc I.ok.kind) (h1 _)).run pins s' σ' H' E' I h'
  · refine h.to r e0 q fun vs H1 hv k => ⟨?_, fun p hp => ⟨p, vs, rfl, SqT.of upd_same, by rw [hv, hlt], gNames_of hv (k _ (Same.upd hp))⟩⟩
    rw [sizeLine_eq]; omega

/-! ### branches -/
def dIf (t : Tx) (G G' : Sx) : Sx := fun ρ s => (t ρ s).bind fun p => if p.1 = true then G ρ p.2 else G' ρ p.2
theorem ss_if (hc : ST c a ft) (h1 : SSs c B G) (h2 : SSs c B' G') : SS c (.If a B B' pos) (dIf ft G G') := by
  intro st M0 fp σ H ρ s o E r e0 q
  unfold dIf at e0
  obtain ⟨⟨b, s1⟩, e1, e0⟩ := Option.bind_eq_some_iff.mp e0
  refine ⟨tIfS (wT c a) (wSs c B) (wSs c B'), fun X hX => ps_if (pt_w hX) (pss_w hX) (pss_w hX), ?_⟩
  refine hc st M0 fp σ H ρ s b s1 _ r e1 fun H1 f1 t1 => ?_
  have r1 := r.ext f1 t1
  have q1 := q.trans r1 f1.toS Fresh.refl
  cases b with
  | true => exact h1 st M0 fp σ H1 ρ s1 o E r1 e0 q1
  | false => exact h2 st M0 fp σ H1 ρ s1 o E r1 e0 q1

/-! ### return, dropped values -/
def dRet (f : Ex) : Sx := fun ρ s => (f (frzA ρ) s).map fun p => .rt p.1 p.2
theorem ss_ret (he : SE c e f) : SS c (.Return (some e) pos) (dRet f) := by
  intro st M0 fp σ H ρ s o E r e0 q
  unfold dRet at e0
  obtain ⟨⟨d, s1⟩, e1, e0⟩ := Option.map_eq_some_iff.mp e0
  cases e0
  refine ⟨tRet (wE c e), fun X hX => ps_ret (pe_w hX), ?_⟩
  exact he st M0 _ σ H _ s d s1 _ (r.frz _) e1 fun v H1 f1 t1 r1 => q v H1 f1.toS t1 (r1.less fun a z => .inl z)
def dRetN : Sx := fun ρ s => some (.rt .none s)
theorem ss_retN : SS c (.Return none pos) dRetN := by
  intro st M0 fp σ H ρ s o E r e0 q
  cases e0
  exact ⟨tRetN, fun X hX => ps_retN, q _ H FrS.refl r.sto .non⟩
def dDrop (f : Ex) : Sx := fun ρ s => (f ρ s).map fun p => .nx ρ p.2
theorem ss_drop (he : SE c e f) (hs : ∀ env, swapsWith e none pos.line env = pure false := by intro _; rfl) : SS c (.Expr e pos) (dDrop f) := by
  intro st M0 fp σ H ρ s o E r e0 q
  unfold dDrop at e0
  obtain ⟨⟨d, s1⟩, e1, e0⟩ := Option.map_eq_some_iff.mp e0
  cases e0
  refine ⟨tDrop (wE c e), fun X hX => ps_expr (pe_w hX) (hs _), ?_⟩
  exact he st M0 fp σ H ρ s d s1 _ r e1 fun v H1 f1 t1 r1 => q fp σ H1 f1.toS Fresh.refl (r.ext f1 t1)
theorem ss_pass : SS c (.Pass pos) dSkip := by
  intro st M0 fp σ H ρ s o E r e0 q
  cases e0
  exact ⟨tNext, fun X hX => ps_pass, q fp σ H FrS.refl Fresh.refl r⟩
def dBrk : Sx := fun ρ s => some (.bk ρ s)
def dCnt : Sx := fun ρ s => some (.ct ρ s)
theorem ss_brk : SS c (.Break pos) dBrk := by
  intro st M0 fp σ H ρ s o E r e0 q
  cases e0
  exact ⟨tBreak, fun X hX => ps_break, q fp σ H FrS.refl Fresh.refl r⟩
theorem ss_cnt : SS c (.Continue pos) dCnt := by
  intro st M0 fp σ H ρ s o E r e0 q
  cases e0
  exact ⟨tCont, fun X hX => ps_continue, q fp σ H FrS.refl Fresh.refl r⟩

/-! ### loops -/
def dWhile : Nat → Tx → Sx → Sx
  | 0, _, _ => fun _ _ => none
  | n + 1, t, G => fun ρ s => (t ρ s).bind fun p => if p.1 = true then (G ρ p.2).bind fun o => match o with
      | .nx ρ' s' => dWhile n t G ρ' s'
      | .ct ρ' s' => dWhile n t G ρ' s'
      | .bk ρ' s' => some (.nx ρ' s')
      | .rt d s' => some (.rt d s')
    else some (.nx ρ p.2)
theorem ss_while {n : Nat} (hc : ST c a ft) (hb : SSs c B G) : SS c (.While a B [] pos) (dWhile n ft G) := by
  intro st M0 fp σ H ρ s o E r e0 q
  refine ⟨tWhile (wT c a) (wSs c B), fun X hX => ps_while (by rw [hX.xe]; exact PassesOwn.never) (pt_w hX) (pss_w hX), ?_⟩
  refine ⟨fun m σ1 H1 => ∃ fp1 ρ1 s1, Rel M0 fp1 st σ1 H1 ρ1 s1 ∧ dWhile m ft G ρ1 s1 = some o ∧ Post st M0 fp1 H1 o E, ⟨n, fp, ρ, s, r, e0, q⟩, ?_⟩
  rintro m σ1 H1 ⟨fp1, ρ1, s1, r1, e1, q1⟩
  cases m with
  | zero => cases e1
  | succ m =>
    unfold dWhile at e1
    obtain ⟨⟨b, s2⟩, e2, e1⟩ := Option.bind_eq_some_iff.mp e1
    refine hc st M0 fp1 σ1 H1 ρ1 s1 b s2 _ r1 e2 fun H2 f2 t2 => ?_
    have r2 := r1.ext f2 t2
    have q2 := q1.trans r2 f2.toS Fresh.refl
    cases b with
    | true =>
      rw [if_pos rfl] at e1 ⊢
      obtain ⟨o3, e3, e1⟩ := Option.bind_eq_some_iff.mp e1
      refine ⟨fun σ' H' => ∃ fp1 ρ1 s1, Rel M0 fp1 st σ' H' ρ1 s1 ∧ dWhile m ft G ρ1 s1 = some o ∧ Post st M0 fp1 H' o E, fun σ' H' w => ⟨m, Nat.lt_succ_self m, w⟩, ?_⟩
      refine hb st M0 fp1 σ1 H2 ρ1 s2 o3 _ r2 e3 ?_
      cases o3 with
      | nx ρ3 s3 => exact fun fp3 σ3 H3 f3 g3 r3 => ⟨fp3, ρ3, s3, r3, e1, q2.trans r3 f3 g3⟩
      | ct ρ3 s3 => exact fun fp3 σ3 H3 f3 g3 r3 => ⟨fp3, ρ3, s3, r3, e1, q2.trans r3 f3 g3⟩
      | bk ρ3 s3 => cases e1; exact q2
      | rt d s3 => cases e1; exact q2
    | false =>
      rw [if_neg Bool.false_ne_true] at e1 ⊢
      cases e1
      exact q2 fp1 σ1 H2 FrS.refl Fresh.refl r2

/-- what is walked -/
def LaterI (H0 : Hp) (M : Addr → Prop) (H : Hp) : Prop := (∀ a xs, H0 a = some (.lst xs) → ¬ M a → H a = some (.lst xs)) ∧ ∀ a xs, H0 a = some (.tup xs) → H a = some (.tup xs)
def ItOk (J : It) (H0 : Hp) (M : Addr → Prop) (ds : List D) : Prop := ∀ (H : Hp), LaterI H0 M H → ∀ i : Nat, (∀ d, ds[i]? = some d → J.go i H ∧ ∀ x H', J.yld i H x H' → Same H H' ∧ ∀ M' : Addr → Prop, (∀ a xs, H0 a = some (.lst xs) → ¬ M a → ¬ M' a) → Rp H' M' x d) ∧ (ds.length = i → J.stop i H)
def SI (c : Cfg) (tg e : Expr) (f : Exs) : Prop := ∀ (st : Option (Addr × Addr)) (M0 : Addr → Prop) (fp : Nat → List Addr) (σ : Sg) (H : Hp) (ρ : Ev) (s : DS) (ds : List D) (s' : DS) (R : It → Hp → Prop), Rel M0 fp st σ H ρ s → f ρ s = some (ds, s') →
  (∀ J H', FrE st H H' → StOk st M0 H' s' → ItOk J H' (Mof M0 fp) ds → R J H') → wI c tg e σ H R
def dForL : List D → Hx → Sx → Sx
  | [], _, _ => fun ρ s => some (.nx ρ s)
  | d :: r, h, G => fun ρ s => (h d ρ).bind fun ρ1 => (G ρ1 s).bind fun o => match o with
      | .nx ρ' s' => dForL r h G ρ' s'
      | .ct ρ' s' => dForL r h G ρ' s'
      | .bk ρ' s' => some (.nx ρ' s')
      | .rt d s' => some (.rt d s')
def dFor (fs : Exs) (h : Hx) (G : Sx) : Sx := fun ρ s => (fs ρ s).bind fun p => dForL p.1 h G ρ p.2
theorem Rel.later {M0 : Addr → Prop} {fp fp' : Nat → List Addr} {st : Option (Addr × Addr)} {σ : Sg} {H H' : Hp} {ρ : Ev} {s : DS} (r : Rel M0 fp st σ H ρ s) (f : FrS st fp H H') (g : Fresh fp fp' H) : LaterI H (Mof M0 fp) H' := ⟨fun a xs e n => ((r.keepS f g).1 a xs e n).1, fun a xs e => (r.keepS f g).2 a xs e⟩
theorem ss_for {tg : Expr} (hi : SI c tg e fs) (hg : SG c tg is h) (hb : SSs c B G) (hs : ∀ env, ∀ x, foldedSetIterable e env x = pure x := by intro _ _; rfl) : SS c (.For tg e B [] pos) (dFor fs h G) := by
  intro st M0 fp σ H ρ s o E r e0 q
  unfold dFor at e0
  obtain ⟨⟨ds, s1⟩, e1, e0⟩ := Option.bind_eq_some_iff.mp e0
  refine ⟨tFor (wI c tg e) (wG c tg) (wSs c B), fun X hX => ps_for (by rw [hX.xe]; exact PassesOwn.never) hX.calm (pi_w hX) (pg_w hX) (pss_w hX) (hs _), ?_⟩
  refine hi st M0 fp σ H ρ s ds s1 _ r e1 fun J H1 f1 t1 it => ?_
  have r1 := r.ext f1 t1
  refine ⟨fun i m σ2 H2 => i ≤ ds.length ∧ m = ds.length - i ∧ ∃ fp2 ρ2 s2, Rel M0 fp2 st σ2 H2 ρ2 s2 ∧ FrS st fp H1 H2 ∧ Fresh fp fp2 H1 ∧ dForL (ds.drop i) h G ρ2 s2 = some o ∧ Post st M0 fp2 H2 o E,
    ⟨ds.length, Nat.zero_le _, rfl, fp, ρ, s1, r1, FrS.refl, Fresh.refl, e0, q.trans r1 f1.toS Fresh.refl⟩, ?_⟩
  rintro i m σ2 H2 ⟨hi, rfl, fp2, ρ2, s2, r2, f2, g2, e2, q2⟩
  obtain ⟨it1, it2⟩ := it H2 (r1.later f2 g2) i
  by_cases hlt : i < ds.length
  · have hd : ds[i]? = some ds[i] := List.getElem?_eq_getElem hlt
    obtain ⟨go, yl⟩ := it1 _ hd
    rw [List.drop_eq_getElem_cons hlt] at e2
    unfold dForL at e2
    obtain ⟨ρ3, e3, e2⟩ := Option.bind_eq_some_iff.mp e2
    obtain ⟨o4, e4, e2⟩ := Option.bind_eq_some_iff.mp e2
    refine .inr ⟨go, fun σ' H' => ∃ fp2 ρ2 s2, Rel M0 fp2 st σ' H' ρ2 s2 ∧ FrS st fp H1 H' ∧ Fresh fp fp2 H1 ∧ dForL (ds.drop (i + 1)) h G ρ2 s2 = some o ∧ Post st M0 fp2 H' o E, fun σ' H' w => ⟨ds.length - (i + 1), by omega, by omega, rfl, w⟩, fun x H3 y => ?_⟩
    obtain ⟨sm, rp⟩ := yl x H3 y
    have r3 := r2.same sm
    have f3 := f2.trans g2 (FrE.same (st := st) sm).toS
    have q3 := q2.trans r3 (FrE.same (st := st) sm).toS Fresh.refl
    refine hg st M0 fp2 σ2 H3 ρ2 s2 x ds[i] ρ3 _ r3 (rp _ fun a xs e n z => ?_) e3 fun fp3 σ3 k1 _ k2 k3 r4 => ?_
    · rcases z with z | ⟨j, z⟩
      · exact n (.inl z)
      · rcases g2 j a z with ⟨j', z⟩ | z
        · exact n (.inr ⟨j', z⟩)
        · rw [z] at e; cases e
    · have g3 : Fresh fp fp3 H1 := fun j a z => g2 j a (k1 j a z)
      have q4 : Post st M0 fp3 H3 o E := q3.trans r4 FrS.refl (Fresh.sub k1)
      refine hb st M0 fp3 σ3 H3 ρ3 s2 o4 _ r4 e4 ?_
      cases o4 with
      | nx ρ5 s5 => exact fun fp5 σ5 H5 f5 g5 r5 => ⟨fp5, ρ5, s5, r5, f3.trans g3 f5, Fresh.trans r3.sto f3 g3 g5, e2, q4.trans r5 f5 g5⟩
      | ct ρ5 s5 => exact fun fp5 σ5 H5 f5 g5 r5 => ⟨fp5, ρ5, s5, r5, f3.trans g3 f5, Fresh.trans r3.sto f3 g3 g5, e2, q4.trans r5 f5 g5⟩
      | bk ρ5 s5 => cases e2; exact q4
      | rt d s5 => cases e2; exact q4
  · have he : i = ds.length := by omega
    subst he
    rw [List.drop_length] at e2
    cases e2
    exact .inl ⟨it2 rfl, q2 fp2 σ2 H2 FrS.refl Fresh.refl r2⟩

/-! ### what is walked: lists, tuples, ranges -/
theorem ItOk.list {K : PySem.W.Frag} {H0 : Hp} {M : Addr → Prop} {a : Addr} {xs : List V} {ds : List D} (n : ¬ M a) (h1 : H0 a = some (.lst xs)) (h2 : Rps H0 M xs ds) : ItOk (Itl K a) H0 M ds := by
  intro H hl i
  have h3 := hl.1 a xs h1 n
  refine ⟨fun d e => ?_, fun e => ⟨xs, SqL.of h3, by rw [h2.length]; exact Nat.le_of_eq e⟩⟩
  obtain ⟨v, e1, e2⟩ := h2.get e
  refine ⟨⟨xs, v, SqL.of h3, e1⟩, fun x H' y => ?_⟩
  obtain ⟨rfl, y⟩ := y
  have ev : x = v := Option.some.inj ((y xs (SqL.of h3)).symm.trans e1)
  subst ev
  exact ⟨Same.refl _, fun M' hm => Rp.move (fun b ys q k => ⟨hl.1 b ys q k, hm b ys q k⟩) (fun b ys q => hl.2 b ys q) _ _ e2⟩
theorem ItOk.tup {K : PySem.W.Frag} {H0 : Hp} {M : Addr → Prop} {a : Addr} {xs : List V} {ds : List D} (h1 : H0 a = some (.tup xs)) (h2 : Rps H0 M xs ds) : ItOk (Itt K a) H0 M ds := by
  intro H hl i
  have h3 := hl.2 a xs h1
  refine ⟨fun d e => ?_, fun e => ⟨xs, SqT.of h3, by rw [h2.length]; exact Nat.le_of_eq e⟩⟩
  obtain ⟨v, e1, e2⟩ := h2.get e
  refine ⟨⟨xs, v, SqT.of h3, e1⟩, fun x H' y => ?_⟩
  obtain ⟨rfl, y⟩ := y
  have ev : x = v := Option.some.inj ((y xs (SqT.of h3)).symm.trans e1)
  subst ev
  exact ⟨Same.refl _, fun M' hm => Rp.move (fun b ys q k => ⟨hl.1 b ys q k, hm b ys q k⟩) (fun b ys q => hl.2 b ys q) _ _ e2⟩
def rangeI (lo hi : Int) : List Int := (List.range (hi - lo).toNat).map fun (k : Nat) => lo + (k : Int)
theorem ItOk.range {H0 : Hp} {M : Addr → Prop} (lo : Int) (n : Nat) : ItOk (Itr lo n) H0 M (((List.range n).map fun (k : Nat) => lo + (k : Int)).map PyData.int) := by
  intro H hl i
  refine ⟨fun d e => ?_, fun e => (show n ≤ i from Nat.le_of_eq (by simpa using e))⟩
  rw [List.getElem?_map, List.getElem?_map] at e
  by_cases h : i < n
  · rw [List.getElem?_range h] at e
    cases e
    refine ⟨h, fun x H' y => ?_⟩
    obtain ⟨rfl, rfl⟩ := y
    exact ⟨Same.refl _, fun M' hm => .int _⟩
  · rw [List.getElem?_eq_none (by simpa using h)] at e; cases e
def dItems (f : Ex) : Exs := fun ρ s => (f ρ s).bind fun p => match p.1 with
  | .list ds => some (ds, p.2)
  | .tuple ds => some (ds, p.2)
  | _ => none
/-- over the value of an expression: a list or a tuple -/
theorem si_val {tg : Expr} (he : SE c e f) : SI c tg e (dItems f) := by
  intro st M0 fp σ H ρ s ds s' R r e0 q
  unfold dItems at e0
  obtain ⟨⟨d, s1⟩, e1, e0⟩ := Option.bind_eq_some_iff.mp e0
  simp only at e0
  split at e0
  · cases e0
    refine ⟨iList c.K (wE c e), fun X hX => (by rw [← hX.K]; exact pi_list (pe_w hX)), ?_⟩
    refine he st M0 fp σ H ρ s _ _ _ r e1 fun v H1 f1 t1 r1 => ?_
    cases r1 with
    | @lst a xs _ n h1 h2 => exact ⟨a, rfl, ⟨xs, SqL.of h1⟩, q _ H1 f1 t1 (.list n h1 h2)⟩
  · cases e0
    refine ⟨iTup c.K (wE c e), fun X hX => (by rw [← hX.K]; exact pi_tup (pe_w hX)), ?_⟩
    refine he st M0 fp σ H ρ s _ _ _ r e1 fun v H1 f1 t1 r1 => ?_
    cases r1 with
    | @tup a xs _ h1 h2 => exact ⟨a, rfl, ⟨xs, SqT.of h1⟩, q _ H1 f1 t1 (.tup h1 h2)⟩
  · cases e0
def dRng1 (fs : Exs) : Exs := fun ρ s => (fs ρ s).bind fun p => match p.1 with
  | [.int j] => if j.natAbs < 2 ^ 62 then some ((rangeI 0 j).map PyData.int, p.2) else none
  | _ => none
def dRng2 (fs : Exs) : Exs := fun ρ s => (fs ρ s).bind fun p => match p.1 with
  | [.int i, .int j] => if i.natAbs < 2 ^ 62 ∧ j.natAbs < 2 ^ 62 then some ((rangeI i j).map PyData.int, p.2) else none
  | _ => none
theorem si_rng1 {tg : Expr} {p : Pos} (hg : glB c.sc "range" = true) (hm : c.mg "range" = none) (ha : SA c [a] fs) (hs : ∀ env, starEach [a] env = [(false, eval a env)] := by intro _; rfl) : SI c tg (.Call (.Name "range" p) [a] [] pos) (dRng1 fs) := by
  intro st M0 fp σ H ρ s ds s' R r e0 q
  unfold dRng1 at e0
  obtain ⟨⟨d, s1⟩, e1, e0⟩ := Option.bind_eq_some_iff.mp e0
  simp only at e0
  split at e0
  · split at e0
    · rename_i hj
      cases e0
      refine ⟨iRng1 (wA c [a]), fun X hX => pi_range1 (by show X.env.scope.names.lookup _ = _; rw [hX.sc]; exact gl_of hg) (by rw [hX.mg]; exact hm) (pa_w hX) (hs _), ?_⟩
      refine ha st M0 fp σ H ρ s _ _ _ r e1 fun vs H1 f1 t1 r1 => ?_
      rw [r1.int1]
      refine ⟨_, rfl, by omega, by omega, q _ H1 f1 t1 ?_⟩
      have e : ∀ j : Int, rangeI 0 j = (List.range j.toNat).map fun (k : Nat) => (0 : Int) + (k : Int) := fun j => by unfold rangeI; rw [Int.sub_zero]
      rw [e]
      exact ItOk.range _ _
    · cases e0
  · cases e0
theorem si_rng2 {tg : Expr} {p : Pos} (hg : glB c.sc "range" = true) (hm : c.mg "range" = none) (ha : SA c [a, b] fs) (hs : ∀ env, starEach [a, b] env = [(false, eval a env), (false, eval b env)] := by intro _; rfl) (hs2 : ∀ env, starEach [b] env = [(false, eval b env)] := by intro _; rfl) : SI c tg (.Call (.Name "range" p) [a, b] [] pos) (dRng2 fs) := by
  intro st M0 fp σ H ρ s ds s' R r e0 q
  unfold dRng2 at e0
  obtain ⟨⟨d, s1⟩, e1, e0⟩ := Option.bind_eq_some_iff.mp e0
  simp only at e0
  split at e0
  · split at e0
    · rename_i hj
      cases e0
      refine ⟨iRng2 (wA c [a, b]), fun X hX => pi_range2 (by show X.env.scope.names.lookup _ = _; rw [hX.sc]; exact gl_of hg) (by rw [hX.mg]; exact hm) (pa_w hX) (hs _) (hs2 _), ?_⟩
      refine ha st M0 fp σ H ρ s _ _ _ r e1 fun vs H1 f1 t1 r1 => ?_
      rw [r1.int2]
      exact ⟨_, _, rfl, (by omega), q _ H1 f1 t1 (ItOk.range _ _)⟩
    · cases e0
  · cases e0
end
end GF
/-! GF5: stores into lists and dicts, dicts read, comprehensions, defs -/
namespace GF
open PySem PySem.Spec PyProof.Rows L2

theorem Rps.updOwn {H : Hp} {M : Addr → Prop} {a : Addr} {o : HO} {xs : List V} {ds : List D} (ha : M a) (hm : ∀ ys, H a ≠ some (.tup ys)) (h : Rps H M xs ds) : Rps (upd H a o) M xs ds :=
  Rps.move (fun b ys e n => ⟨by rw [upd_ne (show b ≠ a from fun z => n (z ▸ ha))]; exact e, n⟩) (fun b ys e => by rw [upd_ne (show b ≠ a from fun z => hm ys (z ▸ e))]; exact e) _ _ h
theorem Rp.updOwn {H : Hp} {M : Addr → Prop} {a : Addr} {o : HO} {x : V} {d : D} (ha : M a) (hm : ∀ ys, H a ≠ some (.tup ys)) (h : Rp H M x d) : Rp (upd H a o) M x d :=
  Rp.move (fun b ys e n => ⟨by rw [upd_ne (show b ≠ a from fun z => n (z ▸ ha))]; exact e, n⟩) (fun b ys e => by rw [upd_ne (show b ≠ a from fun z => hm ys (z ▸ e))]; exact e) _ _ h

/-! ### dicts as data -/
def getD (kvs : List (Key × D)) (k : Key) : Option D := (kvs.find? fun kv => decide (kv.1 = k)).map (·.2)
def putD (kvs : List (Key × D)) (k : Key) (v : D) : List (Key × D) := if (kvs.any fun kv => decide (kv.1 = k)) = true then kvs.map (fun kv => if kv.1 = k then (kv.1, v) else kv) else kvs ++ [(k, v)]
def keyD : D → Option Key
  | .int i => some (.inl i)
  | .str x => some (.inr x)
  | _ => none
def dKey : Key → D
  | .inl i => .int i
  | .inr x => .str x
theorem keyD_of {H : Hp} {M : Addr → Prop} {v : V} {d : D} {k : Key} (e : keyD d = some k) (r : Rp H M v d) : v = kV k := by
  unfold keyD at e
  split at e
  · cases e; cases r; rfl
  · cases e; cases r; rfl
  · cases e
theorem rp_key {H : Hp} {M : Addr → Prop} (k : Key) : Rp H M (kV k) (dKey k) := by
  cases k with
  | inl i => exact .int i
  | inr x => exact .str x
section
variable {H H' : Hp} {M M' : Addr → Prop}
theorem RpK.nil : RpK H M [] [] := ⟨rfl, .nil⟩
theorem RpK.length {ks : List (Key × V)} {kvs : List (Key × D)} (h : RpK H M ks kvs) : ks.length = kvs.length := by
  have := h.2.length
  simpa using this
theorem RpK.cons_inv {p : Key × V} {ks : List (Key × V)} {q : Key × D} {kvs : List (Key × D)} (h : RpK H M (p :: ks) (q :: kvs)) : p.1 = q.1 ∧ Rp H M p.2 q.2 ∧ RpK H M ks kvs := by
  obtain ⟨h1, h2⟩ := h
  simp only [List.map_cons, List.cons.injEq] at h1
  rw [List.map_cons, List.map_cons] at h2
  cases h2 with
  | cons a b => exact ⟨h1.1, a, h1.2, b⟩
theorem RpK.cons {p : Key × V} {ks : List (Key × V)} {q : Key × D} {kvs : List (Key × D)} (h1 : p.1 = q.1) (h2 : Rp H M p.2 q.2) (h : RpK H M ks kvs) : RpK H M (p :: ks) (q :: kvs) :=
  ⟨by rw [List.map_cons, List.map_cons, h1, h.1], by rw [List.map_cons, List.map_cons]; exact .cons h2 h.2⟩
theorem RpK.get (k : Key) : ∀ {ks : List (Key × V)} {kvs : List (Key × D)}, RpK H M ks kvs → (∀ d, GF.getD kvs k = some d → ∃ v, valV ks k = some v ∧ Rp H M v d) ∧ (GF.getD kvs k = none → valV ks k = none)
  | [], [], h => ⟨fun d e => (by cases e), fun _ => rfl⟩
  | [], _ :: _, h => by have := h.length; simp at this
  | _ :: _, [], h => by have := h.length; simp at this
  | p :: ks, q :: kvs, h => by
    obtain ⟨h1, h2, h3⟩ := h.cons_inv
    obtain ⟨i1, i2⟩ := RpK.get k h3
    unfold GF.getD
    rw [List.find?_cons]
    by_cases e : q.1 = k
    · rw [decide_eq_true e, valV_pos (h1.trans e)]
      exact ⟨fun d z => ⟨p.2, rfl, (by cases z; exact h2)⟩, fun z => (by cases z)⟩
    · rw [decide_eq_false e, valV_neg (fun z => e (h1.symm.trans z))]
      exact ⟨i1, i2⟩
theorem RpK.any (k : Key) : ∀ {ks : List (Key × V)} {kvs : List (Key × D)}, RpK H M ks kvs → (ks.any fun kv => decide (kv.1 = k)) = kvs.any fun kv => decide (kv.1 = k)
  | [], [], h => rfl
  | [], _ :: _, h => by have := h.length; simp at this
  | _ :: _, [], h => by have := h.length; simp at this
  | p :: ks, q :: kvs, h => by
    obtain ⟨h1, h2, h3⟩ := h.cons_inv
    rw [List.any_cons, List.any_cons, RpK.any k h3, h1]
theorem RpK.map (k : Key) {y : V} {d : D} (r : Rp H M y d) : ∀ {ks : List (Key × V)} {kvs : List (Key × D)}, RpK H M ks kvs → RpK H M (ks.map fun kv => if kv.1 = k then (kv.1, y) else kv) (kvs.map fun kv => if kv.1 = k then (kv.1, d) else kv)
  | [], [], h => .nil
  | [], _ :: _, h => by have := h.length; simp at this
  | _ :: _, [], h => by have := h.length; simp at this
  | p :: ks, q :: kvs, h => by
    obtain ⟨h1, h2, h3⟩ := h.cons_inv
    rw [List.map_cons, List.map_cons]
    by_cases e : q.1 = k
    · rw [if_pos e, if_pos (h1.trans e)]
      exact .cons h1 r (RpK.map k r h3)
    · rw [if_neg e, if_neg (fun z => e (h1.symm.trans z))]
      exact .cons h1 h2 (RpK.map k r h3)
theorem RpK.put (k : Key) {y : V} {d : D} (r : Rp H M y d) {ks : List (Key × V)} {kvs : List (Key × D)} (h : RpK H M ks kvs) : RpK H M (putK ks k y) (putD kvs k d) := by
  unfold putK putD
  rw [h.any k]
  split
  · exact RpK.map k r h
  · exact ⟨by rw [List.map_append, List.map_append, h.1]; rfl, by rw [List.map_append, List.map_append]; exact h.2.append (.one r)⟩
theorem RpK.updOwn {a : Addr} {o : HO} {ks : List (Key × V)} {kvs : List (Key × D)} (ha : M a) (hm : ∀ ys, H a ≠ some (.tup ys)) (h : RpK H M ks kvs) : RpK (upd H a o) M ks kvs := ⟨h.1, h.2.updOwn ha hm⟩
end
/-- the dict of a slot -/
def dictOf (ρ : Ev) (i : Nat) : Option (List (Key × D)) := match ρ[i]? with
  | some (some (.md kvs)) => some kvs
  | some (some (.mz kvs)) => some kvs
  | _ => none
theorem Rel.dict {M0 : Addr → Prop} {fp : Nat → List Addr} {st : Option (Addr × Addr)} {σ : Sg} {H : Hp} {ρ : Ev} {s : DS} (r : Rel M0 fp st σ H ρ s) {i : Nat} {kvs : List (Key × D)} (e : dictOf ρ i = some kvs) : ∃ a ks, σ[i]? = some (some (.ref a)) ∧ Rd H a (.dK ks) ∧ RpK H (Mof M0 fp) ks kvs := by
  unfold dictOf at e
  split at e
  · rename_i e0
    cases e
    obtain ⟨v, e1, a, ks, e2, e3, e4, e5⟩ := r.sl i _ e0
    exact ⟨a, ks, by rw [e1, e2], .inl e4, e5⟩
  · rename_i e0
    cases e
    obtain ⟨v, e1, a, ks, o, e2, e3, e4, e5⟩ := r.sl i _ e0
    exact ⟨a, ks, by rw [e1, e2], .inr ⟨o, e4⟩, e5⟩
  · cases e
theorem DGet.rd {H : Hp} {a : Addr} {kvs : List (Key × V)} {k : Key} (e : Rd H a (.dK kvs)) : DGet H a (kV k) (valV kvs k) := .inl ⟨kvs, k, e, rfl, rfl⟩

section
variable {c : Cfg} {e a b e1 e2 : Expr} {es : List Expr} {f g f1 f2 : Ex} {fs : Exs} {ft : Tx} {fx : Xx} {S : Stmt} {B B' : List Stmt} {G G' : Sx} {pos pos' tpos apos cpos : Pos} {is js : List Nat} {h : Hx} {hs : Hxs} {i j : Nat} {x y : Str}
theorem In.hu {X : Cx} (h : In c X) : X.A.units + 1 < cLine := by have := h.units; omega
theorem pe_name {X : Cx} (hX : In c X) (hN : c.N[i]? = some x) (hv : visB c.sc x = true) (hd : (x == ("__debug__" : Str)) = false) (hcd : (x == ("__classdict__" : Str)) = false) : PE X (.Name x pos) (tVar i) :=
  pe_var (by rw [hX.N]; exact hN) (by rw [hX.sc]; exact vis_of hv) hd hcd

/-! ### subscripts of names: a dict or a sequence -/
def dIxN (i : Nat) (f : Ex) : Ex := fun ρ s => match dictOf ρ i with
  | some kvs => (f ρ s).bind fun p => (keyD p.1).bind fun k => (getD kvs k).map fun d => (d, p.2)
  | none => dOp mIx (dVar i) f ρ s
theorem se_ixN (hN : c.N[i]? = some x) (hv : visB c.sc x = true) (hb : SE c b f) (hs : PlainIx b := by exact fun _ _ => rfl) (hs2 : NoSl b := by exact fun _ _ => rfl) (hd : (x == ("__debug__" : Str)) = false := by decide) (hcd : (x == ("__classdict__" : Str)) = false := by decide) : SE c (.Subscript (.Name x pos') b pos) (dIxN i f) := by
  intro st M0 fp σ H ρ s d s' Q r e q
  unfold dIxN at e
  split at e
  · rename_i kvs e0
    obtain ⟨⟨d1, s1⟩, e1, e⟩ := Option.bind_eq_some_iff.mp e
    obtain ⟨k, e2, e⟩ := Option.bind_eq_some_iff.mp e
    obtain ⟨d2, e3, e⟩ := Option.map_eq_some_iff.mp e
    cases e
    obtain ⟨a, ks, g1, g2, g3⟩ := r.dict e0
    refine ⟨tDGet (tVar i) (wE c b), fun X hX => pe_dget hX.hu (pe_name hX hN hv hd hcd) (pe_w hX) hs2, _, g1, ?_⟩
    refine hb st M0 fp σ H ρ s d1 _ _ r e1 fun v H1 f1 t1 r1 => ?_
    obtain ⟨a', ks', g1', g2', g3'⟩ := (r.ext f1 t1).dict e0
    rw [g1] at g1'; cases g1'
    obtain ⟨w, h1, h2⟩ := (g3'.get k).1 _ e3
    refine ⟨a, w, rfl, ?_, q w H1 f1 t1 h2⟩
    rw [keyD_of e2 r1, ← h1]
    exact DGet.rd g2'
  · exact se_ix (se_var hN hv hd hcd) hb hs st M0 fp σ H ρ s d s' Q r e q
/-- k in d, k in xs -/
def dInN (m : D → D → Option D) (neg : Bool) (f : Ex) (i : Nat) : Ex := fun ρ s => match dictOf ρ i with
  | some kvs => (f ρ s).bind fun p => (keyD p.1).map fun k => (.bool (if neg then !(getD kvs k).isSome else (getD kvs k).isSome), p.2)
  | none => dOp m f (dVar i) ρ s
theorem RpK.some {H : Hp} {M : Addr → Prop} {ks : List (Key × V)} {kvs : List (Key × D)} (h : RpK H M ks kvs) (k : Key) : (valV ks k).isSome = (getD kvs k).isSome := by
  cases q : getD kvs k with
  | none => rw [(h.get k).2 q]; rfl
  | some d => obtain ⟨v, e, _⟩ := (h.get k).1 d q; rw [e]; rfl
theorem se_inN (hN : c.N[i]? = some x) (hv : visB c.sc x = true) (ha : SE c a f) (hd : (x == ("__debug__" : Str)) = false := by decide) (hcd : (x == ("__classdict__" : Str)) = false := by decide) (hm : behindInMarks .In (.Name x pos') = false := by rfl) : SE c (.Compare a [.In] [.Name x pos'] pos) (dInN mIn false f i) := by
  intro st M0 fp σ H ρ s d s' Q r e q
  unfold dInN at e
  split at e
  · rename_i kvs e0
    obtain ⟨⟨d1, s1⟩, e1, e⟩ := Option.bind_eq_some_iff.mp e
    obtain ⟨k, e2, e⟩ := Option.map_eq_some_iff.mp e
    cases e
    obtain ⟨a', ks, g1, g2, g3⟩ := r.dict e0
    refine ⟨tDIn (wE c a) (tVar i), fun X hX => pe_cmp (pc_din hX.hu (pe_w hX) (pe_name hX hN hv hd hcd)) hm, ?_⟩
    refine ha st M0 fp σ H ρ s d1 _ _ r e1 fun v H1 f1 t1 r1 => ⟨_, g1, ?_⟩
    obtain ⟨a2, ks', g1', g2', g3'⟩ := (r.ext f1 t1).dict e0
    rw [g1] at g1'; cases g1'
    refine ⟨a', valV ks' k, rfl, ?_, ?_⟩
    · rw [keyD_of e2 r1]; exact DGet.rd g2'
    · rw [g3'.some]; exact q _ H1 f1 t1 (.bl _)
  · exact se_cmp os_in ha (se_var hN hv hd hcd) hm st M0 fp σ H ρ s d s' Q r e q
theorem se_notInN (hN : c.N[i]? = some x) (hv : visB c.sc x = true) (ha : SE c a f) (hd : (x == ("__debug__" : Str)) = false := by decide) (hcd : (x == ("__classdict__" : Str)) = false := by decide) (hm : behindInMarks .NotIn (.Name x pos') = false := by rfl) : SE c (.Compare a [.NotIn] [.Name x pos'] pos) (dInN mNotIn true f i) := by
  intro st M0 fp σ H ρ s d s' Q r e q
  unfold dInN at e
  split at e
  · rename_i kvs e0
    obtain ⟨⟨d1, s1⟩, e1, e⟩ := Option.bind_eq_some_iff.mp e
    obtain ⟨k, e2, e⟩ := Option.map_eq_some_iff.mp e
    cases e
    obtain ⟨a', ks, g1, g2, g3⟩ := r.dict e0
    refine ⟨tDNotIn (wE c a) (tVar i), fun X hX => pe_cmp (pc_dnotin hX.hu (pe_w hX) (pe_name hX hN hv hd hcd)) hm, ?_⟩
    refine ha st M0 fp σ H ρ s d1 _ _ r e1 fun v H1 f1 t1 r1 => ⟨_, g1, ?_⟩
    obtain ⟨a2, ks', g1', g2', g3'⟩ := (r.ext f1 t1).dict e0
    rw [g1] at g1'; cases g1'
    refine ⟨a', valV ks' k, rfl, ?_, ?_⟩
    · rw [keyD_of e2 r1]; exact DGet.rd g2'
    · rw [g3'.some]; exact q _ H1 f1 t1 (.bl _)
  · exact se_cmp os_notIn ha (se_var hN hv hd hcd) hm st M0 fp σ H ρ s d s' Q r e q
theorem st_inN (hN : c.N[i]? = some x) (hv : visB c.sc x = true) (ha : SE c a f) (hd : (x == ("__debug__" : Str)) = false := by decide) (hcd : (x == ("__classdict__" : Str)) = false := by decide) (hm : behindInMarks .In (.Name x pos') = false := by rfl) : ST c (.Compare a [.In] [.Name x pos'] pos) (dTest (dInN mIn false f i)) := by
  intro st M0 fp σ H ρ s bb s' Q r e q
  have e := dTest_some e
  unfold dInN at e
  split at e
  · rename_i kvs e0
    obtain ⟨⟨d1, s1⟩, e1, e⟩ := Option.bind_eq_some_iff.mp e
    obtain ⟨k, e2, e⟩ := Option.map_eq_some_iff.mp e
    cases e
    obtain ⟨a', ks, g1, g2, g3⟩ := r.dict e0
    refine ⟨tB (tDIn (wE c a) (tVar i)), fun X hX => pt_cmp (pc_din hX.hu (pe_w hX) (pe_name hX hN hv hd hcd)) hm, ?_⟩
    refine ha st M0 fp σ H ρ s d1 _ _ r e1 fun v H1 f1 t1 r1 => ⟨_, g1, ?_⟩
    obtain ⟨a2, ks', g1', g2', g3'⟩ := (r.ext f1 t1).dict e0
    rw [g1] at g1'; cases g1'
    refine ⟨a', valV ks' k, rfl, ?_, _, rfl, ?_⟩
    · rw [keyD_of e2 r1]; exact DGet.rd g2'
    · rw [g3'.some]; exact q H1 f1 t1
  · refine st_cmp os_in ha (se_var hN hv hd hcd) hm st M0 fp σ H ρ s bb s' Q r ?_ q
    unfold dTest; rw [e]; rfl
theorem st_notInN (hN : c.N[i]? = some x) (hv : visB c.sc x = true) (ha : SE c a f) (hd : (x == ("__debug__" : Str)) = false := by decide) (hcd : (x == ("__classdict__" : Str)) = false := by decide) (hm : behindInMarks .NotIn (.Name x pos') = false := by rfl) : ST c (.Compare a [.NotIn] [.Name x pos'] pos) (dTest (dInN mNotIn true f i)) := by
  intro st M0 fp σ H ρ s bb s' Q r e q
  have e := dTest_some e
  unfold dInN at e
  split at e
  · rename_i kvs e0
    obtain ⟨⟨d1, s1⟩, e1, e⟩ := Option.bind_eq_some_iff.mp e
    obtain ⟨k, e2, e⟩ := Option.map_eq_some_iff.mp e
    cases e
    obtain ⟨a', ks, g1, g2, g3⟩ := r.dict e0
    refine ⟨tB (tDNotIn (wE c a) (tVar i)), fun X hX => pt_cmp (pc_dnotin hX.hu (pe_w hX) (pe_name hX hN hv hd hcd)) hm, ?_⟩
    refine ha st M0 fp σ H ρ s d1 _ _ r e1 fun v H1 f1 t1 r1 => ⟨_, g1, ?_⟩
    obtain ⟨a2, ks', g1', g2', g3'⟩ := (r.ext f1 t1).dict e0
    rw [g1] at g1'; cases g1'
    refine ⟨a', valV ks' k, rfl, ?_, _, rfl, ?_⟩
    · rw [keyD_of e2 r1]; exact DGet.rd g2'
    · rw [g3'.some]; exact q H1 f1 t1
  · refine st_cmp os_notIn ha (se_var hN hv hd hcd) hm st M0 fp σ H ρ s bb s' Q r ?_ q
    unfold dTest; rw [e]; rfl
/-- d.get(k, x) -/
def dGet2 (i : Nat) (f g : Ex) : Ex := fun ρ s => (dictOf ρ i).bind fun kvs => (f ρ s).bind fun p => (g ρ p.2).bind fun q => (keyD p.1).map fun k => ((getD kvs k).getD q.1, q.2)
theorem se_get2 {e f' : Expr} (hN : c.N[i]? = some x) (hv : visB c.sc x = true) (ha : SE c e f) (hb : SE c f' g) (hd : (x == ("__debug__" : Str)) = false := by decide) (hcd : (x == ("__classdict__" : Str)) = false := by decide)
    (m : ∀ X : Cx, M2 X (.Name x pos') "get" apos e f' cpos := by exact fun _ => ⟨rfl, rfl, rfl, rfl⟩) : SE c (.Call (.Attribute (.Name x pos') "get" apos) [e, f'] [] cpos) (dGet2 i f g) := by
  intro st M0 fp σ H ρ s d s' Q r e0 q
  unfold dGet2 at e0
  obtain ⟨kvs, e1, e0⟩ := Option.bind_eq_some_iff.mp e0
  obtain ⟨⟨d1, s1⟩, e2, e0⟩ := Option.bind_eq_some_iff.mp e0
  obtain ⟨⟨d2, s2⟩, e3, e0⟩ := Option.bind_eq_some_iff.mp e0
  obtain ⟨k, e4, e0⟩ := Option.map_eq_some_iff.mp e0
  cases e0
  obtain ⟨a', ks, g1, g2, g3⟩ := r.dict e1
  refine ⟨tDGet2 (tVar i) (wE c e) (wE c f'), fun X hX => pe_dget2 hX.hu (pe_name hX hN hv hd hcd) (pe_w hX) (pe_w hX) (m X), _, g1, a', rfl, .inl ⟨ks, g2⟩, ?_⟩
  refine two ha hb r e2 e3 fun v u H2 f2 t2 r1 r2 => ?_
  obtain ⟨a2, ks', g1', g2', g3'⟩ := (r.ext f2 t2).dict e1
  rw [g1] at g1'; cases g1'
  refine ⟨valV ks' k, by rw [keyD_of e4 r1]; exact DGet.rd g2', ?_⟩
  cases q' : getD kvs k with
  | none =>
    rw [(g3'.get k).2 q']
    rw [q'] at q
    exact q u H2 f2 t2 r2
  | some d =>
    obtain ⟨w, h1, h2⟩ := (g3'.get k).1 d q'
    rw [h1]
    rw [q'] at q
    exact q w H2 f2 t2 h2
/-- {} -/
def xD0 : Xx := fun _ s => some (.md [], s)
theorem sx_d0 : SX c (.Dict [] [] pos) xD0 := by
  intro st M0 fp σ H ρ s sl s' Q r e0 q
  cases e0
  refine ⟨tDNewK, fun X hX => pe_dnewK, fun p hp => ?_⟩
  have sm : Same H (upd H p (.dK [])) := Same.upd hp
  refine q (.ref p) [p] _ (FrE.same sm) (r.more (FrE.same sm) (r.sto.same sm) (fun a ha => by rw [List.mem_singleton.mp ha]; exact hp) fun a ha => by rw [List.mem_singleton.mp ha]; exact ⟨_, upd_same⟩) (fun a ha => by rw [List.mem_singleton.mp ha]; exact hp) ?_
  exact ⟨p, [], rfl, rfl, upd_same, .nil⟩

/-! ### stores into what a slot owns -/
theorem FrS.write {st : Option (Addr × Addr)} {fp : Nat → List Addr} {H H1 : Hp} {a : Addr} {o : HO} {i : Nat} (f : FrS st fp H H1) (ha : a ∈ fp i) : FrS st fp H (upd H1 a o) := fun b ob e n m => by
  rw [upd_ne (show b ≠ a from fun z => m i (z ▸ ha))]
  exact f b ob e n m
theorem Fresh.set {fp : Nat → List Addr} {H : Hp} {i : Nat} {l : List Addr} (h : ∀ a ∈ l, a ∈ fp i) : Fresh fp (fpSet fp i l) H := fun j a z => by
  unfold fpSet at z
  split at z
  · exact .inl ⟨i, h a z⟩
  · exact .inl ⟨j, z⟩
/-- x.append(e) -/
def dApp (i : Nat) (f : Ex) : Sx := fun ρ s => (f ρ s).bind fun p => match ρ[i]? with
  | some (some (.ml ds)) => if ds.length < 16777216 then some (.nx (ρ.set i (some (.ml (ds ++ [p.1])))) p.2) else none
  | _ => none
theorem Rel.ml {M0 : Addr → Prop} {fp : Nat → List Addr} {st : Option (Addr × Addr)} {σ : Sg} {H : Hp} {ρ : Ev} {s : DS} (r : Rel M0 fp st σ H ρ s) {i : Nat} {ds : List D} (e : ρ[i]? = some (some (.ml ds))) : ∃ a xs, σ[i]? = some (some (.ref a)) ∧ fp i = [a] ∧ H a = some (.lst xs) ∧ Rps H (Mof M0 fp) xs ds := by
  obtain ⟨v, e1, a, xs, e2, e3, e4, e5⟩ := r.sl i _ e
  exact ⟨a, xs, by rw [e1, e2], e3, e4, e5⟩
theorem Rel.md {M0 : Addr → Prop} {fp : Nat → List Addr} {st : Option (Addr × Addr)} {σ : Sg} {H : Hp} {ρ : Ev} {s : DS} (r : Rel M0 fp st σ H ρ s) {i : Nat} {ds : List (Key × D)} (e : ρ[i]? = some (some (.md ds))) : ∃ a xs, σ[i]? = some (some (.ref a)) ∧ fp i = [a] ∧ H a = some (.dK xs) ∧ RpK H (Mof M0 fp) xs ds := by
  obtain ⟨v, e1, a, xs, e2, e3, e4, e5⟩ := r.sl i _ e
  exact ⟨a, xs, by rw [e1, e2], e3, e4, e5⟩
theorem Rel.wrL {M0 : Addr → Prop} {fp : Nat → List Addr} {st : Option (Addr × Addr)} {σ : Sg} {H : Hp} {ρ : Ev} {s : DS} (r : Rel M0 fp st σ H ρ s) {i : Nat} {ds es : List D} {a : Addr} {xs ys : List V} (e : ρ[i]? = some (some (.ml ds))) (e1 : σ[i]? = some (some (.ref a))) (e2 : fp i = [a]) (e3 : H a = some (.lst xs)) (e4 : Rps H (Mof M0 fp) ys es) : Rel M0 (fpSet fp i [a]) st σ (upd H a (.lst ys)) (ρ.set i (some (.ml es))) s := by
  have ha : a ∈ fp i := by rw [e2]; exact List.mem_cons_self
  have hm : ∀ zs, H a ≠ some (.tup zs) := fun zs z => by rw [e3] at z; cases z
  exact r.write e ha e1 (fun b hb => by rw [List.mem_singleton.mp hb]; exact ha) hm ⟨a, ys, rfl, rfl, upd_same, e4.updOwn (.inr ⟨i, ha⟩) hm⟩
theorem Rel.wrD {M0 : Addr → Prop} {fp : Nat → List Addr} {st : Option (Addr × Addr)} {σ : Sg} {H : Hp} {ρ : Ev} {s : DS} (r : Rel M0 fp st σ H ρ s) {i : Nat} {ds es : List (Key × D)} {a : Addr} {xs ys : List (Key × V)} (e : ρ[i]? = some (some (.md ds))) (e1 : σ[i]? = some (some (.ref a))) (e2 : fp i = [a]) (e3 : H a = some (.dK xs)) (e4 : RpK H (Mof M0 fp) ys es) : Rel M0 (fpSet fp i [a]) st σ (upd H a (.dK ys)) (ρ.set i (some (.md es))) s := by
  have ha : a ∈ fp i := by rw [e2]; exact List.mem_cons_self
  have hm : ∀ zs, H a ≠ some (.tup zs) := fun zs z => by rw [e3] at z; cases z
  exact r.write e ha e1 (fun b hb => by rw [List.mem_singleton.mp hb]; exact ha) hm ⟨a, ys, rfl, rfl, upd_same, e4.updOwn (.inr ⟨i, ha⟩) hm⟩
theorem sub1 {fp : Nat → List Addr} {i : Nat} {a : Addr} (e2 : fp i = [a]) : ∀ b ∈ [a], b ∈ fp i := fun b hb => by rw [e2]; exact hb
theorem ss_app (hN : c.N[i]? = some x) (hv : visB c.sc x = true) (ha : SE c e f) (hd : (x == ("__debug__" : Str)) = false := by decide) (hcd : (x == ("__classdict__" : Str)) = false := by decide)
    (hbase : ∀ env, attributeBase (.Name x pos') "append" env (eval (.Name x pos') env) = eval (.Name x pos') env := by intro _; rfl)
    (hfew : ∀ env, ((backTo cpos (starEach [e] env)).all (fun x => !x.1) && (backToKw cpos (keywordEach [] env)).all (fun x => x.1.isSome) && decide (([e] : List Expr).length + ([] : List Keyword).length + (if ([] : List Keyword).isEmpty then 0 else 1) < 30)) = true := by intro _; rfl)
    (hline : (apos.endLine == cpos.line) = true := by rfl) (hs : ∀ env, starEach [e] env = (false, eval e env) :: starEach [] env := by intro _; rfl) (hpl : ∀ env, (backTo cpos (starEach [] env)).any (·.1) = false := by intro _; rfl)
    (hsw : ∀ env, swapsWith (.Call (.Attribute (.Name x pos') "append" apos) [e] [] cpos) none pos.line env = pure false := by intro _; rfl) : SS c (.Expr (.Call (.Attribute (.Name x pos') "append" apos) [e] [] cpos) pos) (dApp i f) := by
  intro st M0 fp σ H ρ s o E r e0 q
  unfold dApp at e0
  obtain ⟨⟨d, s1⟩, g1, e0⟩ := Option.bind_eq_some_iff.mp e0
  simp only at e0
  split at e0
  · rename_i ds g2
    split at e0
    · rename_i hl
      cases e0
      obtain ⟨a, xs, k1, k2, k3, k4⟩ := r.ml g2
      refine ⟨tDrop (tBM c.K "list" rAppend (tVar i) (tCons (wE c e) tNil)), fun X hX => ps_expr (by rw [← hX.K]; exact pe_bm PySem.F.plainAttrs_list PySem.F.slot_list_append PySem.F.type_list_append mt_append (pe_name hX hN hv hd hcd) (pa_cons (pe_w hX) pa_nil (hs _)) (hbase _) (hfew _) hline (hs _) (hpl _)) (hsw _), ?_⟩
      refine ⟨_, k1, .inl ⟨rfl, xs, SqL.of k3⟩, ?_⟩
      refine ha st M0 fp σ H ρ s d s1 _ r g1 fun v H1 f1 t1 r1 => ?_
      have r' := r.ext f1 t1
      obtain ⟨a', xs', k1', k2', k3', k4'⟩ := r'.ml g2
      rw [k1] at k1'; cases k1'
      refine ⟨a, xs', v, rfl, rfl, k3', by rw [k4'.length, sizeLine_eq]; exact hl, ?_⟩
      have ha' : a ∈ fp i := by rw [k2]; exact List.mem_cons_self
      exact q _ σ _ (f1.toS.write ha') (Fresh.set (sub1 k2)) (r'.wrL g2 k1 k2' k3' (k4'.append (.one r1)))
    · cases e0
  · cases e0
/-- x[k] = v: a list or a dict of a slot -/
def putIx (ρ : Ev) (i : Nat) (k v : D) (s : DS) : Option Out := match ρ[i]? with
  | some (some (.ml ds)) => match k with
    | .int z => (ixN ds.length z).map fun n => .nx (ρ.set i (some (.ml (ds.set n v)))) s
    | _ => none
  | some (some (.md kvs)) => (keyD k).bind fun kk => if kvs.length < 16777216 then some (.nx (ρ.set i (some (.md (putD kvs kk v)))) s) else none
  | _ => none
def dSetN (i : Nat) (f1 f2 : Ex) : Sx := fun ρ s => (f2 ρ s).bind fun p => (f1 ρ p.2).bind fun q => putIx ρ i q.1 p.1 q.2
theorem ss_setN (hN : c.N[i]? = some x) (hv : visB c.sc x = true) (h1 : SE c e1 f1) (h2 : SE c e2 f2) (hd : (x == ("__debug__" : Str)) = false := by decide) (hcd : (x == ("__classdict__" : Str)) = false := by decide)
    (hs : ∀ env, swapsWithSole [.Subscript (.Name x pos') e1 tpos] e2 pos.line env = pure false := by intro _; rfl) (hw : ∀ env, swappedStores [.Subscript (.Name x pos') e1 tpos] e2 env = pure none := by intro _; rfl)
    (hh : ∀ env, (assignEach [.Subscript (.Name x pos') e1 tpos] env).map (·.2) = [assign (.Subscript (.Name x pos') e1 tpos) env] := by intro _; rfl)
    (hasg : ∀ env v, assign (.Subscript (.Name x pos') e1 tpos) env v = (do
      let ov ← holding [v] (eval (.Name x pos') env)
      let iv ← holding [v, ov] (eval e1 env)
      standAt tpos
      holding [v, ov, iv] (setItem ov iv v)
      release [v, ov, iv] []) := by intro _ _; rfl)
    (hs2 : ∀ env, swapsWith e2 (some (.Subscript (.Name x pos') e1 tpos)) pos.line env = pure false := by intro _; rfl) : SS c (.Assign [.Subscript (.Name x pos') e1 tpos] e2 pos) (dSetN i f1 f2) := by
  intro st M0 fp σ H ρ s o E r e0 q
  unfold dSetN at e0
  obtain ⟨⟨d, s1⟩, g1, e0⟩ := Option.bind_eq_some_iff.mp e0
  obtain ⟨⟨k, s2⟩, g2, e0⟩ := Option.bind_eq_some_iff.mp e0
  simp only at e0
  unfold putIx at e0
  split at e0
  · rename_i ds g3
    split at e0
    · obtain ⟨n, g4, e0⟩ := Option.map_eq_some_iff.mp e0
      cases e0
      refine ⟨tAsg (wE c e2) (gSub (tVar i) (wE c e1) rSetL), fun X hX => ps_asg (pe_w hX) (pg_sub (pe_name hX hN hv hd hcd) (pe_w hX) set_list (hasg _)) (hs _) (hw _) (hh _), ?_⟩
      refine h2 st M0 fp σ H ρ s d s1 _ r g1 fun v H1 f1 t1 r1 => ?_
      have r' := r.ext f1 t1
      obtain ⟨a, xs, k1, k2, k3, k4⟩ := r'.ml g3
      refine ⟨_, k1, ?_⟩
      refine h1 st M0 fp σ H1 ρ s1 _ s2 _ r' g2 fun u H2 f2 t2 r2 => ?_
      cases r2
      have r'' := r'.ext f2 t2
      obtain ⟨a', xs', k1', k2', k3', k4'⟩ := r''.ml g3
      rw [k1] at k1'; cases k1'
      refine ⟨a, xs', _, n, rfl, rfl, k3', by rw [k4'.length]; exact g4, ?_⟩
      have ha' : a ∈ fp i := by rw [k2]; exact List.mem_cons_self
      exact q _ σ _ ((f1.trans f2).toS.write ha') (Fresh.set (sub1 k2)) (r''.wrL g3 k1 k2' k3' (k4'.set (r'.rp f2 r1) n))
    · cases e0
  · rename_i kvs g3
    obtain ⟨kk, g4, e0⟩ := Option.bind_eq_some_iff.mp e0
    split at e0
    · rename_i hl
      cases e0
      refine ⟨sDPut (tVar i) (wE c e1) (wE c e2), fun X hX => ps_dput hX.hu (pe_name hX hN hv hd hcd) (pe_w hX) (pe_w hX) (hs2 _), ?_⟩
      refine h2 st M0 fp σ H ρ s d s1 _ r g1 fun v H1 f1 t1 r1 => ?_
      have r' := r.ext f1 t1
      obtain ⟨a, xs, k1, k2, k3, k4⟩ := r'.md g3
      refine ⟨_, k1, ?_⟩
      refine h1 st M0 fp σ H1 ρ s1 _ s2 _ r' g2 fun u H2 f2 t2 r2 => ?_
      have r'' := r'.ext f2 t2
      obtain ⟨a', xs', k1', k2', k3', k4'⟩ := r''.md g3
      rw [k1] at k1'; cases k1'
      refine ⟨a, upd H2 a (.dK (putK xs' kk v)), rfl, ?_, ?_⟩
      · rw [keyD_of g4 r2]
        exact DPut.k k3' (by rw [k4'.length, sizeLine_eq]; exact hl)
      · have ha' : a ∈ fp i := by rw [k2]; exact List.mem_cons_self
        exact q _ σ _ ((f1.trans f2).toS.write ha') (Fresh.set (sub1 k2)) (r''.wrD g3 k1 k2' k3' (k4'.put kk (r'.rp f2 r1)))
    · cases e0
  · cases e0
end
end GF
/-! GF6: op= stores, pop, comprehensions, defs -/
namespace GF
open PySem PySem.Spec PyProof.Rows L2

def rGetL (K : PySem.W.Frag) : V → V → Hp → VK → Prop := fun x y H Q => ∃ p xs i v, x = .ref p ∧ y = .int i ∧ SqL K H p xs ∧ atI xs i = some v ∧ Q v H
theorem pget_list {X : Cx} : PGet X (rGetL X.K) := by
  intro pins s σ H x y v u Q I rx ry h
  obtain ⟨p, xs, i, z, rfl, rfl, hq, he, q⟩ := h
  cases rx
  obtain ⟨t, rfl⟩ := ry
  obtain ⟨its, r, pl, hz⟩ := I.list hq
  obtain ⟨j, h1, h2, h3, h4, h5⟩ := atI_get he
  obtain ⟨w, ew, rw'⟩ := r.get h2
  have hl := r.length
  have hn := line63
  have fin : EP X pins σ Q w s := ⟨z, H, I, rw', q⟩
  by_cases h0 : 0 ≤ i
  · have hj : i.toNat = j := by
      rw [seqIndex_of h0 h5] at h1
      exact Option.some.inj h1
    exact wpAny_getItem_list pl.isList h0 (by omega) (by rw [hj]; simpa using ew) fin
  · have hj : (i + (its.toArray.size : Int)).toNat = j := by
      rw [seqIndex_neg (by omega) h4] at h1
      rw [List.size_toArray, ← hl]
      exact Option.some.inj h1
    exact wpAny_getItem_list_neg pl.isList (by omega) (by rw [List.size_toArray] <;> omega) (by omega) (by rw [hj]; simpa using ew) fin
/-- an operator on ints, in place -/
structure AugI (op : Operator) (fop : Int → Int → Int) : Prop where
  ip : ∀ X : Cx, PIp X op (ipI fop)
  ino : ∀ X : Cx, InOp X op fun x y H Q => ∃ i j, x = .int i ∧ y = .int j ∧ Q (.int (fop i j)) H
theorem aug_add : AugI .Add fun i j => i + j := ⟨fun X => ip_add, fun X => in_add⟩
theorem aug_sub : AugI .Sub fun i j => i - j := ⟨fun X => ip_sub, fun X => in_sub⟩
section
variable {c : Cfg} {e a b e1 e2 : Expr} {es : List Expr} {f g f1 f2 : Ex} {fs : Exs} {ft : Tx} {fx : Xx} {S : Stmt} {B B' : List Stmt} {G G' : Sx} {pos pos' tpos apos cpos : Pos} {is js : List Nat} {h : Hx} {hs : Hxs} {i j : Nat} {x y : Str}
def getIx (ρ : Ev) (i : Nat) (k : D) : Option D := match ρ[i]? with
  | some (some (.ml ds)) => match k with
    | .int z => atI ds z
    | _ => none
  | some (some (.md kvs)) => (keyD k).bind fun kk => getD kvs kk
  | _ => none
def augI (fop : Int → Int → Int) : D → D → Option D
  | .int u, .int v => some (.int (fop u v))
  | _, _ => none
theorem augI_some {fop : Int → Int → Int} {a b r : D} (h : augI fop a b = some r) : ∃ u v, a = .int u ∧ b = .int v ∧ r = .int (fop u v) := by
  unfold augI at h
  split at h
  · cases h; exact ⟨_, _, rfl, rfl, rfl⟩
  · cases h
def dAugN (fop : Int → Int → Int) (i : Nat) (f1 f2 : Ex) : Sx := fun ρ s => (f1 ρ s).bind fun p => (getIx ρ i p.1).bind fun old => (f2 ρ p.2).bind fun q => (augI fop old q.1).bind fun z => putIx ρ i p.1 z q.2
theorem ss_augN {op : Operator} {fop : Int → Int → Int} (A : AugI op fop) (hN : c.N[i]? = some x) (hv : visB c.sc x = true) (h1 : SE c e1 f1) (h2 : SE c e2 f2) (hd : (x == ("__debug__" : Str)) = false := by decide) (hcd : (x == ("__classdict__" : Str)) = false := by decide)
    (ha : ∀ ov iv new, augStore e1 ov iv new = (do holding [new, ov, iv] (setItem ov iv new); release [new, ov, iv] []; pure .next) := by intros; rfl) : SS c (.AugAssign (.Subscript (.Name x pos') e1 tpos) op e2 pos) (dAugN fop i f1 f2) := by
  intro st M0 fp σ H ρ s o E r e0 q
  unfold dAugN at e0
  obtain ⟨⟨k, s1⟩, g1, e0⟩ := Option.bind_eq_some_iff.mp e0
  obtain ⟨old, g2, e0⟩ := Option.bind_eq_some_iff.mp e0
  obtain ⟨⟨v, s2⟩, g3, e0⟩ := Option.bind_eq_some_iff.mp e0
  obtain ⟨z0, g7, e0⟩ := Option.bind_eq_some_iff.mp e0
  obtain ⟨u, v', rfl, hv', rfl⟩ := augI_some g7
  replace hv' : v = .int v' := hv'
  subst hv'
  replace g2 : getIx ρ i k = some (.int u) := g2
  replace g3 : f2 ρ s1 = some (.int v', s2) := g3
  replace e0 : putIx ρ i k (.int (fop u v')) s2 = some o := e0
  unfold getIx at g2
  unfold putIx at e0
  split at g2
  · rename_i ds g4
    rw [g4] at e0
    split at g2
    · simp only at e0
      obtain ⟨n, g5, e0⟩ := Option.map_eq_some_iff.mp e0
      cases e0
      refine ⟨tAugS (tVar i) (wE c e1) (wE c e2) (rGetL c.K) (ipI fop) rSetL, fun X hX => ps_augS (pe_name hX hN hv hd hcd) (pe_w hX) (by rw [← hX.K]; exact pget_list) (pe_w hX) (A.ip X) set_list ha, ?_⟩
      obtain ⟨a, xs, k1, k2, k3, k4⟩ := r.ml g4
      refine ⟨_, k1, ?_⟩
      refine h1 st M0 fp σ H ρ s _ s1 _ r g1 fun w H1 q1 t1 r1 => ?_
      cases r1
      have r' := r.ext q1 t1
      obtain ⟨a1, xs1, k1', k2', k3', k4'⟩ := r'.ml g4
      rw [k1] at k1'; cases k1'
      obtain ⟨w1, c1, c2⟩ := k4'.atI g2
      cases c2
      refine ⟨a, xs1, _, _, rfl, rfl, SqL.of k3', c1, ?_⟩
      refine h2 st M0 fp σ H1 ρ s1 _ _ _ r' g3 fun w2 H2 q2 t2 r2 => ?_
      cases r2
      have r'' := r'.ext q2 t2
      obtain ⟨a2, xs2, l1, l2, l3, l4⟩ := r''.ml g4
      rw [k1] at l1; cases l1
      refine ⟨_, _, rfl, rfl, a, xs2, _, n, rfl, rfl, l3, by rw [l4.length]; exact g5, ?_⟩
      have ha' : a ∈ fp i := by rw [k2]; exact List.mem_cons_self
      exact q _ σ _ ((q1.trans q2).toS.write ha') (Fresh.set (sub1 k2)) (r''.wrL g4 k1 l2 l3 (l4.set (.int _) n))
    · cases g2
  · rename_i kvs g4
    rw [g4] at e0
    simp only at e0
    obtain ⟨kk, g5, g2⟩ := Option.bind_eq_some_iff.mp g2
    obtain ⟨kk', g6, e0⟩ := Option.bind_eq_some_iff.mp e0
    rw [g5] at g6; cases g6
    split at e0
    · rename_i hl
      cases e0
      refine ⟨_, fun X hX => ps_daug hX.hu (pe_name hX hN hv hd hcd) (pe_w hX) (pe_w hX) (A.ino X) ha, ?_⟩
      obtain ⟨a, xs, k1, k2, k3, k4⟩ := r.md g4
      refine ⟨_, k1, ?_⟩
      refine h1 st M0 fp σ H ρ s _ s1 _ r g1 fun w H1 q1 t1 r1 => ?_
      have r' := r.ext q1 t1
      obtain ⟨a1, xs1, k1', k2', k3', k4'⟩ := r'.md g4
      rw [k1] at k1'; cases k1'
      obtain ⟨w1, c1, c2⟩ := (k4'.get kk).1 _ g2
      cases c2
      refine ⟨a, _, rfl, by rw [keyD_of g5 r1, ← c1]; exact DGet.k k3', ?_⟩
      refine h2 st M0 fp σ H1 ρ s1 _ _ _ r' g3 fun w2 H2 q2 t2 r2 => ?_
      cases r2
      have r'' := r'.ext q2 t2
      obtain ⟨a2, xs2, l1, l2, l3, l4⟩ := r''.md g4
      rw [k1] at l1; cases l1
      refine ⟨_, _, rfl, rfl, upd H2 a (.dK (putK xs2 kk (.int (fop u v')))), ?_, ?_⟩
      · rw [keyD_of g5 r1]
        exact DPut.k l3 (by rw [l4.length, sizeLine_eq]; exact hl)
      · have ha' : a ∈ fp i := by rw [k2]; exact List.mem_cons_self
        exact q _ σ _ ((q1.trans q2).toS.write ha') (Fresh.set (sub1 k2)) (r''.wrD g4 k1 l2 l3 (l4.put kk (.int _)))
    · cases e0
  · cases g2
/-- x += e, ints -/
def dAug (fop : Int → Int → Int) (i : Nat) (f : Ex) : Sx := fun ρ s => match ρ[i]? with
  | some (some (.im (.int u))) => (f ρ s).bind fun p => match p.1 with
    | .int v => some (.nx (ρ.set i (some (.im (.int (fop u v))))) p.2)
    | _ => none
  | _ => none
theorem ss_aug {op : Operator} {fop : Int → Int → Int} (A : AugI op fop) (hN : c.N[i]? = some x) (hx : locB c.sc x = true) (hf : stB c x = true) (h1 : SE c e f) : SS c (.AugAssign (.Name x pos') op e pos) (dAug fop i f) := by
  intro st M0 fp σ H ρ s o E r e0 q
  unfold dAug at e0
  split at e0
  · rename_i u g0
    obtain ⟨⟨d, s1⟩, g1, e0⟩ := Option.bind_eq_some_iff.mp e0
    simp only at e0
    split at e0
    · cases e0
      refine ⟨tAug i (wE c e) (ipI fop), fun X hX => ps_aug (by rw [hX.N]; exact hX.nd) (by rw [hX.N]; exact hN) (by rw [hX.sc]; exact loc_of hx) (pe_w hX) (A.ip X) (stB_of hX hf), ?_⟩
      obtain ⟨v, k1, _, k2⟩ := r.sl i _ g0
      cases k2
      refine ⟨_, k1, ?_⟩
      refine h1 st M0 fp σ H ρ s _ _ _ r g1 fun w H1 q1 t1 r1 => ?_
      cases r1
      refine ⟨_, _, rfl, rfl, ?_⟩
      have hi : i < ρ.length := (List.getElem?_eq_some_iff.mp g0).1
      exact q _ _ H1 q1.toS (Fresh.sub fun j a => fpSet_nil_sub) ((r.ext q1 t1).storeD hi (.int _))
    · cases e0
  · cases e0
/-- x = y.pop() -/
def dPopTo (i j : Nat) : Sx := fun ρ s => match ρ[j]? with
  | some (some (.ml ds)) => if i < ρ.length ∧ i ≠ j then (ds.getLast?).map fun d => .nx ((ρ.set j (some (.ml ds.dropLast))).set i (some (.im d))) s else none
  | _ => none
theorem last_get {α : Type} {ds : List α} {d : α} (h : ds.getLast? = some d) : ds[ds.length - 1]? = some d := by rw [← List.getLast?_eq_getElem?]; exact h
theorem ss_popTo (hi : c.N[i]? = some x) (hx : locB c.sc x = true) (hf : stB c x = true) (hj : c.N[j]? = some y) (hv : visB c.sc y = true) {ppos : Pos} (hd : (y == ("__debug__" : Str)) = false := by decide) (hcd : (y == ("__classdict__" : Str)) = false := by decide)
    (hbase : ∀ env, attributeBase (.Name y ppos) "pop" env (eval (.Name y ppos) env) = eval (.Name y ppos) env := by intro _; rfl) (hline : (apos.endLine == cpos.line) = true := by rfl)
    (hs : ∀ env, swapsWith (.Call (.Attribute (.Name y ppos) "pop" apos) [] [] cpos) (some (.Name x pos')) pos.line env = pure false := by intro _; rfl) : SS c (.Assign [.Name x pos'] (.Call (.Attribute (.Name y ppos) "pop" apos) [] [] cpos) pos) (dPopTo i j) := by
  intro st M0 fp σ H ρ s o E r e0 q
  unfold dPopTo at e0
  split at e0
  · rename_i ds g0
    split at e0
    · rename_i hij
      obtain ⟨d, g1, e0⟩ := Option.map_eq_some_iff.mp e0
      cases e0
      obtain ⟨a, xs, k1, k2, k3, k4⟩ := r.ml g0
      refine ⟨tAsg (tBM0 c.K "list" rPop (tVar j)) (gName i), fun X hX => ps_set (by rw [hX.N]; exact hX.nd) (by rw [hX.N]; exact hi) (by rw [hX.sc]; exact loc_of hx) (by rw [← hX.K]; exact pe_bm0 PySem.F.plainAttrs_list PySem.F.slot_list_pop PySem.F.type_list_pop mt_pop (pe_name hX hj hv hd hcd) (hbase _) hline) (hs _) (stB_of hX hf), ?_⟩
      refine ⟨_, k1, .inl ⟨rfl, xs, SqL.of k3⟩, ?_⟩
      obtain ⟨v, c1, c2⟩ := k4.get (last_get g1)
      refine ⟨a, xs, v, rfl, rfl, k3, by rw [k4.length]; exact c1, ?_⟩
      have ha : a ∈ fp j := by rw [k2]; exact List.mem_cons_self
      have r1 := r.wrL g0 k1 k2 k3 k4.dropLast
      have hm : ∀ zs, H a ≠ some (.tup zs) := fun zs z => by rw [k3] at z; cases z
      have c3 : Rp (upd H a (.lst xs.dropLast)) (Mof M0 (fpSet fp j [a])) v d := (c2.updOwn (.inr ⟨j, ha⟩) hm).less fun b z => by
        rcases z with z | ⟨l, z⟩
        · exact .inl z
        · unfold fpSet at z
          split at z
          · exact .inr ⟨j, by rw [k2]; exact z⟩
          · exact .inr ⟨l, z⟩
      refine q _ _ _ (FrS.refl.write ha) (fun l b z => ?_) (r1.storeD (by rw [List.length_set]; exact hij.1) c3)
      exact Fresh.set (sub1 k2) l b (fpSet_nil_sub z)
    · cases e0
  · cases e0

/-! ### comprehensions -/
abbrev Cfg.blk (c : Cfg) (scope : Scope) : Cfg := { c with sc := relS scope c.sc, fnb := fun x => scope.names.lookup x == some .cell }
theorem In.blk {X : Cx} (hX : In c X) (s : Shared) (H : Hp) (scope : Scope) (C : Addr) (cl : List (Str × Addr)) (fp : List Addr) : In (c.blk scope) (X.blk s H scope (compEnvC scope cl C X.env) fp) :=
  ⟨hX.P, hX.w, hX.K, hX.mg, hX.base, hX.N, hX.nd, by show relS scope X.env.scope = relS scope c.sc; rw [hX.sc], fun _ h => h, hX.calm, hX.room, rfl⟩
def ItC (J : It) (st : Option (Addr × Addr)) (H0 : Hp) (M : Addr → Prop) (ds : List D) : Prop := ∀ (H : Hp), FrE st H0 H → ∀ i : Nat, (∀ d, ds[i]? = some d → J.go i H ∧ ∀ x H', J.yld i H x H' → Same H H' ∧ ∀ M' : Addr → Prop, (∀ a xs, H0 a = some (.lst xs) → ¬ M a → ¬ M' a) → Rp H' M' x d) ∧ (ds.length = i → J.stop i H)
/-- walked by a comprehension -/
def SIc (c : Cfg) (tg e : Expr) (f : Exs) : Prop := ∀ (st : Option (Addr × Addr)) (M0 : Addr → Prop) (fp : Nat → List Addr) (σ : Sg) (H : Hp) (ρ : Ev) (s : DS) (ds : List D) (s' : DS) (R : It → Hp → Prop), Rel M0 fp st σ H ρ s → f ρ s = some (ds, s') →
  (∀ J H', FrE st H H' → StOk st M0 H' s' → ItC J st H' (Mof M0 fp) ds → R J H') → wI c tg e σ H R
theorem sic_of {tg : Expr} (hi : SI c tg e fs) : SIc c tg e fs := by
  intro st M0 fp σ H ρ s ds s' R r e0 q
  refine hi st M0 fp σ H ρ s ds s' R r e0 fun J H' f1 t1 it => q J H' f1 t1 fun H2 f2 => it H2 ?_
  have r1 := r.ext f1 t1
  exact r1.later f2.toS Fresh.refl
/-- own lists of the def may be walked: nothing of them is changed -/
theorem sic_bw {tg : Expr} (hi : SI c tg e fs) : SIc c tg e (fun ρ s => (fs (frzA ρ) s).bind fun p => if noLsts p.1 = true then some p else none) := by
  intro st M0 fp σ H ρ s ds s' R r e0 q
  obtain ⟨⟨ds1, s1⟩, e1, e0⟩ := Option.bind_eq_some_iff.mp e0
  simp only at e0
  split at e0
  · rename_i hn
    cases e0
    have rf := r.frz fun _ => true
    refine hi st M0 _ σ H _ s _ _ R rf e1 fun J H' f1 t1 it => q J H' f1 t1 fun H2 f2 i => ?_
    have r1 := rf.ext f1 t1
    obtain ⟨i1, i2⟩ := it H2 (r1.later f2.toS Fresh.refl) i
    refine ⟨fun d hd => ?_, i2⟩
    obtain ⟨g1, g2⟩ := i1 d hd
    refine ⟨g1, fun x H3 y => ?_⟩
    obtain ⟨g3, g4⟩ := g2 x H3 y
    refine ⟨g3, fun M' hm => ?_⟩
    have nd : noLst d = true := by
      have : ∀ (l : List D), noLsts l = true → ∀ d ∈ l, noLst d = true := by
        intro l
        induction l with
        | nil => intro _ d h; cases h
        | cons a l ih =>
          intro h d hd
          unfold noLsts at h
          simp only [Bool.and_eq_true] at h
          rcases List.mem_cons.mp hd with rfl | hd
          · exact h.1
          · exact ih h.2 d hd
      exact this _ hn d (List.mem_of_getElem? hd)
    exact Rp.free _ _ nd (g4 _ fun a xs _ n => n)
  · cases e0
def STs (c : Cfg) (es : List Expr) (f : Tx) : Prop := ∀ (st : Option (Addr × Addr)) (M0 : Addr → Prop) (fp : Nat → List Addr) (σ : Sg) (H : Hp) (ρ : Ev) (s : DS) (b : Bool) (s' : DS) (Q : Bool → Hp → Prop), Rel M0 fp st σ H ρ s → f ρ s = some (b, s') →
  (∀ H', FrE st H H' → StOk st M0 H' s' → Q b H') → wTs c es σ H Q
def tT : Tx := fun _ s => some (true, s)
theorem sts_nil : STs c [] tT := by
  intro st M0 fp σ H ρ s b s' Q r e q
  cases e
  exact ⟨tYes, fun X hX => pts_nil, q H FrE.refl r.sto⟩
theorem sts_one (h : ST c e ft) : STs c [e] ft := by
  intro st M0 fp σ H ρ s b s' Q r e0 q
  exact ⟨wT c e, fun X hX => pts_one (pt_w hX), h st M0 fp σ H ρ s b s' Q r e0 q⟩
def wipeE (ρ : Ev) : List Nat → Ev
  | [] => ρ
  | v :: vs => (wipeE ρ vs).set v none
def lcL : List D → Hx → Tx → Ex → Ev → DS → Option (List D × DS)
  | [], _, _, _, _, s => some ([], s)
  | d :: r, h, t, f, ρ, s => (h d ρ).bind fun ρ1 => (t ρ1 s).bind fun b => if b.1 = true then (f ρ1 b.2).bind fun p => (lcL r h t f ρ p.2).map fun q => (p.1 :: q.1, q.2) else lcL r h t f ρ b.2
def dLc (own : List Nat) (fs : Exs) (h : Hx) (t : Tx) (f : Ex) : Exs := fun ρ s => (fs ρ s).bind fun p => if p.1.length ≤ 16777216 then lcL p.1 h t f (wipeE ρ own) p.2 else none
/-- a slot forgotten; what it owned is forbidden from then on -/
theorem Rel.drop {M0 : Addr → Prop} {fp : Nat → List Addr} {st : Option (Addr × Addr)} {σ : Sg} {H : Hp} {ρ : Ev} {s : DS} (r : Rel M0 fp st σ H ρ s) (i : Nat) : Rel (Mor M0 (fp i)) (fpSet fp i []) st (σ.set i none) H (ρ.set i none) s := by
  have em : ∀ a, Mof (Mor M0 (fp i)) (fpSet fp i []) a ↔ Mof M0 fp a := fun a => by
    constructor
    · rintro ((z | z) | ⟨j, z⟩)
      · exact .inl z
      · exact .inr ⟨i, z⟩
      · exact .inr ⟨j, fpSet_nil_sub z⟩
    · rintro (z | ⟨j, z⟩)
      · exact .inl (.inl z)
      · by_cases e : j = i
        · subst e; exact .inl (.inr z)
        · exact .inr ⟨j, by rw [fpSet_ne e]; exact z⟩
  refine ⟨by rw [List.length_set, List.length_set]; exact r.len, fun sa sc e => ?_, fun a ha => ?_, fun j a ha z => ?_, fun j k a h1 h2 => r.dj j k a (fpSet_nil_sub h1) (fpSet_nil_sub h2), fun j hn => ?_, fun j sl e => ?_⟩
  · obtain ⟨h1, h2, h3, h4, h5⟩ := r.sto sa sc e
    exact ⟨h1, .inl h2, .inl h3, h4, h5⟩
  · rcases ha with ha | ha
    · exact r.m0 a ha
    · exact r.ownD ha
  · rcases z with z | z
    · exact r.fr j a (fpSet_nil_sub ha) z
    · have := r.dj j i a (fpSet_nil_sub ha) z
      subst this
      rw [fpSet_self] at ha; cases ha
  · by_cases e : j = i
    · subst e; exact fpSet_self
    · rw [fpSet_ne e]
      refine r.no j fun sl q => hn sl ?_
      rw [List.getElem?_set_ne (Ne.symm e)]; exact q
  · by_cases e2 : j = i
    · subst e2
      by_cases hl : j < ρ.length
      · rw [List.getElem?_set_self hl] at e; cases e
      · rw [List.getElem?_eq_none (by rw [List.length_set]; omega)] at e; cases e
    · rw [List.getElem?_set_ne (Ne.symm e2)] at e
      obtain ⟨v, q1, q2⟩ := r.sl j sl e
      refine ⟨v, by rw [List.getElem?_set_ne (Ne.symm e2)]; exact q1, ?_⟩
      rw [fpSet_ne e2]
      exact q2.move (fun a xs e n => ⟨e, fun z => n ((em a).mp z)⟩) (fun _ _ q => q) fun _ _ _ q => q
theorem Rel.wipe {M0 : Addr → Prop} {fp : Nat → List Addr} {st : Option (Addr × Addr)} {σ : Sg} {H : Hp} {ρ : Ev} {s : DS} (r : Rel M0 fp st σ H ρ s) : ∀ vs : List Nat, ∃ M1 fp1, Rel M1 fp1 st (L2.wipe σ vs) H (wipeE ρ vs) s ∧ (∀ a, Mof M1 fp1 a ↔ Mof M0 fp a) ∧ (∀ j, j ∈ vs → fp1 j = [])
  | [] => ⟨M0, fp, r, fun a => Iff.rfl, fun j h => by cases h⟩
  | v :: vs => by
    obtain ⟨M1, fp1, r1, h1, h2⟩ := Rel.wipe r vs
    refine ⟨_, _, r1.drop v, fun a => ?_, fun j hj => ?_⟩
    · rw [← h1 a]
      constructor
      · rintro ((z | z) | ⟨j, z⟩)
        · exact .inl z
        · exact .inr ⟨v, z⟩
        · exact .inr ⟨j, fpSet_nil_sub z⟩
      · rintro (z | ⟨j, z⟩)
        · exact .inl (.inl z)
        · by_cases e : j = v
          · subst e; exact .inl (.inr z)
          · exact .inr ⟨j, by rw [fpSet_ne e]; exact z⟩
    · by_cases e : j = v
      · subst e; exact fpSet_self
      · rw [fpSet_ne e]
        exact h2 j ((List.mem_cons.mp hj).resolve_left e)
theorem wipe_at {σ : Sg} {j : Nat} : ∀ {vs : List Nat}, j ∉ vs → (L2.wipe σ vs)[j]? = σ[j]?
  | [], _ => rfl
  | v :: vs, h => by
    show ((L2.wipe σ vs).set v none)[j]? = _
    rw [List.getElem?_set_ne (fun z => h (by rw [z]; exact List.mem_cons_self))]
    exact wipe_at fun z => h (List.mem_cons_of_mem _ z)
theorem wipe_in {σ : Sg} {j : Nat} : ∀ {vs : List Nat}, j ∈ vs → (L2.wipe σ vs)[j]? = if j < σ.length then some none else none
  | v :: vs, h => by
    show ((L2.wipe σ vs).set v none)[j]? = _
    by_cases e : v = j
    · subst e
      by_cases hl : v < σ.length
      · rw [List.getElem?_set_self (by rw [L2.wipe_length]; exact hl), if_pos hl]
      · rw [List.getElem?_eq_none (by rw [List.length_set, L2.wipe_length]; omega), if_neg hl]
    · rw [List.getElem?_set_ne e]
      exact wipe_in ((List.mem_cons.mp h).resolve_left fun z => e z.symm)
theorem wipe_eq {σ τ : Sg} {vs : List Nat} (hl : τ.length = σ.length) (h : ∀ j, j ∉ vs → τ[j]? = σ[j]?) : L2.wipe τ vs = L2.wipe σ vs := by
  refine List.ext_getElem? fun j => ?_
  by_cases e : j ∈ vs
  · rw [wipe_in e, wipe_in e, hl]
  · rw [wipe_at e, wipe_at e, h j e]
/-- the reading of a comprehension -/
theorem lc_at {tg elt : Expr} {ifs : List Expr} {scope : Scope} {own : List Nat} {wi : TI} (hg : SG (c.blk scope) tg is h) (ht : STs (c.blk scope) ifs ft) (he : SE (c.blk scope) elt f) (hsub : ∀ i ∈ is, i ∈ own)
    {st : Option (Addr × Addr)} {M0 : Addr → Prop} {fp : Nat → List Addr} {σ : Sg} {H : Hp} {ρ : Ev} {s s1 : DS} {items ds : List D} {s' : DS} {Q : VK} (r : Rel M0 fp st σ H ρ s)
    (hi : ∀ R : It → Hp → Prop, (∀ J H', FrE st H H' → StOk st M0 H' s1 → ItC J st H' (Mof M0 fp) items → R J H') → wi σ H R) (e0 : (if items.length ≤ 16777216 then lcL items h ft f (wipeE ρ own) s1 else none) = some (ds, s'))
    (q : ∀ p xs H', FrE st H H' → StOk st M0 H' s' → H p = none → H' p = some (.lst xs) → Rps H' (fun a => Mof M0 fp a ∨ a = p) xs ds → Q (.ref p) H') :
    tLc wi (wG (c.blk scope) tg) (wTs (c.blk scope) ifs) (wE (c.blk scope) elt) own σ H Q := by
  split at e0
  · rename_i hlen
    refine hi _ fun J H1 f1 t1 it => ?_
    intro D hD
    have r1 := r.ext f1 t1
    have sm1 : Same H1 (upd H1 D (.lst [])) := Same.upd hD
    refine ⟨fun i m H2 => i ≤ items.length ∧ m = items.length - i ∧ ∃ s2 acc accD rest, FrE st H1 H2 ∧ StOk st M0 H2 s2 ∧ H2 D = some (.lst acc) ∧ acc.length ≤ i ∧ Rps H2 (fun a => Mof M0 fp a ∨ a = D) acc accD ∧ lcL (items.drop i) h ft f (wipeE ρ own) s2 = some (rest, s') ∧ accD ++ rest = ds,
      ⟨items.length, Nat.zero_le _, rfl, s1, [], [], ds, FrE.same sm1, t1.same sm1, upd_same, Nat.le_refl _, .nil, e0, rfl⟩, ?_⟩
    rintro i m H2 ⟨hi', rfl, s2, acc, accD, rest, f2, t2, hD2, hl2, ra, e2, ed⟩
    obtain ⟨it1, it2⟩ := it H2 f2 i
    by_cases hlt : i < items.length
    · have hd : items[i]? = some items[i] := List.getElem?_eq_getElem hlt
      obtain ⟨go, yl⟩ := it1 _ hd
      rw [List.drop_eq_getElem_cons hlt] at e2
      unfold lcL at e2
      obtain ⟨ρ3, e3, e2⟩ := Option.bind_eq_some_iff.mp e2
      obtain ⟨⟨b, s4⟩, e4, e2⟩ := Option.bind_eq_some_iff.mp e2
      refine .inr ⟨go, fun H' => i + 1 ≤ items.length ∧ ∃ s2 acc accD rest, FrE st H1 H' ∧ StOk st M0 H' s2 ∧ H' D = some (.lst acc) ∧ acc.length ≤ i + 1 ∧ Rps H' (fun a => Mof M0 fp a ∨ a = D) acc accD ∧ lcL (items.drop (i + 1)) h ft f (wipeE ρ own) s2 = some (rest, s') ∧ accD ++ rest = ds,
        fun H' w => ⟨items.length - (i + 1), by omega, w.1, rfl, w.2⟩, fun x H3 y => ?_⟩
      obtain ⟨sm3, rp3⟩ := yl x H3 y
      have f3 : FrE st H1 H3 := f2.trans (FrE.same sm3)
      have t3 := t2.same sm3
      have hD3 : H3 D = some (.lst acc) := sm3 _ _ hD2
      have rm : Rel (Mor M0 [D]) fp st σ H3 ρ s2 := r1.more f3 t3 (fun a ha => by rw [List.mem_singleton.mp ha]; exact hD) fun a ha => by rw [List.mem_singleton.mp ha]; exact ⟨_, hD3⟩
      obtain ⟨M2, fp2, r3, em, en⟩ := rm.wipe own
      have em' : ∀ a, Mof M2 fp2 a ↔ (Mof M0 fp a ∨ a = D) := fun a => by
        rw [em a, Mof.mor, List.mem_singleton]
      have rx : Rp H3 (Mof M2 fp2) x items[i] := rp3 _ fun a xs e n z => by
        rcases (em' a).mp z with z | z
        · exact n z
        · rw [z, hD] at e; cases e
      refine hg st M2 fp2 _ H3 _ s2 x _ ρ3 _ r3 rx e3 fun fp4 σ4 k1 k2 k3 k4 r4 => ⟨?_, ?_⟩
      · rw [wipe_eq k4 fun j hj => k3 j fun z => hj (hsub j z)]
        refine List.ext_getElem? fun j => ?_
        by_cases z : j ∈ own
        · rw [wipe_in z, wipe_in z, L2.wipe_length]
        · rw [wipe_at z]
      have em4 : ∀ a, Mof M2 fp4 a ↔ (Mof M0 fp a ∨ a = D) := fun a => by
        rw [← em' a]
        constructor
        · rintro (z | ⟨j, z⟩)
          · exact .inl z
          · exact .inr ⟨j, k1 j a z⟩
        · rintro (z | ⟨j, z⟩)
          · exact .inl z
          · by_cases w : j ∈ is
            · rw [en j (hsub j w)] at z; cases z
            · exact .inr ⟨j, by rw [k2 j w]; exact z⟩
      refine ht st M2 fp4 σ4 H3 ρ3 s2 b s4 _ r4 e4 fun H4 f4 t4 => ?_
      have r5 := r4.ext f4 t4
      have keepD : ∀ {H5 H6 : Hp}, FrE st H5 H6 → H5 D = some (.lst acc) → H6 D = some (.lst acc) := fun {H5 H6} f e => f _ _ e fun sa sc z => by
        obtain ⟨_, _, _, h4, h5⟩ := t1 sa sc z
        exact ⟨fun y => (by rw [← y, hD] at h4; cases h4), fun y => (by rw [← y, hD] at h5; cases h5)⟩
      have hD4 := keepD f4 hD3
      have toSt : ∀ {H5 : Hp} {s5 : DS}, StOk st M2 H5 s5 → StOk st M0 H5 s5 := fun {H5 s5} t sa sc z => by
        obtain ⟨h1, _, _, h4, h5⟩ := t sa sc z
        obtain ⟨_, h2, h3, _, _⟩ := t1 sa sc z
        exact ⟨h1, h2, h3, h4, h5⟩
      have ra3 : Rps H3 (Mof M2 fp4) acc accD := (ra.same sm3).less fun a z => (em4 a).mp z
      have ra4 := r4.rps f4 ra3
      simp only at e2
      cases b with
      | true =>
        rw [if_pos rfl] at e2 ⊢
        obtain ⟨⟨d6, s6⟩, e6, e2⟩ := Option.bind_eq_some_iff.mp e2
        obtain ⟨⟨rest', s7⟩, e7, e2⟩ := Option.map_eq_some_iff.mp e2
        cases e2
        refine he st M2 fp4 σ4 H4 ρ3 s4 d6 s6 _ r5 e6 fun v H5 f5 t5 r6 => ?_
        have hD5 := keepD f5 hD4
        have ra5 := r5.rps f5 ra4
        have r7 := r5.ext f5 t5
        have hDm : ∀ zs, H5 D ≠ some (.tup zs) := fun zs z => by rw [hD5] at z; cases z
        have hDM : Mof M2 fp4 D := (em4 D).mpr (.inr rfl)
        refine ⟨acc, hD5, by rw [sizeLine_eq]; omega, by omega, s6, acc ++ [v], accD ++ [d6], rest', ?_, ?_, upd_same, by rw [List.length_append]; simpa using hl2, ?_, e7, by rw [← ed, List.append_assoc]; rfl⟩
        · refine fun a o e n => ?_
          rw [upd_ne (show a ≠ D from fun z => by rw [z, hD] at e; cases e)]
          exact (f3.trans (f4.trans f5)) a o e n
        · intro sa sc z
          obtain ⟨h1, h2, h3, h4, h5⟩ := toSt t5 sa sc z
          obtain ⟨_, _, _, g4, g5⟩ := t1 sa sc z
          refine ⟨h1, h2, h3, ?_, ?_⟩
          · rw [upd_ne (show sa ≠ D from fun y => by rw [y, hD] at g4; cases g4)]; exact h4
          · rw [upd_ne (show sc ≠ D from fun y => by rw [y, hD] at g5; cases g5)]; exact h5
        · exact ((ra5.append (.one r6)).updOwn hDM hDm).less fun a z => (em4 a).mpr z
      | false =>
        rw [if_neg Bool.false_ne_true] at e2 ⊢
        exact ⟨by omega, s4, acc, accD, rest, f3.trans f4, toSt t4, hD4, by omega, ra4.less fun a z => (em4 a).mpr z, e2, ed⟩
    · have he' : i = items.length := by omega
      subst he'
      rw [List.drop_length] at e2
      cases e2
      rw [List.append_nil] at ed
      subst ed
      exact .inl ⟨it2 rfl, q D acc H2 (f1.trans f2) t2 (f1.none r.sto t1 hD) hD2 ra⟩
  · cases e0
theorem lc_read {tg iter elt : Expr} {ifs : List Expr} {scope : Scope} {own : List Nat} (hi : SIc c tg iter fs) (hg : SG (c.blk scope) tg is h) (ht : STs (c.blk scope) ifs ft) (he : SE (c.blk scope) elt f) (hsub : ∀ i ∈ is, i ∈ own)
    {st : Option (Addr × Addr)} {M0 : Addr → Prop} {fp : Nat → List Addr} {σ : Sg} {H : Hp} {ρ : Ev} {s : DS} {ds : List D} {s' : DS} {Q : VK} (r : Rel M0 fp st σ H ρ s) (e0 : dLc own fs h ft f ρ s = some (ds, s'))
    (q : ∀ p xs H', FrE st H H' → StOk st M0 H' s' → H p = none → H' p = some (.lst xs) → Rps H' (fun a => Mof M0 fp a ∨ a = p) xs ds → Q (.ref p) H') :
    tLc (wI c tg iter) (wG (c.blk scope) tg) (wTs (c.blk scope) ifs) (wE (c.blk scope) elt) own σ H Q := by
  unfold dLc at e0
  obtain ⟨⟨items, s1⟩, e1, e0⟩ := Option.bind_eq_some_iff.mp e0
  exact lc_at hg ht he hsub r (fun R k => hi st M0 fp σ H ρ s items s1 R r e1 k) e0 q
theorem sf_lc {tg iter elt : Expr} {ifs : List Expr} {scope : Scope} {own : List (Str × Nat)} (hi : SIc c tg iter fs) (hg : SG (c.blk scope) tg is h) (ht : STs (c.blk scope) ifs ft) (he : SE (c.blk scope) elt f) (hok : blkC c.N c.sc scope own = true) (hsub : (is.all fun i => decide (i ∈ own.map (·.2))) = true)
    (hs : ∀ env x, foldedSetIterable iter env x = pure x := by intro _ _; rfl) : SF c (.ListComp elt [⟨tg, iter, ifs, 0⟩] scope pos) (dLc (own.map (·.2)) fs h ft f) := by
  intro st M0 fp σ H ρ s ds s' Q r e0 q
  refine ⟨tLc (wI c tg iter) (wG (c.blk scope) tg) (wTs (c.blk scope) ifs) (wE (c.blk scope) elt) (own.map (·.2)), fun X hX => ?_, lc_read hi hg ht he (fun i h => by have := List.all_eq_true.mp hsub i h; exact of_decide_eq_true this) r e0 q⟩
  exact pe_lc (own := own) hX.calm (by rw [hX.N]; exact hX.nd) (pi_w hX) (blkOk_by (by rw [hX.N, hX.sc]; exact hok)) (fun _ _ _ _ _ => pg_w (hX.blk ..)) (fun _ _ _ _ _ => pts_w (hX.blk ..)) (fun _ _ _ _ _ => pe_w (hX.blk ..)) (hs _)
/-- y = [..] on one line, y a plain local -/
def dAsgLc (j : Nat) (f : Exs) : Sx := dAsg j (xF f)
theorem ss_asgLc {tg iter elt : Expr} {ifs : List Expr} {scope : Scope} {own : List (Str × Nat)} {py : Pos} (hj : c.N[j]? = some y) (hyl : c.sc.names.lookup y = some .local) (hi : SIc c tg iter fs) (hg : SG (c.blk scope) tg is h) (ht : STs (c.blk scope) ifs ft) (he : SE (c.blk scope) elt f) (hok : blkC c.N c.sc scope own = true)
    (hsub : (is.all fun i => decide (i ∈ own.map (·.2))) = true) (hl : (py.line == tpos.line) = true) (ha : (scope.names.any fun (n, k) => n == y && (k == .local || k == .cell)) = false) (hs : ∀ env x, foldedSetIterable iter env x = pure x := by intro _ _; rfl) :
    SS c (.Assign [.Name y py] (.ListComp elt [⟨tg, iter, ifs, 0⟩] scope tpos) pos) (dAsg j (xF (dLc (own.map (·.2)) fs h ft f))) := by
  intro st M0 fp σ H ρ s o E r e0 q
  refine ⟨tAsg (tLc (wI c tg iter) (wG (c.blk scope) tg) (wTs (c.blk scope) ifs) (wE (c.blk scope) elt) (own.map (·.2))) (gName j), fun X hX => ⟨fun pins s' σ' H' E' I h' => ?_⟩, ?_⟩
  · exact (ps_setLc (own := own) (by exact hX.calm) (by rw [hX.N]; exact hX.nd) (by rw [hX.N]; exact hj) (by rw [hX.sc]; exact hyl) (sw_true I.ok.kind (by rw [hX.sc]; exact hyl) hl ha) (pi_w hX) (blkOk_by (by rw [hX.N, hX.sc]; exact hok)) (fun _ _ _ _ _ => pg_w (hX.blk ..)) (fun _ _ _ _ _ => pts_w (hX.blk ..)) (fun _ _ _ _ _ => pe_w (hX.blk ..)) (hs _)).run pins s' σ' H' E' I h'
  · -- as an assignment of a new list
    unfold dAsg at e0
    obtain ⟨⟨sl, s1⟩, e1, e0⟩ := Option.bind_eq_some_iff.mp e0
    unfold xF at e1
    obtain ⟨⟨ds, s2⟩, e2, e1⟩ := Option.map_eq_some_iff.mp e1
    cases e1
    simp only at e0
    split at e0
    · rename_i hlt
      cases e0
      refine lc_read hi hg ht he (fun i h => by have := List.all_eq_true.mp hsub i h; exact of_decide_eq_true this) r e2 fun p xs H1 f1 t1 hp hx r1 => ?_
      have rm : Rel (Mor M0 [p]) fp st σ H1 ρ s2 := r.more f1 t1 (fun a ha => by rw [List.mem_singleton.mp ha]; exact hp) fun a ha => by rw [List.mem_singleton.mp ha]; exact ⟨_, hx⟩
      refine q (fpSet fp j [p]) _ H1 f1.toS (fun i a z => ?_) (rm.store1 hlt ⟨p, xs, rfl, rfl, hx, r1.less fun a z => (Mof.mor.mp z).imp id fun z => List.mem_singleton.mp z⟩ (fun a ha z => ?_) t1)
      · unfold fpSet at z
        split at z
        · exact .inr (by rw [List.mem_singleton.mp z]; exact hp)
        · exact .inl ⟨_, z⟩
      · obtain ⟨o, y⟩ := r.m0 a z
        rw [List.mem_singleton.mp ha, hp] at y; cases y
    · cases e0
end

/-! ### defs -/
def runFn (n : Nat) (G : Sx) (ds : List D) (s : DS) : Option (D × DS) := match G (ds.map (fun d => some (.im d)) ++ List.replicate (n - ds.length) none) s with
  | some (.rt d s') => some (d, s')
  | some (.nx _ s') => some (.none, s')
  | _ => none
def runFnS (n : Nat) (G : Sx) (ds : List D) (s : DS) : Option (D × DS) := match G (some .st :: (ds.map (fun d => some (.im d)) ++ List.replicate (n - (ds.length + 1)) none)) s with
  | some (.rt d s') => some (d, s')
  | some (.nx _ s') => some (.none, s')
  | _ => none
abbrev cfgOf (P : Program) (w : World) (K : PySem.W.Frag) (mg : Str → Option Value) (base : Heap) (N : List Str) (sc : Scope) (k : Nat) : Cfg := ⟨P, w, K, mg, base, N, sc, fun _ => true, k⟩
section
variable {P : Program} {w : World} {K : PySem.W.Frag} {mg : Str → Option Value} {base : Heap} {x qual : Str} {stm : Stmt} {f : Addr} {fd : FuncData} {N ps : List Str} {k : Nat} {G : Sx}
theorem start_rel {M : Addr → Prop} {st : Option (Addr × Addr)} {H : Hp} {vs : List V} {ds : List D} {s : DS} {n : Nat} (hM : ∀ a, M a → ∃ o, H a = some o) (t : StOk st M H s) (r : Rps H M vs ds) (hn : N.length = n) : Rel M (fun _ => []) st (L2.start N vs) H (ds.map (fun d => some (.im d)) ++ List.replicate (n - ds.length) none) s := by
  subst hn
  have hl := r.length
  refine ⟨by simp [L2.start, hl], t, hM, fun i a h => by simp at h, fun i j a h => by simp at h, fun i _ => rfl, fun i sl e => ?_⟩
  by_cases hi : i < ds.length
  · rw [List.getElem?_append_left (by simpa using hi), List.getElem?_map] at e
    obtain ⟨d, e1, e2⟩ := Option.map_eq_some_iff.mp e
    cases e2
    obtain ⟨v, e3, e4⟩ := r.get e1
    refine ⟨v, ?_, rfl, e4.less fun a z => z.elim id fun ⟨_, z⟩ => by simp at z⟩
    unfold L2.start
    rw [List.getElem?_append_left (by rw [List.length_map]; omega), List.getElem?_map, e3]; rfl
  · rw [List.getElem?_append_right (by simpa using hi), List.getElem?_replicate] at e
    split at e <;> cases e
theorem fn_pure {np : Nat} {m : List D → Option D} (F : Fun K x qual stm f fd) (S : FnScope N ps (defScope stm)) (hb : SSs (cfgOf P w K mg base N (defScope stm) k) (defBody stm) G) (hp : ps.length = np) (hm : ∀ ds d s, ds.length = np → m ds = some d → ∃ s', runFn N.length G ds s = some (d, s')) : FnOk P w K mg base CX0 (k + 1) f fd ps (spP np m) := by
  refine F.ok S (fun vs H Q E h => h.1.trans hp.symm) fun cdv A outer s H vs Q E hr h => ?_
  obtain ⟨hl, M, ds, d, hM, rs, em, q⟩ := h
  have dl : ds.length = np := rs.length.symm.trans hl
  obtain ⟨s', e1⟩ := hm ds d ([], 0) dl em
  have rel : Rel M (fun _ => []) none (L2.start N vs) H (ds.map (fun d => some (.im d)) ++ List.replicate (N.length - ds.length) none) (([], 0) : DS) := start_rel hM (fun _ _ z => by cases z) rs rfl
  have fin : ∀ (o : Out), G (ds.map (fun d => some (.im d)) ++ List.replicate (N.length - ds.length) none) ([], 0) = some o → Post none M (fun _ => []) H o { nx := fun _ H' => Q .non H', rt := Q } := fun o eo => by
    unfold runFn at e1
    rw [eo] at e1
    cases o with
    | rt d' s2 =>
      cases e1
      exact fun v H' fr _ rp => q v H' (fun a ob e => fr a ob e (fun _ _ z => by cases z) fun i => by simp) rp
    | nx ρ2 s2 =>
      cases e1
      exact fun fp' σ' H' fr _ r' => q .non H' (fun a ob e => fr a ob e (fun _ _ z => by cases z) fun i => by simp) .non
    | bk _ _ => cases e1
    | ct _ _ => cases e1
  cases eo : G (ds.map (fun d => some (.im d)) ++ List.replicate (N.length - ds.length) none) (([], 0) : DS) with
  | none => unfold runFn at e1; rw [eo] at e1; cases e1
  | some o =>
    obtain ⟨t, ht, hq⟩ := hb none M _ _ H _ _ o _ rel eo (fin o eo)
    exact ⟨t, ht _ ⟨rfl, rfl, rfl, rfl, rfl, rfl, S.nd, rfl, fun _ _ => rfl, rfl, hr, rfl⟩, hq⟩
theorem fn_state {np : Nat} {m : List D → DS → Option (D × DS)} (F : Fun K x qual stm f fd) (S : FnScope N ps (defScope stm)) (hb : SSs (cfgOf P w K mg base N (defScope stm) k) (defBody stm) G) (hp : ps.length = np + 1) (hm : ∀ ds s r, ds.length = np → m ds s = some r → runFnS N.length G ds s = some r) : FnOk P w K mg base CX0 (k + 1) f fd ps (spS np m) := by
  refine F.ok S (fun vs H Q E h => h.1.trans hp.symm) fun cdv A outer s0 H vs Q E hr h => ?_
  obtain ⟨hl, M, sa, sc, us, ds, s, d, s', rfl, hM, tk, rs, em, q⟩ := h
  have dl : ds.length = np := rs.length.symm.trans (by simpa using hl)
  have e1 := hm ds s _ dl em
  have rel : Rel M (fun _ => []) (some (sa, sc)) (L2.start N (.ref sa :: us)) H (some .st :: (ds.map (fun d => some (.im d)) ++ List.replicate (N.length - (ds.length + 1)) none)) s := by
    have hlu := rs.length
    refine ⟨by simp [L2.start, hlu], tk, hM, fun i a h => by simp at h, fun i j a h => by simp at h, fun i _ => rfl, fun i sl e => ?_⟩
    cases i with
    | zero =>
      cases e
      exact ⟨.ref sa, rfl, rfl, sa, sc, rfl, rfl⟩
    | succ i =>
      rw [List.getElem?_cons_succ] at e
      by_cases hi : i < ds.length
      · rw [List.getElem?_append_left (by simpa using hi), List.getElem?_map] at e
        obtain ⟨d, e1, e2⟩ := Option.map_eq_some_iff.mp e
        cases e2
        obtain ⟨v, e3, e4⟩ := rs.get e1
        refine ⟨v, ?_, rfl, e4.less fun a z => z.elim id fun ⟨_, z⟩ => by simp at z⟩
        unfold L2.start
        rw [List.map_cons, List.cons_append, List.getElem?_cons_succ, List.getElem?_append_left (by rw [List.length_map]; omega), List.getElem?_map, e3]; rfl
      · rw [List.getElem?_append_right (by simpa using hi), List.getElem?_replicate] at e
        split at e <;> cases e
  have fin : ∀ (o : Out), G (some .st :: (ds.map (fun d => some (.im d)) ++ List.replicate (N.length - (ds.length + 1)) none)) s = some o → Post (some (sa, sc)) M (fun _ => []) H o { nx := fun _ H' => Q .non H', rt := Q } := fun o eo => by
    unfold runFnS at e1
    rw [eo] at e1
    cases o with
    | rt d' s2 =>
      cases e1
      exact fun v H' fr t2 rp => q v H' (fun a ob e n => fr a ob e n fun i => by simp) t2 rp
    | nx ρ2 s2 =>
      cases e1
      exact fun fp' σ' H' fr _ r' => q .non H' (fun a ob e n => fr a ob e n fun i => by simp) r'.sto .non
    | bk _ _ => cases e1
    | ct _ _ => cases e1
  cases eo : G (some .st :: (ds.map (fun d => some (.im d)) ++ List.replicate (N.length - (ds.length + 1)) none)) s with
  | none => unfold runFnS at e1; rw [eo] at e1; cases e1
  | some o =>
    obtain ⟨t, ht, hq⟩ := hb (some (sa, sc)) M _ _ H _ _ o _ rel eo (fin o eo)
    exact ⟨t, ht _ ⟨rfl, rfl, rfl, rfl, rfl, rfl, S.nd, rfl, fun _ _ => rfl, rfl, hr, rfl⟩, hq⟩
end
end GF
/-! GF7: enumerate, dicts walked and made by comprehensions, stores to several places -/
namespace GF
open PySem PySem.Spec PyProof.Rows L2

section
variable {c : Cfg} {e a b e1 e2 ke ve : Expr} {es : List Expr} {f g f1 f2 fk fv : Ex} {fs : Exs} {ft : Tx} {fx : Xx} {S : Stmt} {B B' : List Stmt} {G G' : Sx} {pos pos' tpos apos cpos : Pos} {is js : List Nat} {h : Hx} {hs : Hxs} {i j : Nat} {x y : Str}

/-! ### enumerate of a list -/
def enumD (ds : List D) : List D := ds.mapIdx fun (i : Nat) d => .tuple [.int (i : Int), d]
theorem enumD_get {ds : List D} {i : Nat} {r : D} (h : (enumD ds)[i]? = some r) : ∃ d, ds[i]? = some d ∧ r = .tuple [.int (i : Int), d] := by
  unfold enumD at h
  rw [List.getElem?_mapIdx] at h
  obtain ⟨d, e1, e2⟩ := Option.map_eq_some_iff.mp h
  exact ⟨d, e1, e2.symm⟩
theorem enumD_len (ds : List D) : (enumD ds).length = ds.length := by unfold enumD; exact List.length_mapIdx
theorem ItOk.enum {K : PySem.W.Frag} {H0 : Hp} {M : Addr → Prop} {a : Addr} {xs : List V} {ds : List D} (n : ¬ M a) (h1 : H0 a = some (.lst xs)) (h2 : Rps H0 M xs ds) : ItOk (Ite K a) H0 M (enumD ds) := by
  intro H hl i
  have h3 := hl.1 a xs h1 n
  refine ⟨fun r er => ?_, fun e => ⟨xs, SqL.of h3, by rw [h2.length, ← enumD_len]; exact Nat.le_of_eq e⟩⟩
  obtain ⟨d, e, rfl⟩ := enumD_get er
  obtain ⟨v, e1, e2⟩ := h2.get e
  refine ⟨⟨xs, v, SqL.of h3, e1⟩, fun x H' y => ?_⟩
  obtain ⟨T, z, rfl, hT, rfl, y⟩ := y
  have ev : z = v := Option.some.inj ((y xs (SqL.of h3)).symm.trans e1)
  subst ev
  have sm : Same H (upd H T (.tup [.int (i : Int), z])) := Same.upd hT
  refine ⟨sm, fun M' hm => .tup upd_same (.cons (.int _) (.one ?_))⟩
  exact (Rp.move (fun b ys q k => ⟨hl.1 b ys q k, hm b ys q k⟩) (fun b ys q => hl.2 b ys q) _ _ e2).same sm
def dEnum (fs : Exs) : Exs := fun ρ s => (fs ρ s).bind fun p => match p.1 with
  | [.list ds] => some (enumD ds, p.2)
  | _ => none
theorem si_enum {elts : List Expr} {kk : Nat} {p : Pos} (hg : glB c.sc "enumerate" = true) (hm : c.mg "enumerate" = none) (ha : SA c [a] fs) (hs : ∀ env, starEach [a] env = [(false, eval a env)] := by intro _; rfl) : SI c (.Tuple elts kk tpos) (.Call (.Name "enumerate" p) [a] [] pos) (dEnum fs) := by
  intro st M0 fp σ H ρ s ds s' R r e0 q
  unfold dEnum at e0
  obtain ⟨⟨d, s1⟩, e1, e0⟩ := Option.bind_eq_some_iff.mp e0
  simp only at e0
  split at e0
  · cases e0
    refine ⟨iEnum c.K (wA c [a]), fun X hX => (by rw [← hX.K]; exact pi_enum (by show X.env.scope.names.lookup _ = _; rw [hX.sc]; exact gl_of hg) (by rw [hX.mg]; exact hm) (pa_w hX) (hs _)), ?_⟩
    refine ha st M0 fp σ H ρ s _ _ _ r e1 fun vs H1 f1 t1 r1 => ?_
    obtain ⟨p, ys, rfl, n, h1, h2⟩ := r1.list1
    exact ⟨p, ys, rfl, SqL.of h1, q _ H1 f1 t1 (.enum n h1 h2)⟩
  · cases e0

/-! ### a dict that is walked: locked meanwhile -/
def dLock (i : Nat) (f : Exs) : Exs := fun ρ s => match ρ[i]? with
  | some (some (.md kvs)) => f (ρ.set i (some (.mz kvs))) s
  | _ => none
theorem fpSet_id {fp : Nat → List Addr} {i : Nat} : fpSet fp i (fp i) = fp := by
  funext j
  unfold fpSet
  split
  · rename_i e; rw [e]
  · rfl
theorem sf_lock (he : SF c e fs) : SF c e (dLock i fs) := by
  intro st M0 fp σ H ρ s ds s' Q r e0 q
  unfold dLock at e0
  split at e0
  · rename_i kvs g0
    obtain ⟨a, ks, k1, k2, k3, k4⟩ := r.md g0
    have ha : a ∈ fp i := by rw [k2]; exact List.mem_cons_self
    have hm : ∀ zs, H a ≠ some (.tup zs) := fun zs z => by rw [k3] at z; cases z
    refine ⟨tLockE (wE c e), fun X hX => pe_lock (pe_w hX), a, _, k3, trivial, fun od => ?_⟩
    have r1 : Rel M0 fp st σ (upd H a (.frz od (.dK ks))) (ρ.set i (some (.mz kvs))) s := by
      have := r.write (sl' := .mz kvs) (l := [a]) (o := .frz od (.dK ks)) g0 ha k1 (sub1 k2) hm ⟨a, ks, od, rfl, rfl, upd_same, k4.updOwn (.inr ⟨i, ha⟩) hm⟩
      rw [← k2, fpSet_id] at this
      exact this
    refine he st M0 fp σ _ _ s ds s' _ r1 e0 fun p xs H1 f1 t1 hp hx rx => ?_
    have nst : NotSt st a := r.notSt (r.fr i a ha)
    have hz : H1 a = some (.frz od (.dK ks)) := f1 _ _ upd_same nst
    have hpa : p ≠ a := fun z => by rw [z, upd_same] at hp; cases hp
    refine ⟨hz, q p xs _ (fun b o eb nb => ?_) (fun sa sc z => ?_) ?_ ?_ ?_⟩
    · by_cases eb2 : b = a
      · subst eb2
        rw [k3] at eb; cases eb
        exact upd_same
      · rw [upd_ne eb2]
        exact f1 b o (by rw [upd_ne eb2]; exact eb) nb
    · obtain ⟨h1, h2, h3, h4, h5⟩ := t1 sa sc z
      obtain ⟨n1, n2⟩ := nst sa sc z
      exact ⟨h1, h2, h3, by rw [upd_ne (Ne.symm n1)]; exact h4, by rw [upd_ne (Ne.symm n2)]; exact h5⟩
    · rw [upd_ne hpa] at hp; exact hp
    · rw [upd_ne hpa]; exact hx
    · exact Rps.updOwn (.inl (.inr ⟨i, ha⟩)) (fun zs z => by rw [hz] at z; cases z) rx
  · cases e0
def dKeys (i : Nat) : Exs := fun ρ s => match ρ[i]? with
  | some (some (.mz kvs)) => some (kvs.map fun kv => dKey kv.1, s)
  | _ => none
theorem sic_keys {tg : Expr} (hN : c.N[i]? = some x) (hv : visB c.sc x = true) (hd : (x == ("__debug__" : Str)) = false := by decide) (hcd : (x == ("__classdict__" : Str)) = false := by decide) : SIc c tg (.Name x pos) (dKeys i) := by
  intro st M0 fp σ H ρ s ds s' R r e0 q
  unfold dKeys at e0
  split at e0
  · rename_i kvs g0
    cases e0
    obtain ⟨v, k0, a, ks, o, k1, k2, k3, k4⟩ := r.sl i _ g0
    subst k1
    refine ⟨iKeys (tVar i), fun X hX => pi_keys (pe_name hX hN hv hd hcd), _, k0, a, o, rfl, .inl ⟨ks, k3, q _ H FrE.refl r.sto ?_⟩⟩
    intro H2 f2 n
    have nst : NotSt st a := r.notSt (r.fr i a (by rw [k2]; exact List.mem_cons_self))
    have hz := f2 _ _ k3 nst
    have W := walk_keys (d := a) (o := o) (kvs := ks)
    refine ⟨fun d ed => ?_, fun en => ?_⟩
    · rw [List.getElem?_map] at ed
      obtain ⟨kv, e1, e2⟩ := Option.map_eq_some_iff.mp ed
      subst e2
      have hn : n < ks.length := by rw [k4.length]; exact (List.getElem?_eq_some_iff.mp e1).1
      refine ⟨W.goes n H2 hn hz, fun x H' y => ?_⟩
      obtain ⟨rfl, k, v, g1, rfl⟩ := W.yields n H2 x H' hn hz y
      refine ⟨Same.refl _, fun M' _ => ?_⟩
      have ek : k = kv.1 := by
        have h1 : (ks.map (·.1))[n]? = some k := by rw [List.getElem?_map, g1]; rfl
        rw [k4.1, List.getElem?_map, e1] at h1
        exact (Option.some.inj h1).symm
      rw [ek]
      exact rp_key _
    · rw [List.length_map, ← k4.length] at en
      subst en
      exact W.stops H2 hz
  · cases e0

/-! ### dicts made by a comprehension -/
def dcL : List D → Hx → Tx → Ex → Ex → Ev → DS → List (Key × D) → Option (List (Key × D) × DS)
  | [], _, _, _, _, _, s, acc => some (acc, s)
  | d :: r, h, t, f, g, ρ, s, acc => (h d ρ).bind fun ρ1 => (t ρ1 s).bind fun b => if b.1 = true then (f ρ1 b.2).bind fun p => (keyD p.1).bind fun k => (g ρ1 p.2).bind fun q => dcL r h t f g ρ q.2 (putD acc k q.1) else dcL r h t f g ρ b.2 acc
def xDc (own : List Nat) (fs : Exs) (h : Hx) (t : Tx) (f g : Ex) : Xx := fun ρ s => (fs ρ s).bind fun p => if p.1.length ≤ 16777216 then (dcL p.1 h t f g (wipeE ρ own) p.2 []).map fun q => (.md q.1, q.2) else none
theorem putD_len (kvs : List (Key × D)) (k : Key) (v : D) : (putD kvs k v).length ≤ kvs.length + 1 := by
  unfold putD
  split
  · rw [List.length_map]; omega
  · rw [List.length_append]; simp
theorem RpK.same {H H' : Hp} {M : Addr → Prop} {ks : List (Key × V)} {kvs : List (Key × D)} (h : RpK H M ks kvs) (e : Same H H') : RpK H' M ks kvs := ⟨h.1, h.2.same e⟩
theorem RpK.less {H : Hp} {M M' : Addr → Prop} {ks : List (Key × V)} {kvs : List (Key × D)} (h : RpK H M ks kvs) (e : ∀ a, M' a → M a) : RpK H M' ks kvs := ⟨h.1, h.2.less e⟩
theorem sx_dc {tg iter : Expr} {ifs : List Expr} {scope : Scope} {own : List (Str × Nat)} (hi : SIc c tg iter fs) (hg : SG (c.blk scope) tg is h) (ht : STs (c.blk scope) ifs ft) (hk : SE (c.blk scope) ke fk) (he : SE (c.blk scope) ve fv) (hok : blkC c.N c.sc scope own = true) (hsub : (is.all fun i => decide (i ∈ own.map (·.2))) = true)
    (hs : ∀ env x, foldedSetIterable iter env x = pure x := by intro _ _; rfl) : SX c (.DictComp ke ve [⟨tg, iter, ifs, 0⟩] scope pos) (xDc (own.map (·.2)) fs h ft fk fv) := by
  intro st M0 fp σ H ρ s sl s' Q r e0 q
  have hsub : ∀ i ∈ is, i ∈ own.map (·.2) := fun i h => by have := List.all_eq_true.mp hsub i h; exact of_decide_eq_true this
  refine ⟨tDc (wI c tg iter) (wG (c.blk scope) tg) (wTs (c.blk scope) ifs) (wE (c.blk scope) ke) (wE (c.blk scope) ve) (own.map (·.2)), fun X hX => ?_, ?_⟩
  · exact pe_dc (own := own) hX.calm (by rw [hX.N]; exact hX.nd) (pi_w hX) (blkOk_by (by rw [hX.N, hX.sc]; exact hok)) (fun _ _ _ _ _ => pg_w (hX.blk ..)) (fun _ _ _ _ _ => pts_w (hX.blk ..)) (fun _ _ _ _ _ => pe_w (hX.blk ..)) (fun _ _ _ _ _ => pe_w (hX.blk ..)) (hs _)
  unfold xDc at e0
  obtain ⟨⟨items, s1⟩, e1, e0⟩ := Option.bind_eq_some_iff.mp e0
  simp only at e0
  split at e0
  · rename_i hlen
    obtain ⟨⟨kvsF, sF⟩, e00, e0⟩ := Option.map_eq_some_iff.mp e0
    cases e0
    refine hi st M0 fp σ H ρ s items s1 _ r e1 fun J H1 f1 t1 it => ?_
    intro D hD
    have r1 := r.ext f1 t1
    have sm1 : Same H1 (upd H1 D (.dK [])) := Same.upd hD
    refine ⟨fun i m H2 => i ≤ items.length ∧ m = items.length - i ∧ ∃ s2 acc accD, FrE st H1 H2 ∧ StOk st M0 H2 s2 ∧ H2 D = some (.dK acc) ∧ acc.length ≤ i ∧ RpK H2 (fun a => Mof M0 fp a ∨ a = D) acc accD ∧ dcL (items.drop i) h ft fk fv (wipeE ρ (own.map (·.2))) s2 accD = some (kvsF, sF),
      ⟨items.length, Nat.zero_le _, rfl, s1, [], [], FrE.same sm1, t1.same sm1, upd_same, Nat.le_refl _, .nil, e00⟩, ?_⟩
    rintro i m H2 ⟨hi', rfl, s2, acc, accD, f2, t2, hD2, hl2, ra, e2⟩
    obtain ⟨it1, it2⟩ := it H2 f2 i
    by_cases hlt : i < items.length
    · have hd : items[i]? = some items[i] := List.getElem?_eq_getElem hlt
      obtain ⟨go, yl⟩ := it1 _ hd
      rw [List.drop_eq_getElem_cons hlt] at e2
      unfold dcL at e2
      obtain ⟨ρ3, e3, e2⟩ := Option.bind_eq_some_iff.mp e2
      obtain ⟨⟨b, s4⟩, e4, e2⟩ := Option.bind_eq_some_iff.mp e2
      refine .inr ⟨go, fun H' => i + 1 ≤ items.length ∧ ∃ s2 acc accD, FrE st H1 H' ∧ StOk st M0 H' s2 ∧ H' D = some (.dK acc) ∧ acc.length ≤ i + 1 ∧ RpK H' (fun a => Mof M0 fp a ∨ a = D) acc accD ∧ dcL (items.drop (i + 1)) h ft fk fv (wipeE ρ (own.map (·.2))) s2 accD = some (kvsF, sF),
        fun H' w => ⟨items.length - (i + 1), by omega, w.1, rfl, w.2⟩, fun x H3 y => ?_⟩
      obtain ⟨sm3, rp3⟩ := yl x H3 y
      have f3 : FrE st H1 H3 := f2.trans (FrE.same sm3)
      have t3 := t2.same sm3
      have hD3 : H3 D = some (.dK acc) := sm3 _ _ hD2
      have rm : Rel (Mor M0 [D]) fp st σ H3 ρ s2 := r1.more f3 t3 (fun a ha => by rw [List.mem_singleton.mp ha]; exact hD) fun a ha => by rw [List.mem_singleton.mp ha]; exact ⟨_, hD3⟩
      obtain ⟨M2, fp2, r3, em, en⟩ := rm.wipe (own.map (·.2))
      have em' : ∀ a, Mof M2 fp2 a ↔ (Mof M0 fp a ∨ a = D) := fun a => by
        rw [em a, Mof.mor, List.mem_singleton]
      have rx : Rp H3 (Mof M2 fp2) x items[i] := rp3 _ fun a xs e n z => by
        rcases (em' a).mp z with z | z
        · exact n z
        · rw [z, hD] at e; cases e
      refine hg st M2 fp2 _ H3 _ s2 x _ ρ3 _ r3 rx e3 fun fp4 σ4 k1 k2 k3 k4 r4 => ⟨?_, ?_⟩
      · rw [wipe_eq k4 fun j hj => k3 j fun z => hj (hsub j z)]
        refine List.ext_getElem? fun j => ?_
        by_cases z : j ∈ own.map (·.2)
        · rw [wipe_in z, wipe_in z, L2.wipe_length]
        · rw [wipe_at z]
      have em4 : ∀ a, Mof M2 fp4 a ↔ (Mof M0 fp a ∨ a = D) := fun a => by
        rw [← em' a]
        constructor
        · rintro (z | ⟨j, z⟩)
          · exact .inl z
          · exact .inr ⟨j, k1 j a z⟩
        · rintro (z | ⟨j, z⟩)
          · exact .inl z
          · by_cases w : j ∈ is
            · rw [en j (hsub j w)] at z; cases z
            · exact .inr ⟨j, by rw [k2 j w]; exact z⟩
      refine ht st M2 fp4 σ4 H3 ρ3 s2 b s4 _ r4 e4 fun H4 f4 t4 => ?_
      have r5 := r4.ext f4 t4
      have nstD : NotSt st D := fun sa sc z => by
        obtain ⟨_, _, _, h4, h5⟩ := t1 sa sc z
        exact ⟨fun y => (by rw [← y, hD] at h4; cases h4), fun y => (by rw [← y, hD] at h5; cases h5)⟩
      have hD4 : H4 D = some (.dK acc) := f4 _ _ hD3 nstD
      have toSt : ∀ {H5 : Hp} {s5 : DS}, StOk st M2 H5 s5 → StOk st M0 H5 s5 := fun {H5 s5} t sa sc z => by
        obtain ⟨h1, _, _, h4, h5⟩ := t sa sc z
        obtain ⟨_, h2, h3, _, _⟩ := t1 sa sc z
        exact ⟨h1, h2, h3, h4, h5⟩
      have ra3 : RpK H3 (Mof M2 fp4) acc accD := (ra.same sm3).less fun a z => (em4 a).mp z
      have ra4 : RpK H4 (Mof M2 fp4) acc accD := ⟨ra3.1, r4.rps f4 ra3.2⟩
      simp only at e2
      cases b with
      | true =>
        rw [if_pos rfl] at e2 ⊢
        obtain ⟨⟨d6, s6⟩, e6, e2⟩ := Option.bind_eq_some_iff.mp e2
        obtain ⟨k7, e7, e2⟩ := Option.bind_eq_some_iff.mp e2
        obtain ⟨⟨d8, s8⟩, e8, e2⟩ := Option.bind_eq_some_iff.mp e2
        refine hk st M2 fp4 σ4 H4 ρ3 s4 d6 s6 _ r5 e6 fun v H5 f5 t5 r6 => ?_
        have r7 := r5.ext f5 t5
        refine he st M2 fp4 σ4 H5 ρ3 s6 d8 s8 _ r7 e8 fun u H6 f6 t6 r8 => ?_
        have f56 := f5.trans f6
        have hD6 : H6 D = some (.dK acc) := f56 _ _ hD4 nstD
        have ra6 : RpK H6 (Mof M2 fp4) acc accD := ⟨ra4.1, r5.rps f56 ra4.2⟩
        have hDm : ∀ zs, H6 D ≠ some (.tup zs) := fun zs z => by rw [hD6] at z; cases z
        have hDM : Mof M2 fp4 D := (em4 D).mpr (.inr rfl)
        have hlp : (putK acc k7 u).length ≤ i + 1 := by have := L2.length_putK acc k7 u; omega
        refine ⟨acc, k7, keyD_of e7 r6, hD6, by rw [sizeLine_eq]; omega, by omega, s8, putK acc k7 u, putD accD k7 d8, ?_, ?_, upd_same, hlp, ?_, e2⟩
        · refine fun a o e n => ?_
          rw [upd_ne (show a ≠ D from fun z => by rw [z, hD] at e; cases e)]
          exact (f3.trans (f4.trans f56)) a o e n
        · intro sa sc z
          obtain ⟨h1, h2, h3, h4, h5⟩ := toSt t6 sa sc z
          obtain ⟨n1, n2⟩ := nstD sa sc z
          exact ⟨h1, h2, h3, by rw [upd_ne (Ne.symm n1)]; exact h4, by rw [upd_ne (Ne.symm n2)]; exact h5⟩
        · exact ((ra6.put k7 r8).updOwn hDM hDm).less fun a z => (em4 a).mpr z
      | false =>
        rw [if_neg Bool.false_ne_true] at e2 ⊢
        exact ⟨by omega, s4, acc, accD, f3.trans f4, toSt t4, hD4, by omega, ra4.less fun a z => (em4 a).mpr z, e2⟩
    · have he' : i = items.length := by omega
      subst he'
      rw [List.drop_length] at e2
      cases e2
      have hDn : H D = none := f1.none r.sto t1 hD
      refine .inl ⟨it2 rfl, q (.ref D) [D] H2 (f1.trans f2) (r.more (f1.trans f2) t2 (fun a ha => by rw [List.mem_singleton.mp ha]; exact hDn) fun a ha => by rw [List.mem_singleton.mp ha]; exact ⟨_, hD2⟩) (fun a ha => by rw [List.mem_singleton.mp ha]; exact hDn) ?_⟩
      exact ⟨D, acc, rfl, rfl, hD2, ra.less fun a z => (Mof.mor.mp z).imp id fun z => List.mem_singleton.mp z⟩
  · cases e0

/-! ### stores to several places of lists and dicts -/
abbrev Gx := D → Ev → DS → Option (Ev × DS)
abbrev Gxs := List D → Ev → DS → Option (Ev × DS)
def SGx (c : Cfg) (tg : Expr) (h : Gx) : Prop := ∀ (st : Option (Addr × Addr)) (M0 : Addr → Prop) (fp : Nat → List Addr) (σ : Sg) (H : Hp) (ρ : Ev) (s : DS) (v : V) (d : D) (ρ' : Ev) (s' : DS) (Q : Sg → Hp → Prop), Rel M0 fp st σ H ρ s → Rp H (Mof M0 fp) v d → h d ρ s = some (ρ', s') →
  (∀ fp' σ' H', FrS st fp H H' → Fresh fp fp' H → Rel M0 fp' st σ' H' ρ' s' → Q σ' H') → wG c tg v σ H Q
def SGxs (c : Cfg) (tg : List Expr) (h : Gxs) : Prop := ∀ (st : Option (Addr × Addr)) (M0 : Addr → Prop) (fp : Nat → List Addr) (σ : Sg) (H : Hp) (ρ : Ev) (s : DS) (v : List V) (d : List D) (ρ' : Ev) (s' : DS) (Q : Sg → Hp → Prop), Rel M0 fp st σ H ρ s → Rps H (Mof M0 fp) v d → h d ρ s = some (ρ', s') →
  (∀ fp' σ' H', FrS st fp H H' → Fresh fp fp' H → Rel M0 fp' st σ' H' ρ' s' → Q σ' H') → wGs c tg v σ H Q
def putE (ρ : Ev) (i : Nat) (k v : D) : Option Ev := match ρ[i]? with
  | some (some (.ml ds)) => match k with
    | .int z => (ixN ds.length z).map fun n => ρ.set i (some (.ml (ds.set n v)))
    | _ => none
  | some (some (.md kvs)) => (keyD k).bind fun kk => if kvs.length < 16777216 then some (ρ.set i (some (.md (putD kvs kk v)))) else none
  | _ => none
def gSubN (i : Nat) (f : Ex) : Gx := fun d ρ s => (f ρ s).bind fun p => (putE ρ i p.1 d).map fun ρ' => (ρ', p.2)
def rSetD : V → V → V → Hp → (Hp → Prop) → Prop := fun o i v H Q => ∃ a H', o = .ref a ∧ DPut H a i v H' ∧ Q H'
theorem pset_dict {X : Cx} (hu : X.A.units + 1 < cLine) : PSet X rSetD := by
  intro pins s σ H o i v ov iv u Q I ro ri rv h
  obtain ⟨a, H', rfl, g, q⟩ := h
  obtain rfl : ov = Value.ref a := ro
  exact d_setItem hu I g ri rv fun s4 I4 => ⟨H', I4, q⟩
theorem sgx_sub (hN : c.N[i]? = some x) (hv : visB c.sc x = true) (h1 : SE c e1 f1) (hd : (x == ("__debug__" : Str)) = false := by decide) (hcd : (x == ("__classdict__" : Str)) = false := by decide)
    (hasg : ∀ env v, assign (.Subscript (.Name x pos') e1 tpos) env v = (do
      let ov ← holding [v] (eval (.Name x pos') env)
      let iv ← holding [v, ov] (eval e1 env)
      standAt tpos
      holding [v, ov, iv] (setItem ov iv v)
      release [v, ov, iv] []) := by intro _ _; rfl) : SGx c (.Subscript (.Name x pos') e1 tpos) (gSubN i f1) := by
  intro st M0 fp σ H ρ s v d ρ' s' Q r rp e0 q
  unfold gSubN at e0
  obtain ⟨⟨k, s1⟩, g1, e0⟩ := Option.bind_eq_some_iff.mp e0
  obtain ⟨ρ2, g2, e0⟩ := Option.map_eq_some_iff.mp e0
  cases e0
  replace g2 : putE ρ i k d = some ρ' := g2
  unfold putE at g2
  split at g2
  · rename_i ds g3
    split at g2
    · obtain ⟨n, g4, g2⟩ := Option.map_eq_some_iff.mp g2
      cases g2
      refine ⟨gSub (tVar i) (wE c e1) rSetL, fun X hX => pg_sub (pe_name hX hN hv hd hcd) (pe_w hX) set_list (hasg _), ?_⟩
      obtain ⟨a, xs, k1, k2, k3, k4⟩ := r.ml g3
      refine ⟨_, k1, ?_⟩
      refine h1 st M0 fp σ H ρ s _ _ _ r g1 fun u H2 f2 t2 r2 => ?_
      cases r2
      have r'' := r.ext f2 t2
      obtain ⟨a', xs', k1', k2', k3', k4'⟩ := r''.ml g3
      rw [k1] at k1'; cases k1'
      refine ⟨a, xs', _, n, rfl, rfl, k3', by rw [k4'.length]; exact g4, ?_⟩
      have ha' : a ∈ fp i := by rw [k2]; exact List.mem_cons_self
      exact q _ σ _ (f2.toS.write ha') (Fresh.set (sub1 k2)) (r''.wrL g3 k1 k2' k3' (k4'.set (r.rp f2 rp) n))
    · cases g2
  · rename_i kvs g3
    obtain ⟨kk, g4, g2⟩ := Option.bind_eq_some_iff.mp g2
    split at g2
    · rename_i hl
      cases g2
      refine ⟨gSub (tVar i) (wE c e1) rSetD, fun X hX => pg_sub (pe_name hX hN hv hd hcd) (pe_w hX) (pset_dict hX.hu) (hasg _), ?_⟩
      obtain ⟨a, xs, k1, k2, k3, k4⟩ := r.md g3
      refine ⟨_, k1, ?_⟩
      refine h1 st M0 fp σ H ρ s _ _ _ r g1 fun u H2 f2 t2 r2 => ?_
      have r'' := r.ext f2 t2
      obtain ⟨a', xs', k1', k2', k3', k4'⟩ := r''.md g3
      rw [k1] at k1'; cases k1'
      refine ⟨a, upd H2 a (.dK (putK xs' kk v)), rfl, ?_, ?_⟩
      · rw [keyD_of g4 r2]
        exact DPut.k k3' (by rw [k4'.length, sizeLine_eq]; exact hl)
      · have ha' : a ∈ fp i := by rw [k2]; exact List.mem_cons_self
        exact q _ σ _ (f2.toS.write ha') (Fresh.set (sub1 k2)) (r''.wrD g3 k1 k2' k3' (k4'.put kk (r.rp f2 rp)))
    · cases g2
  · cases g2
def gxNil : Gxs := fun ds ρ s => match ds with
  | [] => some (ρ, s)
  | _ => none
def gxCons (h : Gx) (hs : Gxs) : Gxs := fun ds ρ s => match ds with
  | d :: r => (h d ρ s).bind fun p => hs r p.1 p.2
  | [] => none
def gxT (hs : Gxs) : Gx := fun d ρ s => match d with
  | .tuple ds => hs ds ρ s
  | _ => none
variable {gx : Gx} {gxs : Gxs}
theorem sgx_nil : SGxs c [] gxNil := by
  intro st M0 fp σ H ρ s v d ρ' s' Q r rp e q
  unfold gxNil at e
  split at e
  · cases e
    cases rp
    exact ⟨gNil, fun X hX => pgs_nil, rfl, q fp σ H FrS.refl Fresh.refl r⟩
  · cases e
theorem sgx_cons (h1 : SGx c e gx) (h2 : SGxs c es gxs) (ha : ∀ env, (assignEach (e :: es) env).map (·.2) = assign e env :: (assignEach es env).map (·.2) := by intro _; rfl) : SGxs c (e :: es) (gxCons gx gxs) := by
  intro st M0 fp σ H ρ s v d ρ' s' Q r rp e q
  unfold gxCons at e
  split at e
  · obtain ⟨⟨ρ1, s1⟩, e1, e⟩ := Option.bind_eq_some_iff.mp e
    cases rp with
    | cons r1 r2 =>
      refine ⟨gCons (wG c _) (wGs c es), fun X hX => pgs_cons (pg_w hX) (pgs_w hX) (ha _), _, _, rfl, ?_⟩
      refine h1 st M0 fp σ H ρ s _ _ ρ1 s1 _ r r1 e1 fun fp1 σ1 H1 f1 g1 r' => ?_
      refine h2 st M0 fp1 σ1 H1 ρ1 s1 _ _ ρ' s' _ r' (r.rpsS f1 g1 r2) e fun fp2 σ2 H2 f2 g2 r'' => ?_
      exact q fp2 σ2 H2 (f1.trans g1 f2) (Fresh.trans r'.sto f1 g1 g2) r''
  · cases e
theorem sgx_tup {k : Nat} (h : SGxs c es gxs) (hn : ∀ env, (assignEach es env).length = es.length := by intro _; rfl) (hst : ∀ env, (assignEach es env).findIdx? (·.1) = none := by intro _; rfl) (hl : ∀ ds ρ s r, gxs ds ρ s = some r → ds.length = es.length) : SGx c (.Tuple es k pos) (gxT gxs) := by
  intro st M0 fp σ H ρ s v d ρ' s' Q r rp e q
  unfold gxT at e
  split at e
  · rename_i ds
    cases rp with
    | @tup a xs _ h1 h2 =>
      refine ⟨gTup c.K es.length (wGs c es), fun X hX => (by rw [← hX.K]; exact pg_tup hX.calm (pgs_w hX) (hn _) (hst _)), a, xs, rfl, SqT.of h1, by rw [h2.length]; exact hl _ _ _ _ e, ?_⟩
      exact h st M0 fp σ H ρ s xs ds ρ' s' Q r h2 e q
  · cases e
theorem gxlen_nil : ∀ ds ρ s r, gxNil ds ρ s = some r → ds.length = ([] : List Expr).length := fun ds ρ s r e => by
  unfold gxNil at e
  split at e
  · rfl
  · cases e
theorem gxlen_cons (hl : ∀ ds ρ s r, gxs ds ρ s = some r → ds.length = es.length) : ∀ ds ρ s r, gxCons gx gxs ds ρ s = some r → ds.length = (e :: es).length := fun ds ρ s r q => by
  unfold gxCons at q
  split at q
  · obtain ⟨⟨ρ1, s1⟩, e1, q⟩ := Option.bind_eq_some_iff.mp q
    rw [List.length_cons, List.length_cons, hl _ _ _ _ q]
  · cases q
def dAsgX (h : Gx) (f : Ex) : Sx := fun ρ s => (f ρ s).bind fun p => (h p.1 ρ p.2).map fun q => .nx q.1 q.2
theorem ss_asgX {tg : Expr} (he : SE c e f) (hg : SGx c tg gx) (hs : ∀ env, swapsWithSole [tg] e pos.line env = pure false := by intro _; rfl) (hw : ∀ env, env.scope = c.sc → env.scope.kind = .function → swappedStores [tg] e env = pure none)
    (h1 : ∀ env, (assignEach [tg] env).map (·.2) = [assign tg env] := by intro _; rfl) : SS c (.Assign [tg] e pos) (dAsgX gx f) := by
  intro st M0 fp σ H ρ s o E r e0 q
  unfold dAsgX at e0
  obtain ⟨⟨d, s1⟩, e1, e0⟩ := Option.bind_eq_some_iff.mp e0
  obtain ⟨⟨ρ', s2⟩, e2, e0⟩ := Option.map_eq_some_iff.mp e0
  cases e0
  refine ⟨tAsg (wE c e) (wG c tg), fun X hX => ⟨fun pins s' σ' H' E' I h' => (ps_asg (pe_w hX) (pg_w hX) (hs _) (hw _ hX.sc I.ok.kind) (h1 _)).run pins s' σ' H' E' I h'⟩, ?_⟩
  refine he st M0 fp σ H ρ s d s1 _ r e1 fun v H1 f1 t1 r1 => ?_
  exact hg st M0 fp σ H1 ρ s1 v d ρ' s2 _ (r.ext f1 t1) r1 e2 fun fp' σ' H' f2 g2 r' => q fp' σ' H' (f1.toS.trans Fresh.refl f2) (Fresh.trans t1 f1.toS Fresh.refl g2) r'
end
end GF
/-! GF8: sorted of a dict's int keys, sorted of a set of ints -/
namespace GF
open PySem PySem.Spec PyProof.Rows L2

/-! ### sorted(d), any number of int keys -/
theorem call_sortedKeys {X : Cx} (hcalm : X.calm = true) : CallR X (.builtin "sorted") (fun xs H Q => ∃ (a : Addr) (kvs : List (Key × V)) (ks : List Int), xs = [.ref a] ∧ Rd H a (.dK kvs) ∧ kvs.map (·.1) = ks.map Sum.inl ∧
    ∀ (ys : List Int) (p : Addr), ys.Perm ks → ys.Pairwise (· ≤ ·) → H p = none → Q (.ref p) (upd H p (.lst (ys.map V.int)))) := by
  intro pins s σ H xs us Q I r ⟨a, kvs, ks, ex, hd, hks, q⟩
  subst ex
  obtain ⟨u, rfl, rx⟩ := vals1 r
  cases rx
  obtain ⟨z, lo, vs, rel, dd⟩ := dk_rd I.hok hd
  obtain ⟨ep, hat⟩ := dd.dictAt
  have hkeys : vs.map (·.1) = ks.map Sum.inl := rel.keys.symm.trans hks
  have hl : vs.length = ks.length := by simpa using congrArg List.length hkeys
  have hbig : vs.length ≤ sizeLine := by rw [← rel.length]; exact z
  refine Calls.call_function_entry PyProof.Rows.kind_sorted PyProof.Rows.plain_sorted PyProof.Rows.entry_sorted (PyProof.Rows.args_sorted1 _) ?_
  unfold Builtin.«sorted»
  refine wpAny_bind (m := checkCount "sorted" 1 1 _) (wpAny_pure ?_)
  have draws := PySem.W.kdl_dict (knd := mixKind X.prog X.w) (kvs := vs) (ep := ep) lo
  refine wpAny_bind (PySem.W.kdu_collect (A := X.A.in1) draws (I.ok.hd hcalm) hat hbig fun h1 tk acc keep got => ?_)
  have len : acc.toList.length = ks.length := by rw [Array.length_toList, got.1, hl]
  have all : IntsAre acc.toList ks := ints_each len fun j v e => by
    obtain ⟨k, x, e1, e2⟩ := got.2 j v (by rw [← Array.getElem?_toList]; exact e)
    have e3 : (ks.map Sum.inl)[j]? = some k := by rw [← hkeys, List.getElem?_map, e1]; rfl
    rw [List.getElem?_map] at e3
    obtain ⟨y, e4, rfl⟩ := Option.map_eq_some_iff.mp e3
    rcases keyIs_shape (show keyIs (Sum.inl y) v = true from e2) with ⟨i, t, ek, ev⟩ | ⟨z, t, ek, _⟩
    · cases ek; exact ⟨y, t, e4, ev⟩
    · cases ek
  have J : Inv X pins σ H { s with heap := h1, toks := tk } := I.kept keep
  refine wpAny_bind (wpAny_newList ?_ (by rw [len, ← hl]; exact hbig))
  have at1 : (h1.push (seqObj "list" acc.toList.toArray 0)).get? h1.objs.size = some (seqObj "list" acc.toList.toArray 0) := Heap.get?_push_size _ rfl
  show wpAny _ _ _ _ _ { s with heap := h1.push (seqObj "list" acc.toList.toArray 0), toks := tk }
  refine wpAny_bind (wpAny_holding (wpAny_call_entry PyProof.Rows.slot_list_sort ⟨_, at1, rfl⟩ PyProof.Rows.entry_list_sort
    (SrtO.list_sort_ord SrtO.swo_int at1 (by rw [len, ← hl]; exact hbig) (fun h2 => SrtO.ints_sortable all h2) fun out g1 g2 => ⟨_, rfl, ?_⟩) (PyProof.Rows.args_list_sort _)))
  obtain ⟨k1, k2, k3⟩ := SrtO.ints_out all g1 g2
  obtain ⟨ep2, at2⟩ := PyProof.Rows.sortedHeap_at (vs := acc.toList) (out := out.toArray) at1
  have llen : ((out.map SrtO.iv).map V.int).length ≤ sizeLine := by rw [List.length_map, k2.length_eq, ← hl]; exact hbig
  refine wpAny_pure ⟨_, rfl, .ref h1.objs.size, upd H h1.objs.size (.lst ((out.map SrtO.iv).map V.int)), J.laid (t' := tk) (fun b u e => ?_) (Nat.le_refl _) ⟨llen, out, ep2, vals_of_ints k1, at2⟩, rfl, q _ _ k2 k3 (J.hok.fresh (Nat.le_refl _))⟩
  have lt : b < h1.objs.size := Heap.lt_size e
  rw [PyProof.Rows.sortedHeap_old (Nat.ne_of_lt lt) (by rw [size_push']; exact Nat.lt_succ_of_lt lt)]
  exact Heap.get?_push_of_some _ e

/-! ### set(xs), a list of ints -/
abbrev emptyS (w : World) : Obj := { cls := .type "set", dict := none, data := .set #[] 0 (.fresh 0 0 (!w.params.followText "set-order")) }
abbrev memI (ns : List Int) (j : Int) : Bool := decide (j ∈ ns)
section
variable {P : Program} {w : World} {A : Around} {E : Value → Shared → Prop} {s : Shared} {l : Addr} {items : Array Value}
/-- what set.__init__ does to the empty set -/
theorem init_set_ints (ns : List Int) {R : Fin → Shared → Prop} (hh : A.handled = none) (hl : s.heap.IsList l items) (hit : IntsAre items.toList ns) (hb : ns.length + 1 < scanBound)
    (h : ∀ (h' : Heap) (tk c : Nat), SetR w h' s.heap.objs.size (memI ns) c → c ≤ ns.length → (∀ b o, s.heap.get? b = some o → h'.get? b = some o) → R (.done (.ret .none)) { s with heap := h', toks := tk }) :
    wpAny (model P w) A (Builtin.«set.__init__» ⟨[.ref s.heap.objs.size, .ref l], []⟩) R E { s with heap := s.heap.push (emptyS w) } := by
  have count : items.size = ns.length := by simpa using IntsAre.length hit
  obtain ⟨⟨c1, d1, dat, sl⟩, ho, hc, nl, hd⟩ := hl
  simp only at hc hd
  subst hc; subst hd
  have atS : (s.heap.push (emptyS w)).get? s.heap.objs.size = some (emptyS w) := Heap.get?_push_size _ rfl
  have atL : (s.heap.push (emptyS w)).get? l = some { cls := .type "list", dict := d1, data := .seq items nl, slots := sl } := Heap.get?_push_of_some _ ho
  have isL : (s.heap.push (emptyS w)).IsList l items := ⟨_, atL, rfl, nl, rfl⟩
  have u1 := F.sub_list_set
  have u2 := F.sub_list_frozenset
  have u3 : (Value.type "list" == Value.type "dict") = false := by decide
  unfold Builtin.«set.__init__» noKeywords Builtin.Frozenset.updateFrom
  generalize hPI : pyIter = PI
  wp_walk
  subst hPI
  refine wpAny_pyIter_list isL ?_
  refine wpAny_bind (wpAny_runValue ?_)
  have lt : l < s.heap.objs.size := Heap.lt_size ho
  have sz : (s.heap.push (emptyS w)).objs.size = s.heap.objs.size + 1 := Heap.size_push ..
  have calm : A.in1.handled = none := by simp [hh]
  have ne1 : l ≠ (s.heap.push (emptyS w)).objs.size := by rw [sz]; exact Nat.ne_of_lt (Nat.lt_succ_of_lt lt)
  have out : s.heap.objs.size ∉ [(s.heap.push (emptyS w)).objs.size, l] := by
    rw [sz]; simp only [List.mem_cons, List.not_mem_nil, or_false, not_or]; exact ⟨Nat.ne_of_lt (Nat.lt_succ_self _), Nat.ne_of_gt lt⟩
  have vals : ∀ (i : Nat) (v : Value), items[i]? = some v → ∃ k t, ns[i]? = some k ∧ v = .int k t := fun i v hv => by
    have lti : i < ns.length := by rw [← count]; exact (Array.getElem?_eq_some_iff.mp hv).1
    obtain ⟨t, e⟩ := PyProof.Rows.IntsAre.int_at hit i v (by rw [Array.getElem?_toList]; exact hv)
    refine ⟨ns[i], t, List.getElem?_eq_getElem lti, e.trans ?_⟩
    rw [List.getD_eq_getElem?_getD, List.getElem?_eq_getElem lti]; rfl
  refine set_update_ints ((Walks.list calm _ l ne1 items).toS) s.heap.objs.size out ns count hb vals items.size 0 _ (by omega) (Nat.zero_le _) ?st
    ⟨0, Nat.le_refl 0, ?first⟩ fun s' c' mv le' R' => ?_
  case st => exact ⟨⟨_, Heap.get?_push_size _ rfl, rfl, rfl⟩, isL.push _⟩
  case first =>
    have e : ((s.heap.push (emptyS w)).push { cls := .type "list_iterator", data := .fields #[.ref l, .int 0 0] }).get? s.heap.objs.size = some (emptyS w) := Heap.get?_push_of_some _ atS
    exact setR_new_at e
  obtain ⟨h', g2, d', tk', os'⟩ := s'
  obtain rfl : g2 = s.gens := mv.gens
  obtain rfl : d' = s.drawn := mv.drawn
  obtain rfl : os' = s.os := mv.os
  show wpAny _ _ _ _ _ _
  refine wpAny_pure ?_
  show wpAny _ _ (ret Value.none) _ _ _
  rw [count] at le'
  refine wpAny_pure (h h' tk' c' R' le' fun b o e => ?_)
  have lb : b < s.heap.objs.size := Heap.lt_size e
  refine mv.heap b o ?_ (Heap.get?_push_of_some _ (Heap.get?_push_of_some _ e))
  rw [sz]; simp only [List.mem_cons, List.not_mem_nil, or_false, not_or]; exact ⟨Nat.ne_of_lt lb, Nat.ne_of_lt (Nat.lt_succ_of_lt lb)⟩
/-- the call -/
theorem call_set_ints (ns : List Int) {Q : Value → Shared → Prop} (hh : A.handled = none) (hl : s.heap.IsList l items) (hit : IntsAre items.toList ns) (hb : ns.length + 1 < scanBound)
    (h : ∀ (h' : Heap) (tk c : Nat), SetR w h' s.heap.objs.size (memI ns) c → c ≤ ns.length → (∀ b o, s.heap.get? b = some o → h'.get? b = some o) → Q (.ref s.heap.objs.size) { s with heap := h', toks := tk }) :
    wpAny (model P w) A (call (.type "set") [.ref l]) Q E s := by
  obtain ⟨c, tl, way⟩ := F.called_set.mro
  have f1 := F.called_set.made
  have f2 := F.called_set.sub
  have f3 := F.called_set.notType
  have f4 := F.called_set.canCreate
  have f5 := F.typeCall_set_1 (.ref l)
  refine wpAny_call (codeAny_of_tree ?_)
  show wpAny _ _ (callAny (.type "set") _) _ _ _
  refine wpAny_pure ⟨Code.quiet_builtin _ (by decide +kernel), codeAny_builtin F.entry_type_call ?_⟩
  rw [Around.under_plain (weight_type_call_type "set" [.ref l] []) rfl]
  repeat (any_goals (first | assumption | wp_step))
  refine codeAny_mono (code_set_led1 (.ref l) (E := E) (Q₁ := fun o s1 => o = .ref s.heap.objs.size ∧ s1 = { s with heap := s.heap.push (emptyS w) }) ⟨rfl, rfl⟩) fun r s1 made => ?_
  rcases r with e | (_ | _ | _ | obj)
  all_goals first | exact made | exact made.elim | skip
  obtain ⟨rfl, rfl⟩ := made
  have ty : Shared.TypeIs { s with heap := s.heap.push (emptyS w) } (.ref s.heap.objs.size) "set" := ⟨_, Heap.get?_push_size _ rfl, rfl⟩
  have f6 := F.called_set.init.lookup
  have f7 := F.called_set.init.bind (.ref s.heap.objs.size)
  repeat (any_goals (first | assumption | wp_step))
  refine codeAny_mono (codeAny_call_builtin (R := wants (fun r s2 => r = .none ∧ ∃ h' tk c, s2 = { s with heap := h', toks := tk } ∧ SetR w h' s.heap.objs.size (memI ns) c ∧ c ≤ ns.length ∧ (∀ b o, s.heap.get? b = some o → h'.get? b = some o)) E)
    F.called_set.init.plain F.entry_set_init (check_set_init_1 ty ?_)) fun r2 s2 said => ?_
  · exact init_set_ints ns (by simp [hh]) hl hit hb fun h' tk c a1 a2 a3 => ⟨rfl, h', tk, c, rfl, a1, a2, a3⟩
  · rcases r2 with e | (_ | _ | _ | obj)
    all_goals first | exact said | exact said.elim | skip
    obtain ⟨rfl, h', tk, c, rfl, a1, a2, a3⟩ := said
    repeat (any_goals (first | assumption | wp_step))
    exact h _ _ _ a1 a2 a3
end
end GF
/-! GF9: sorted of a name (a dict or a list), of a set made of a list of ints -/
namespace GF
open PySem PySem.Spec PyProof.Rows L2

/-- the keys of a dict, all ints -/
def intKeys : List (Key × D) → Option (List Int)
  | [] => some []
  | (.inl i, _) :: r => (intKeys r).map (i :: ·)
  | _ => none
theorem intKeys_eq : ∀ {kvs : List (Key × D)} {ns : List Int}, intKeys kvs = some ns → kvs.map (·.1) = ns.map Sum.inl
  | [], _, h => by cases h; rfl
  | (.inl i, d) :: r, ns, h => by
    unfold intKeys at h
    obtain ⟨ms, e1, rfl⟩ := Option.map_eq_some_iff.mp h
    rw [List.map_cons, List.map_cons, intKeys_eq e1]
  | (.inr i, d) :: r, ns, h => by unfold intKeys at h; cases h
/-- strictly rising, the same members -/
def insU (x : Int) : List Int → List Int
  | [] => [x]
  | y :: r => if x < y then x :: y :: r else if x = y then y :: r else y :: insU x r
def sortU : List Int → List Int
  | [] => []
  | x :: r => insU x (sortU r)
theorem mem_insU {x k : Int} : ∀ {l : List Int}, k ∈ insU x l ↔ k = x ∨ k ∈ l
  | [] => by unfold insU; simp
  | y :: r => by
    unfold insU
    split
    · simp
    · split
      · rename_i e; subst e; simp
      · rw [List.mem_cons, mem_insU, List.mem_cons]
        constructor
        · rintro (h | h | h)
          · exact .inr (.inl h)
          · exact .inl h
          · exact .inr (.inr h)
        · rintro (h | h | h)
          · exact .inr (.inl h)
          · exact .inl h
          · exact .inr (.inr h)
theorem mem_sortU {k : Int} : ∀ {l : List Int}, k ∈ sortU l ↔ k ∈ l
  | [] => Iff.rfl
  | x :: r => by unfold sortU; rw [mem_insU, mem_sortU, List.mem_cons]
theorem insU_rise {x : Int} : ∀ {l : List Int}, l.Pairwise (· < ·) → (insU x l).Pairwise (· < ·)
  | [], _ => List.pairwise_singleton _ _
  | y :: r, h => by
    obtain ⟨h1, h2⟩ := List.pairwise_cons.mp h
    unfold insU
    split
    · rename_i lt
      refine List.pairwise_cons.mpr ⟨fun z hz => ?_, h⟩
      rcases List.mem_cons.mp hz with rfl | hz
      · exact lt
      · exact Int.lt_trans lt (h1 z hz)
    · split
      · exact h
      · rename_i a b
        refine List.pairwise_cons.mpr ⟨fun z hz => ?_, insU_rise h2⟩
        rcases mem_insU.mp hz with rfl | hz
        · omega
        · exact h1 z hz
theorem sortU_rise : ∀ {l : List Int}, (sortU l).Pairwise (· < ·)
  | [] => .nil
  | x :: r => by unfold sortU; exact insU_rise sortU_rise
theorem rise_same : ∀ {a b : List Int}, a.Pairwise (· < ·) → b.Pairwise (· < ·) → (∀ k, k ∈ a ↔ k ∈ b) → a = b
  | [], [], _, _, _ => rfl
  | [], y :: r, _, _, h => absurd ((h y).mpr List.mem_cons_self) (by simp)
  | x :: r, [], _, _, h => absurd ((h x).mp List.mem_cons_self) (by simp)
  | x :: r, y :: t, ha, hb, h => by
    obtain ⟨a1, a2⟩ := List.pairwise_cons.mp ha
    obtain ⟨b1, b2⟩ := List.pairwise_cons.mp hb
    have e : x = y := by
      rcases List.mem_cons.mp ((h x).mp List.mem_cons_self) with e | e
      · exact e
      · rcases List.mem_cons.mp ((h y).mpr List.mem_cons_self) with e2 | e2
        · exact e2.symm
        · have := a1 y e2; have := b1 x e; omega
    subst e
    rw [rise_same a2 b2 fun k => ⟨fun m => ?_, fun m => ?_⟩]
    · rcases List.mem_cons.mp ((h k).mp (List.mem_cons_of_mem _ m)) with e | e
      · exact absurd (a1 k m) (by omega)
      · exact e
    · rcases List.mem_cons.mp ((h k).mpr (List.mem_cons_of_mem _ m)) with e | e
      · exact absurd (b1 k m) (by omega)
      · exact e

section
variable {c : Cfg} {a b e : Expr} {es : List Expr} {f g : Ex} {fs : Exs} {pos p p2 q2 pos' : Pos} {i : Nat} {x : Str}
/-- sorted(name) -/
def dSrtN (i : Nat) : Exs := fun ρ s => match dictOf ρ i with
  | some kvs => (intKeys kvs).map fun ns => ((sortI ns).map PyData.int, s)
  | none => dCallF mSorted (dCons (dVar i) dNil) ρ s
theorem sf_sortN (hN : c.N[i]? = some x) (hv : visB c.sc x = true) (hg : glB c.sc "sorted" = true) (hm : c.mg "sorted" = none) (hd : (x == ("__debug__" : Str)) = false := by decide) (hcd : (x == ("__classdict__" : Str)) = false := by decide) : SF c (.Call (.Name "sorted" p) [.Name x pos'] [] pos) (dSrtN i) := by
  intro st M0 fp σ H ρ s ds s' Q r e q
  unfold dSrtN at e
  split at e
  · rename_i kvs e0
    obtain ⟨ns, e1, e⟩ := Option.map_eq_some_iff.mp e
    cases e
    obtain ⟨a, ks, g1, g2, g3⟩ := r.dict e0
    refine ⟨tCB (wCall c (.builtin "sorted")) (tCons (tVar i) tNil), fun X hX => ?_, ?_⟩
    · exact pe_callB (call_w hX) (by show X.env.scope.names.lookup _ = _; rw [hX.sc]; exact gl_of hg) (by rw [hX.mg]; exact hm) (by decide +kernel) (pa_cons (pe_name hX hN hv hd hcd) pa_nil rfl) (by decide) (by decide) rfl rfl
    · refine ⟨_, g1, ?_⟩
      refine ⟨_, fun X hX => call_sortedKeys hX.calm, a, ks, ns, rfl, g2, by rw [g3.1]; exact intKeys_eq e1, fun ys l pm sr hl => ?_⟩
      have es : ys = sortI ns := PySem.W.ksm_same (pm.trans (sortI_perm ns).symm) sr (sortI_sorted ns)
      rw [es]
      have sm : Same H (upd H l (.lst ((sortI ns).map V.int))) := Same.upd hl
      exact q l _ _ (FrE.same sm) (r.sto.same sm) hl upd_same (Rps.ofInts _)
  · have base : SF c (.Call (.Name "sorted" p) [.Name x pos'] [] pos) (dCallF mSorted (dCons (dVar i) dNil)) := sf_callB cf_sorted hg hm (by decide +kernel) (sa_cons (se_var hN hv hd hcd) sa_nil)
    exact base st M0 fp σ H ρ s ds s' Q r e q
/-- sorted(set(xs)) -/
def dSrtSet (fs : Exs) : Exs := fun ρ s => (fs ρ s).bind fun p => (intsOf p.1).bind fun ns => if ns.length < 64 then some ((sortU ns).map PyData.int, p.2) else none
theorem sf_sortSet (ha : SF c a fs) (hg : glB c.sc "sorted" = true) (hm : c.mg "sorted" = none) (hg2 : glB c.sc "set" = true) (hm2 : c.mg "set" = none) (hs : ∀ env, starEach [a] env = [(false, eval a env)] := by intro _; rfl) :
    SF c (.Call (.Name "sorted" p) [.Call (.Name "set" p2) [a] [] q2] [] pos) (dSrtSet fs) := by
  intro st M0 fp σ H ρ s ds s' Q r e q
  unfold dSrtSet at e
  obtain ⟨⟨d1, s1⟩, e1, e⟩ := Option.bind_eq_some_iff.mp e
  obtain ⟨ns, e2, e⟩ := Option.bind_eq_some_iff.mp e
  split at e
  · rename_i h64
    cases e
    have look : ∀ {X : Cx}, In c X → ∀ {y : Str}, glB c.sc y = true → X.env.scope.names.lookup y = some .globalImplicit := fun {X} hX {y} h => by rw [hX.sc]; exact gl_of h
    refine ⟨tCB (wCall c (.builtin "sorted")) (tCons (tCB (wCall c (.type "set")) (tCons (wE c a) tNil)) tNil), fun X hX => ?_, ?_⟩
    · refine pe_callB (call_w hX) (look hX hg) (by rw [hX.mg]; exact hm) (by decide +kernel) (pa_cons ?_ pa_nil rfl) (by decide) (by decide) rfl rfl
      exact pe_callTy (call_w hX) (look hX hg2) (by rw [hX.mg]; exact hm2) (by decide +kernel) (pa_cons (pe_w hX) pa_nil (hs _)) (by decide) (by decide) (hs _) rfl
    · refine ha st M0 fp σ H ρ s d1 s1 _ r e1 fun l xs H1 f1 t1 hn hl r1 => ?_
      rw [intsOf_eq (show intsOf d1 = some ns from e2)] at r1
      rw [r1.ints] at hl
      have hlen : ns.length + 1 < scanBound := by have h : 100 < scanBound := by decide
                                                  omega
      refine ⟨fun vs H2 Q2 => ∃ (l : Addr) (ns : List Int), vs = [.ref l] ∧ SqL c.K H2 l (ns.map V.int) ∧ ns.length + 1 < scanBound ∧ ∀ (b : Addr) (n : Nat), n ≤ ns.length → H2 b = none → Q2 (.ref b) (upd H2 b (SetO c.w b (memI ns) n)), fun X hX => ?_, ?_⟩
      · intro pins s σ H vs us Q I r h
        obtain ⟨l, ns, rfl, hl, hb, q⟩ := h
        rw [← hX.K] at hl
        obtain ⟨its, rv, pl, hz⟩ := I.list hl
        rw [Vals.ref1 r]
        refine call_set_ints (P := X.prog) (w := X.w) ns (I.ok.hd hX.calm) pl.isList (by simpa using rv.ints) hb fun h' tk n R le keep => ?_
        refine ⟨.ref s.heap.objs.size, upd H s.heap.objs.size (SetO X.w s.heap.objs.size (memI ns) n), I.laid (t' := tk) (fun b u e => keep b u e) (Nat.le_refl _) (setO_new R), rfl, ?_⟩
        rw [hX.w]
        exact q _ n le (I.hok.fresh (Nat.le_refl _))
      · refine ⟨l, ns, rfl, SqL.of hl, hlen, fun b n le hb => ?_⟩
        have sm1 : Same H1 (upd H1 b (SetO c.w b (memI ns) n)) := Same.upd hb
        refine ⟨rSortedSet c.w, fun X hX => (by rw [← hX.w]; exact cr_sortedSet hX.calm), b, memI ns, n, rfl, upd_same, by omega, fun ks pp hr hm3 hl3 hpp => ?_⟩
        have ek : ks = sortU ns := rise_same hr sortU_rise fun k => by rw [hm3, mem_sortU]; unfold memI; simp
        have sm2 : Same (upd H1 b (SetO c.w b (memI ns) n)) (upd (upd H1 b (SetO c.w b (memI ns) n)) pp (.lst (ks.map V.int))) := Same.upd hpp
        have f2 : FrE st H (upd (upd H1 b (SetO c.w b (memI ns) n)) pp (.lst (ks.map V.int))) := (f1.trans (FrE.same sm1)).trans (FrE.same sm2)
        refine q pp _ _ f2 ((t1.same sm1).same sm2) ((f1.trans (FrE.same sm1)).none r.sto (t1.same sm1) hpp) upd_same ?_
        rw [ek]
        exact Rps.ofInts _
  · cases e
end
end GF
/-! GF10: what a def tells, with fuel; the law's draws; the law's end -/
namespace GF
open PySem PySem.Spec PyProof.Rows L2

/-! ### what is told with enough fuel -/
open Classical in
noncomputable def lim {α : Type} (f : Nat → Option α) : Option α := if h : ∃ a n, f n = some a then some (Classical.choose h) else none
theorem lim_some {α : Type} {f : Nat → Option α} {a : α} (h : lim f = some a) : ∃ n, f n = some a := by
  unfold lim at h
  split at h
  · rename_i w
    cases h
    exact Classical.choose_spec w
  · cases h
theorem lim_eq {α : Type} {f : Nat → Option α} (mono : ∀ n m a, n ≤ m → f n = some a → f m = some a) {a : α} {n : Nat} (h : f n = some a) : lim f = some a := by
  have w : ∃ a n, f n = some a := ⟨a, n, h⟩
  unfold lim
  rw [dif_pos w]
  obtain ⟨k, hk⟩ := Classical.choose_spec w
  have h1 := mono n (max n k) a (Nat.le_max_left ..) h
  have h2 := mono k (max n k) _ (Nat.le_max_right ..) hk
  rw [h1] at h2
  exact h2.symm
def Mono (G : Nat → Sx) : Prop := ∀ n m ρ s o, n ≤ m → G n ρ s = some o → G m ρ s = some o
theorem mono_c (G : Sx) : Mono fun _ => G := fun _ _ _ _ _ _ h => h
theorem mono_seq {G G' : Nat → Sx} (h : Mono G) (h' : Mono G') : Mono fun n => dSeq (G n) (G' n) := by
  intro n m ρ s o le e
  unfold dSeq at e
  obtain ⟨o1, e1, e2⟩ := Option.bind_eq_some_iff.mp e
  show (G m ρ s).bind _ = _
  rw [h n m ρ s o1 le e1]
  cases o1 with
  | nx ρ1 s1 => exact h' n m ρ1 s1 o le e2
  | rt d s1 => exact e2
  | bk ρ1 s1 => exact e2
  | ct ρ1 s1 => exact e2
theorem mono_if {t : Tx} {G G' : Nat → Sx} (h : Mono G) (h' : Mono G') : Mono fun n => dIf t (G n) (G' n) := by
  intro n m ρ s o le e
  unfold dIf at e
  obtain ⟨⟨b, s1⟩, e1, e2⟩ := Option.bind_eq_some_iff.mp e
  show (t ρ s).bind _ = _
  rw [e1]
  show (if b = true then G m ρ s1 else G' m ρ s1) = some o
  replace e2 : (if b = true then G n ρ s1 else G' n ρ s1) = some o := e2
  split
  · rename_i hb; rw [if_pos hb] at e2; exact h n m ρ s1 o le e2
  · rename_i hb; rw [if_neg hb] at e2; exact h' n m ρ s1 o le e2
theorem mono_fz {p : Nat → Bool} {G : Nat → Sx} (h : Mono G) : Mono fun n => dFz p (G n) := fun n m ρ s o le e => h n m _ s o le e
theorem mono_forL {hx : Hx} {G : Nat → Sx} (h : Mono G) : ∀ ds : List D, Mono fun n => dForL ds hx (G n)
  | [] => fun n m ρ s o le e => e
  | d :: r => fun n m ρ s o le e => by
    show (hx d ρ).bind _ = _
    replace e : (hx d ρ).bind _ = some o := e
    obtain ⟨ρ1, e1, e2⟩ := Option.bind_eq_some_iff.mp e
    rw [e1]
    obtain ⟨o1, e3, e4⟩ := Option.bind_eq_some_iff.mp e2
    show (G m ρ1 s).bind _ = _
    rw [h n m ρ1 s o1 le e3]
    cases o1 with
    | nx ρ' s' => exact mono_forL h r n m ρ' s' o le e4
    | ct ρ' s' => exact mono_forL h r n m ρ' s' o le e4
    | bk ρ' s' => exact e4
    | rt d s' => exact e4
theorem mono_for {fs : Exs} {hx : Hx} {G : Nat → Sx} (h : Mono G) : Mono fun n => dFor fs hx (G n) := by
  intro n m ρ s o le e
  unfold dFor at e
  obtain ⟨⟨ds, s1⟩, e1, e2⟩ := Option.bind_eq_some_iff.mp e
  show (fs ρ s).bind _ = _
  rw [e1]
  exact mono_forL h ds n m ρ s1 o le e2
theorem mono_while {t : Tx} {G : Nat → Sx} (h : Mono G) : Mono fun n => dWhile n t (G n) := by
  have key : ∀ k n l m ρ s o, n ≤ m → k ≤ l → dWhile k t (G n) ρ s = some o → dWhile l t (G m) ρ s = some o := by
    intro k
    induction k with
    | zero => intro n l m ρ s o _ _ e; cases e
    | succ k ih =>
      intro n l m ρ s o le lk e
      cases l with
      | zero => omega
      | succ l =>
        unfold dWhile at e ⊢
        obtain ⟨⟨b, s1⟩, e1, e2⟩ := Option.bind_eq_some_iff.mp e
        rw [e1]
        replace e2 : (if b = true then _ else _) = some o := e2
        show (if b = true then _ else _) = some o
        split
        · rename_i hb
          rw [if_pos hb] at e2
          obtain ⟨o1, e3, e4⟩ := Option.bind_eq_some_iff.mp e2
          show (G m ρ s1).bind _ = _
          rw [h n m ρ s1 o1 le e3]
          cases o1 with
          | nx ρ' s' => exact ih n l m ρ' s' o le (by omega) e4
          | ct ρ' s' => exact ih n l m ρ' s' o le (by omega) e4
          | bk ρ' s' => exact e4
          | rt d s' => exact e4
        · rename_i hb
          rw [if_neg hb] at e2
          exact e2
  exact fun n m ρ s o le e => key n n m m ρ s o le le e
theorem mono_run {G : Nat → Sx} (h : Mono G) {N : Nat} {ds : List D} {s : DS} : ∀ n m a, n ≤ m → runFn N (G n) ds s = some a → runFn N (G m) ds s = some a := by
  intro n m a le e
  unfold runFn at e ⊢
  cases q : G n (ds.map (fun d => some (.im d)) ++ List.replicate (N - ds.length) none) s with
  | none => rw [q] at e; cases e
  | some o => rw [q] at e; rw [h n m _ _ o le q]; exact e
theorem mono_runS {G : Nat → Sx} (h : Mono G) {N : Nat} {ds : List D} {s : DS} : ∀ n m a, n ≤ m → runFnS N (G n) ds s = some a → runFnS N (G m) ds s = some a := by
  intro n m a le e
  unfold runFnS at e ⊢
  cases q : G n (some .st :: (ds.map (fun d => some (.im d)) ++ List.replicate (N - (ds.length + 1)) none)) s with
  | none => rw [q] at e; cases e
  | some o => rw [q] at e; rw [h n m _ _ o le q]; exact e
/-- what a def tells -/
noncomputable def tells (N : Nat) (G : Nat → Sx) : List D → Option D := fun ds => (lim fun n => runFn N (G n) ds ([], 0)).map (·.1)
noncomputable def tellsS (N : Nat) (G : Nat → Sx) : List D → DS → Option (D × DS) := fun ds s => lim fun n => runFnS N (G n) ds s
theorem tells_eq {N : Nat} {G : Nat → Sx} (h : Mono G) {ds : List D} {d : D} {s' : DS} {n : Nat} (e : runFn N (G n) ds ([], 0) = some (d, s')) : tells N G ds = some d := by
  unfold tells
  rw [lim_eq (mono_run h) e]; rfl
theorem tellsS_eq {N : Nat} {G : Nat → Sx} (h : Mono G) {ds : List D} {s : DS} {r : D × DS} {n : Nat} (e : runFnS N (G n) ds s = some r) : tellsS N G ds s = some r := lim_eq (mono_runS h) e
section
variable {P : Program} {w : World} {K : PySem.W.Frag} {mg : Str → Option Value} {base : Heap} {x qual : Str} {stm : Stmt} {f : Addr} {fd : FuncData} {N ps : List Str} {k : Nat} {G : Nat → Sx}
theorem ok_pure {np : Nat} (F : Fun K x qual stm f fd) (S : FnScope N ps (defScope stm)) (hp : ps.length = np) (hb : ∀ n, SSs (cfgOf P w K mg base N (defScope stm) k) (defBody stm) (G n)) : FnOk P w K mg base CX0 (k + 1) f fd ps (spP np (tells N.length G)) := by
  refine F.ok S (fun vs H Q E h => h.1.trans hp.symm) fun cdv A outer s H vs Q E hr h => ?_
  obtain ⟨hl, M, ds, d, hM, rs, em, q⟩ := h
  unfold tells at em
  obtain ⟨⟨d1, s1⟩, em2, e2⟩ := Option.map_eq_some_iff.mp em
  obtain rfl : d1 = d := e2
  obtain ⟨n, e1⟩ := lim_some em2
  have rel : Rel M (fun _ => []) none (L2.start N vs) H (ds.map (fun d => some (.im d)) ++ List.replicate (N.length - ds.length) none) (([], 0) : DS) := start_rel hM (fun _ _ z => by cases z) rs rfl
  have fin : ∀ (o : Out), G n (ds.map (fun d => some (.im d)) ++ List.replicate (N.length - ds.length) none) ([], 0) = some o → Post none M (fun _ => []) H o { nx := fun _ H' => Q .non H', rt := Q } := fun o eo => by
    unfold runFn at e1
    rw [eo] at e1
    cases o with
    | rt d' s2 =>
      cases e1
      exact fun v H' fr _ rp => q v H' (fun a ob e => fr a ob e (fun _ _ z => by cases z) fun i => by simp) rp
    | nx ρ2 s2 =>
      cases e1
      exact fun fp' σ' H' fr _ r' => q .non H' (fun a ob e => fr a ob e (fun _ _ z => by cases z) fun i => by simp) .non
    | bk _ _ => cases e1
    | ct _ _ => cases e1
  cases eo : G n (ds.map (fun d => some (.im d)) ++ List.replicate (N.length - ds.length) none) (([], 0) : DS) with
  | none => unfold runFn at e1; rw [eo] at e1; cases e1
  | some o =>
    obtain ⟨t, ht, hq⟩ := hb n none M _ _ H _ _ o _ rel eo (fin o eo)
    exact ⟨t, ht _ ⟨rfl, rfl, rfl, rfl, rfl, rfl, S.nd, rfl, fun _ _ => rfl, rfl, hr, rfl⟩, hq⟩
theorem ok_state {np : Nat} (F : Fun K x qual stm f fd) (S : FnScope N ps (defScope stm)) (hp : ps.length = np + 1) (hb : ∀ n, SSs (cfgOf P w K mg base N (defScope stm) k) (defBody stm) (G n)) : FnOk P w K mg base CX0 (k + 1) f fd ps (spS np (tellsS N.length G)) := by
  refine F.ok S (fun vs H Q E h => h.1.trans hp.symm) fun cdv A outer s0 H vs Q E hr h => ?_
  obtain ⟨hl, M, sa, sc, us, ds, s, d, s', rfl, hM, tk, rs, em, q⟩ := h
  obtain ⟨n, e1⟩ := lim_some em
  have dl : ds.length = np := rs.length.symm.trans (by simpa using hl)
  have rel : Rel M (fun _ => []) (some (sa, sc)) (L2.start N (.ref sa :: us)) H (some .st :: (ds.map (fun d => some (.im d)) ++ List.replicate (N.length - (ds.length + 1)) none)) s := by
    have hlu := rs.length
    refine ⟨by simp [L2.start, hlu], tk, hM, fun i a h => by simp at h, fun i j a h => by simp at h, fun i _ => rfl, fun i sl e => ?_⟩
    cases i with
    | zero =>
      cases e
      exact ⟨.ref sa, rfl, rfl, sa, sc, rfl, rfl⟩
    | succ i =>
      rw [List.getElem?_cons_succ] at e
      by_cases hi : i < ds.length
      · rw [List.getElem?_append_left (by simpa using hi), List.getElem?_map] at e
        obtain ⟨d, e1, e2⟩ := Option.map_eq_some_iff.mp e
        cases e2
        obtain ⟨v, e3, e4⟩ := rs.get e1
        refine ⟨v, ?_, rfl, e4.less fun a z => z.elim id fun ⟨_, z⟩ => by simp at z⟩
        unfold L2.start
        rw [List.map_cons, List.cons_append, List.getElem?_cons_succ, List.getElem?_append_left (by rw [List.length_map]; omega), List.getElem?_map, e3]; rfl
      · rw [List.getElem?_append_right (by simpa using hi), List.getElem?_replicate] at e
        split at e <;> cases e
  have fin : ∀ (o : Out), G n (some .st :: (ds.map (fun d => some (.im d)) ++ List.replicate (N.length - (ds.length + 1)) none)) s = some o → Post (some (sa, sc)) M (fun _ => []) H o { nx := fun _ H' => Q .non H', rt := Q } := fun o eo => by
    unfold runFnS at e1
    rw [eo] at e1
    cases o with
    | rt d' s2 =>
      cases e1
      exact fun v H' fr t2 rp => q v H' (fun a ob e n => fr a ob e n fun i => by simp) t2 rp
    | nx ρ2 s2 =>
      cases e1
      exact fun fp' σ' H' fr _ r' => q .non H' (fun a ob e n => fr a ob e n fun i => by simp) r'.sto .non
    | bk _ _ => cases e1
    | ct _ _ => cases e1
  cases eo : G n (some .st :: (ds.map (fun d => some (.im d)) ++ List.replicate (N.length - (ds.length + 1)) none)) s with
  | none => unfold runFnS at e1; rw [eo] at e1; cases e1
  | some o =>
    obtain ⟨t, ht, hq⟩ := hb n (some (sa, sc)) M _ _ H _ _ o _ rel eo (fin o eo)
    exact ⟨t, ht _ ⟨rfl, rfl, rfl, rfl, rfl, rfl, S.nd, rfl, fun _ _ => rfl, rfl, hr, rfl⟩, hq⟩
end

/-! ### draws -/
def dropZ : List Int → List Int
  | [] => []
  | x :: r => if x = 0 then dropZ r else x :: r
def drawV (m : Int) (s : DS) : Int × DS := match dropZ s.1 with
  | v :: r => (v.fmod m, (v.fdiv m :: r, s.2))
  | [] => (((((s.2 * 48271 + 12345).fmod 2147483647).fdiv 64).fmod m), ([], (s.2 * 48271 + 12345).fmod 2147483647))
def m_draw : List D → DS → Option (D × DS)
  | [.int m], s => if 0 < m ∧ m < 1073741824 then some (.int (drawV m s).1, (drawV m s).2) else none
  | _, _ => none
theorem drawV_lt {m : Int} (h : 0 < m) (s : DS) : 0 ≤ (drawV m s).1 ∧ (drawV m s).1 < m := by
  unfold drawV
  split
  · exact ⟨Int.fmod_nonneg_of_pos _ h, Int.fmod_lt_of_pos _ h⟩
  · exact ⟨Int.fmod_nonneg_of_pos _ h, Int.fmod_lt_of_pos _ h⟩
theorem m_draw_eq {m : Int} (h : 0 < m) (h2 : m < 1073741824) (s : DS) : m_draw [.int m] s = some (.int (drawV m s).1, (drawV m s).2) := by
  show (if 0 < m ∧ m < 1073741824 then some (PyData.int (drawV m s).1, (drawV m s).2) else none) = _
  rw [if_pos ⟨h, h2⟩]
end GF
/-! GF11: _law_draw, _law_state, the law's own first row -/
namespace GF
open PySem PySem.Spec PyProof.Rows L2

theorem upd_self {H : Hp} {a : Addr} {o : HO} (h : H a = some o) : upd H a o = H := by
  funext b
  by_cases e : b = a
  · rw [e, upd_same, h]
  · rw [upd_ne e]
theorem upd_upd {H : Hp} {a : Addr} {o o' : HO} : upd (upd H a o) a o' = upd H a o' := by
  funext b
  by_cases e : b = a
  · rw [e, upd_same, upd_same]
  · rw [upd_ne e, upd_ne e, upd_ne e]
theorem ite_y {c : Prop} [Decidable c] {a b : Prop} (h : c) (x : a) : if c then a else b := by rw [if_pos h]; exact x
theorem ite_n {c : Prop} [Decidable c] {a b : Prop} (h : ¬ c) (x : b) : if c then a else b := by rw [if_neg h]; exact x
def rLen1 (K : PySem.W.Frag) : List V → Hp → VK → Prop := fun xs H Q => ∃ p ys, xs = [.ref p] ∧ (SqL K H p ys ∨ SqT K H p ys) ∧ Q (.int ys.length) H
def rInt1 : List V → Hp → VK → Prop := fun xs H Q => (∃ i, xs = [V.int i] ∧ Q (V.int i) H) ∨ ∃ k, xs = [V.bl k] ∧ Q (V.int (if k = true then 1 else 0)) H
def rModI : R2 := rI (fun _ j => j ≠ 0) fun i j => V.int (i.fmod j)
def rDivI : R2 := rI CDivN fun i j => V.int (i.fdiv j)
def tFull (K : PySem.W.Frag) : TT := tTest (tOp (rI0 fun i j => V.bl (decide (j < i))) (tCB (rLen1 K) (tCons (tVar 2) tNil)) (tC (.int 0)))
def tDraw (K : PySem.W.Frag) : TS :=
  tSeq (tAsg (tOp (rIxL K) (tVar 0) (tC (.int 0))) (gName 2))
  (tSeq (tWhile (tAnd (tFull K) (tTest (tOp rEq (tOp (rIxL K) (tVar 2) (tC (.int 0))) (tC (.int 0))))) (tDrop (tBM K "list" rPopAt (tVar 2) (tCons (tC (.int 0)) tNil))))
  (tSeq (tIfS (tFull K)
    (tSeq (tAsg (tOp (rIxL K) (tVar 2) (tC (.int 0))) (gName 3))
    (tSeq (tAsg (tOp rDivI (tVar 3) (tVar 1)) (gSub (tVar 2) (tC (.int 0)) rSetL))
    (tRet (tOp rModI (tCB rInt1 (tCons (tVar 3) tNil)) (tVar 1))))) tNext)
  (tSeq (tAsg (tOp rModI (tCB rInt1 (tCons (tOp (rI0 fun i j => V.int (i + j)) (tOp (rI CMul fun i j => V.int (i * j)) (tOp (rIxL K) (tVar 0) (tC (.int 1))) (tC (.int 48271))) (tC (.int 12345))) tNil)) (tC (.int 2147483647))) (gName 4))
  (tSeq (tAsg (tVar 4) (gSub (tVar 0) (tC (.int 1)) rSetL))
  (tRet (tOp rModI (tCB rInt1 (tCons (tOp rDivI (tVar 4) (tC (.int 64))) tNil)) (tVar 1)))))))
theorem draw_run {K : PySem.W.Frag} {vs : List V} {H : Hp} {Q : VK} {E : XK} (h : spS 1 m_draw vs H Q E) : tDraw K { nx := fun _ H' => Q .non H', rt := Q } (L2.start ["state", "many", "cells", "value", "mixed"] vs) H := by
  obtain ⟨hl, M, sa, sc, us, ds, s, d, s', rfl, hM, tk, rs, em, q⟩ := h
  obtain ⟨cells, seed⟩ := s
  obtain ⟨ne, Ma, Mc, hA, hC⟩ := tk sa sc rfl
  obtain ⟨m, rfl, m1, m2, e1⟩ : ∃ m : Int, ds = [.int m] ∧ 0 < m ∧ m < 1073741824 ∧ (d, s') = (.int (drawV m (cells, seed)).1, (drawV m (cells, seed)).2) := by
    unfold m_draw at em
    split at em
    · rename_i m
      split at em
      · rename_i hc
        exact ⟨_, rfl, hc.1, hc.2, (Option.some.inj em).symm⟩
      · cases em
    · cases em
  cases rs with
  | cons r1 r2 =>
  cases r2
  cases r1
  obtain ⟨rfl, rfl⟩ := Prod.mk.inj e1
  clear e1 em
  -- what is told, whatever was written
  have fin : ∀ (cs : List Int) (sd v : Int), (drawV m (cells, seed)) = (v, (cs, sd)) → Q (.int v) (upd (upd H sc (.lst (cs.map V.int))) sa (.lst [.ref sc, .int sd])) := fun cs sd v e => by
    rw [e] at q
    refine q _ _ (fun a o ea n => ?_) (fun sa' sc' z => ?_) (.int v)
    · obtain ⟨n1, n2⟩ := n sa sc rfl
      rw [upd_ne n1, upd_ne n2]; exact ea
    · cases z
      exact ⟨ne, Ma, Mc, upd_same, by rw [upd_ne (Ne.symm ne), upd_same]⟩
  refine ⟨_, rfl, sa, _, 0, .ref sc, rfl, rfl, SqL.of hA, rfl, ?_⟩
  refine ⟨fun k σ' H' => ∃ cs : List Int, k = cs.length ∧ σ' = [some (.ref sa), some (.int m), some (.ref sc), none, none] ∧ dropZ cs = dropZ cells ∧ H' = upd H sc (.lst (cs.map V.int)), ⟨cells.length, cells, rfl, rfl, rfl, (upd_self hC).symm⟩, ?_⟩
  rintro k σ' H' ⟨cs, rfl, rfl, ez, rfl⟩
  have hS : SqL K (upd H sc (.lst (cs.map V.int))) sc (cs.map V.int) := SqL.of upd_same
  have hA' : SqL K (upd H sc (.lst (cs.map V.int))) sa [.ref sc, .int seed] := SqL.of (by rw [upd_ne ne]; exact hA)
  refine ⟨_, rfl, sc, _, rfl, .inl hS, _, _, rfl, rfl, _, rfl, ?_⟩
  cases cs with
  | nil =>
    refine ite_n (by simp) (ite_n (by decide) ?_)
    refine ⟨_, rfl, sc, _, rfl, .inl hS, _, _, rfl, rfl, _, rfl, ?_⟩
    refine ite_n (by simp) ?_
    refine ⟨_, rfl, sa, _, 1, .int seed, rfl, rfl, hA', rfl, _, _, rfl, rfl, .inr (by decide), _, _, rfl, rfl, .inl ⟨_, rfl, _, _, rfl, rfl, (show (2147483647 : Int) ≠ 0 by decide), ?_⟩⟩
    refine ⟨_, rfl, _, rfl, sa, _, 1, 1, rfl, rfl, by rw [upd_ne ne]; exact hA, rfl, ?_⟩
    refine ⟨_, rfl, _, _, rfl, rfl, ⟨by decide, by decide⟩, .inl ⟨_, rfl, _, rfl, _, _, rfl, rfl, by omega, ?_⟩⟩
    refine fin [] _ _ ?_
    unfold drawV
    show (match dropZ cells with | _ => _) = _
    rw [← ez]
    rfl
  | cons x r =>
    have at0 : atI ((x :: r).map V.int) 0 = some (.int x) := atI_nat (j := 0) rfl
    have ix0 : ixN ((x :: r).map V.int).length 0 = some 0 := by unfold ixN; rw [if_pos (by decide), if_pos (by simp)]; rfl
    refine ite_y (by simp) ?_
    refine ⟨_, rfl, sc, _, 0, .int x, rfl, rfl, hS, at0, rfl, _, rfl, ?_⟩
    by_cases hx : x = 0
    · subst hx
      refine ite_y (by decide) ?_
      refine ⟨fun σ' H' => σ' = [some (.ref sa), some (.int m), some (.ref sc), none, none] ∧ dropZ r = dropZ cells ∧ H' = upd H sc (.lst (r.map V.int)), fun σ' H' w => ⟨r.length, by simp, r, rfl, w.1, w.2.1, w.2.2⟩, ?_⟩
      refine ⟨_, rfl, .inl ⟨rfl, _, hS⟩, sc, _, 0, 0, .int 0, rfl, rfl, upd_same, by decide, by decide, ?_, rfl, rfl, ?_, ?_⟩
      · rw [List.map_cons, List.length_cons]; unfold seqIndex?; simp
      · rw [← ez]; exact (show dropZ (0 :: r) = dropZ r by rw [dropZ, if_pos rfl]).symm
      · rw [upd_upd]; rfl
    · refine ite_n (by simpa using hx) ?_
      refine ⟨_, rfl, sc, _, rfl, .inl hS, _, _, rfl, rfl, _, rfl, ?_⟩
      refine ite_y (by simp) ?_
      refine ⟨_, rfl, sc, _, 0, .int x, rfl, rfl, hS, at0, ?_⟩
      refine ⟨_, rfl, _, rfl, _, _, rfl, rfl, ⟨by omega, by omega⟩, ?_⟩
      refine ⟨_, rfl, sc, _, 0, 0, rfl, rfl, upd_same, ix0, ?_⟩
      refine ⟨_, rfl, .inl ⟨_, rfl, _, rfl, _, _, rfl, rfl, by omega, ?_⟩⟩
      rw [upd_upd]
      have e2 : dropZ cells = x :: r := by rw [← ez, dropZ, if_neg hx]
      have ed : drawV m (cells, seed) = (x.fmod m, (x.fdiv m :: r, seed)) := by
        unfold drawV
        show (match dropZ cells with | _ => _) = _
        rw [e2]
      have g := fin _ _ _ ed
      rw [upd_self (a := sa) (by rw [upd_ne ne]; exact hA)] at g
      exact g

/-! ### _law_state -/
def spState (K : PySem.W.Frag) : Sp := fun vs H Q _ => ∃ (a : Addr) (ns : List Int), vs = [.ref a] ∧ SqL K H a (ns.map V.int) ∧ ns.length ≤ 63 ∧
  ∀ (sa sc : Addr) (cells : List Int) (seed : Int) (H' : Hp), Same H H' → H sa = none → H sc = none → sa ≠ sc → H' sa = some (.lst [.ref sc, .int seed]) → H' sc = some (.lst (cells.map V.int)) → Q (.ref sa) H'
def tAddI : R2 := rI0 fun i j => V.int (i + j)
def tState (c : Cfg) (scope : Scope) (tg elt : Expr) : TS :=
  tSeq (tAsg (tC (.int 7)) (gName 1))
  (tSeq (tFor (iList c.K (tVar 0)) (gName 2) (tAsg (tOp rModI (tCB rInt1 (tCons (tOp tAddI (tOp (rI CMul fun i j => V.int (i * j)) (tVar 1) (tC (.int 31))) (tVar 2)) tNil)) (tC (.int 1000003))) (gName 1)))
  (tRet (tLst (tCons (tLc (iList c.K (tVar 0)) (wG (c.blk scope) tg) (wTs (c.blk scope) []) (wE (c.blk scope) elt) [2]) (tCons (tOp tAddI (tVar 1) (tC (.int 1))) tNil)))))
theorem lc_abs : ∀ ns : List Int, ∃ ms : List Int, lcL (ns.map PyData.int) (hN 2) tT (dCall mAbs (dCons (dVar 2) dNil)) [none, none, none] ([], 0) = some (ms.map PyData.int, ([], 0)) ∧ ms.length = ns.length
  | [] => ⟨[], rfl, rfl⟩
  | n :: ns => by
    obtain ⟨ms, e, l⟩ := lc_abs ns
    refine ⟨(if n < 0 then -n else n) :: ms, ?_, by simp [l]⟩
    show (lcL (ns.map PyData.int) (hN 2) tT (dCall mAbs (dCons (dVar 2) dNil)) [none, none, none] ([], 0)).map _ = _
    rw [e]
    rfl
theorem ret_lst {t0 : TE} {t1 : TA} {D : Ends} {σ : Sg} {H : Hp} (h : t0 σ H fun v H1 => t1 σ H1 fun vs H2 => (v :: vs).length ≤ sizeLine ∧ ∀ p, H2 p = none → D.rt (.ref p) (upd H2 p (.lst (v :: vs)))) : tRet (tLst (tCons t0 t1)) D σ H := h
theorem state_run {c : Cfg} {scope : Scope} {tg elt : Expr} {vs : List V} {H : Hp} {Q : VK} {E : XK} {D : Ends} (hD : D.rt = Q) (hg : SG (c.blk scope) tg [2] (hN 2)) (he : SE (c.blk scope) elt (dCall mAbs (dCons (dVar 2) dNil))) (h : spState c.K vs H Q E) :
    tState c scope tg elt D (L2.start ["script", "seed", "cell"] vs) H := by
  obtain ⟨a, ns, rfl, hS, hl, q⟩ := h
  subst hD
  refine ⟨_, rfl, a, rfl, ⟨_, hS⟩, fun i m σ H' => i ≤ ns.length ∧ m = ns.length - i ∧ H' = H ∧ ∃ (sd : Int) (y : Option V), σ = [some (.ref a), some (.int sd), y], ⟨ns.length, Nat.zero_le _, rfl, rfl, 7, none, rfl⟩, ?_⟩
  rintro i m σ H' ⟨hi, rfl, rfl, sd, y, rfl⟩
  by_cases hlt : i < ns.length
  · have g : (ns.map V.int)[i]? = some (.int ns[i]) := by rw [List.getElem?_map, List.getElem?_eq_getElem hlt]; rfl
    refine .inr ⟨⟨_, _, hS, g⟩, fun σ' H2 => H2 = H' ∧ ∃ (sd : Int) (y : Option V), σ' = [some (.ref a), some (.int sd), y], fun σ' H2 w => ⟨ns.length - (i + 1), by omega, by omega, rfl, w.1, w.2⟩, fun x H2 hy => ?_⟩
    obtain ⟨rfl, fv⟩ := hy
    obtain rfl : x = .int ns[i] := Option.some.inj ((fv _ hS).symm.trans g)
    exact ⟨_, rfl, _, _, rfl, rfl, .inr (by decide), _, rfl, _, _, rfl, rfl, .inl ⟨_, rfl, _, _, rfl, rfl, (show (1000003 : Int) ≠ 0 by decide), rfl, _, _, rfl⟩⟩
  · refine .inl ⟨⟨_, hS, by rw [List.length_map]; omega⟩, ?_⟩
    obtain ⟨ms, em, lm⟩ := lc_abs ns
    have r : Rel (fun _ => False) (fun _ => []) none [some (.ref a), some (.int sd), y] H' [none, none, none] (([], 0) : DS) := by
      refine ⟨rfl, fun _ _ z => (by cases z), fun _ z => False.elim z, fun _ _ z => (by cases z), fun _ _ _ z => (by cases z), fun _ _ => rfl, fun i sl z => ?_⟩
      match i, z with
      | 0, z => cases z
      | 1, z => cases z
      | 2, z => cases z
      | i + 3, z => simp at z
    show tRet (tLst (tCons (tLc (iList c.K (tVar 0)) (wG (c.blk scope) tg) (wTs (c.blk scope) []) (wE (c.blk scope) elt) [2]) (tCons (tOp tAddI (tVar 1) (tC (.int 1))) tNil))) D [some (.ref a), some (.int sd), y] H'
    refine ret_lst ?_
    refine lc_at (items := ns.map PyData.int) (ds := ms.map PyData.int) (s' := ([], 0)) (s1 := ([], 0)) hg sts_nil he (fun i h => h) r (fun R k => ⟨_, rfl, a, rfl, ⟨_, hS⟩, k (Itl c.K a) H' FrE.refl r.sto ?_⟩) ?_ ?_
    · intro H2 f2 i
      have sm : Same H' H2 := fun b o e => f2 b o e fun _ _ z => (by cases z)
      have hS2 : SqL c.K H2 a (ns.map V.int) := sm.seq hS
      refine ⟨fun d hd => ?_, fun e => ⟨_, hS2, by rw [List.length_map] at e ⊢; omega⟩⟩
      rw [List.getElem?_map] at hd
      obtain ⟨n, e1, rfl⟩ := Option.map_eq_some_iff.mp hd
      have g : (ns.map V.int)[i]? = some (.int n) := by rw [List.getElem?_map, e1]; rfl
      refine ⟨⟨_, _, hS2, g⟩, fun x H3 y => ?_⟩
      obtain ⟨rfl, fv⟩ := y
      obtain rfl : x = .int n := Option.some.inj ((fv _ hS2).symm.trans g)
      exact ⟨Same.refl _, fun _ _ => .int n⟩
    · rw [if_pos (by rw [List.length_map]; omega)]
      exact em
    · intro p xs H2 f2 t2 hp hx rx
      have sm : Same H' H2 := fun b o e => f2 b o e fun _ _ z => (by cases z)
      have ex : xs = ms.map V.int := rx.ints
      subst ex
      refine ⟨_, rfl, _, _, rfl, rfl, (by rw [sizeLine_eq]; exact (show 2 ≤ 16777216 by decide)), fun A hA => ?_⟩
      have nA : p ≠ A := fun z => by rw [z, hA] at hx; cases hx
      have hA' : H' A = none := by
        cases z : H' A with
        | none => rfl
        | some o => rw [sm _ _ z] at hA; cases hA
      exact q A p ms _ _ (sm.trans (Same.upd hA)) hA' hp (Ne.symm nA) upd_same (by rw [upd_ne nA]; exact hx)

/-! ### the law -/
def spLaw (K : PySem.W.Frag) : Sp := fun vs H Q _ => ∃ (a : Addr) (ns : List Int), vs = [.ref a] ∧ SqL K H a (ns.map V.int) ∧ ns.length ≤ 63 ∧ ∀ H', Q (.bl true) H'
/-- from what the law's rows tell, whatever is drawn, to the law -/
theorem ok_law {P : Program} {w : World} {K : PySem.W.Frag} {mg : Str → Option Value} {base : Heap} {x qual : Str} {stm S1 : Stmt} {B : List Stmt} {f : Addr} {fd : FuncData} {N : List Str} {k : Nat} {G : Nat → Sx} {r : Nat} (F : Fun K x qual stm f fd) (S : FnScope N ["script"] (defScope stm)) (hN : N.length = r + 2)
    (hbody : defBody stm = S1 :: B) (h1 : ∀ X, In (cfgOf P w K mg base N (defScope stm) k) X → PS X S1 (tAsg (tCall (spState K) [] E0 (tCons (tVar 0) tNil)) (gName 1))) (hb : ∀ n, SSs (cfgOf P w K mg base N (defScope stm) k) B (G n))
    (plain : ∀ s : DS, ∃ n s', G n (none :: some .st :: List.replicate r none) s = some (.rt (.bool true) s')) : FnOk P w K mg base CX0 (k + 1) f fd ["script"] (spLaw K) := by
  refine F.ok S (fun vs H Q E h => ?_) fun cdv A outer s H vs Q E hr h => ?_
  · obtain ⟨a, ns, rfl, _⟩ := h; rfl
  obtain ⟨a, ns, rfl, hS, hl, q⟩ := h
  rw [hbody]
  have hX : ∀ X, In (cfgOf P w K mg base N (defScope stm) k) X → PSs X (S1 :: B) (tSeq (tAsg (tCall (spState K) [] E0 (tCons (tVar 0) tNil)) (gName 1)) (wSs (cfgOf P w K mg base N (defScope stm) k) B)) := fun X hX => pss_cons (h1 X hX) (pss_w hX)
  refine ⟨_, hX _ ⟨rfl, rfl, rfl, rfl, rfl, rfl, S.nd, rfl, fun _ _ => rfl, rfl, hr, rfl⟩, ?_⟩
  refine ⟨.ref a, rfl, a, ns, rfl, hS, hl, fun sa sc cells seed H' sm na nc ne eA eC => ?_⟩
  obtain ⟨n, s', e⟩ := plain (cells, seed)
  have rel : Rel (fun b => b = sa ∨ b = sc) (fun _ => []) (some (sa, sc)) ((L2.start N [.ref a]).set 1 (some (.ref sa))) H' (none :: some .st :: List.replicate r none) ((cells, seed) : DS) := by
    refine ⟨?_, ?_, ?_, fun _ _ z => (by cases z), fun _ _ _ z => (by cases z), fun _ _ => rfl, fun i sl z => ?_⟩
    · simp [L2.start, hN]
    · intro sa' sc' z
      cases z
      exact ⟨ne, .inl rfl, .inr rfl, eA, eC⟩
    · rintro b (rfl | rfl)
      · exact ⟨_, eA⟩
      · exact ⟨_, eC⟩
    · match i, z with
      | 0, z => cases z
      | 1, z =>
        cases z
        refine ⟨.ref sa, ?_, rfl, sa, sc, rfl, rfl⟩
        rw [List.getElem?_set_self]
        simp [L2.start, hN]
      | i + 2, z =>
        rw [List.getElem?_cons_succ, List.getElem?_cons_succ, List.getElem?_replicate] at z
        split at z <;> cases z
  exact hb n (some (sa, sc)) _ _ _ H' _ _ _ _ rel e fun v H2 _ _ rp => by
    cases rp
    exact q H2

theorem st_row {c : Cfg} {k : Nat} {p1 p2 p3 p4 p5 : Pos} (F : FnIs c "_law_state" k (spState c.K)) (hk : k ≤ c.k) (hg : glB c.sc "_law_state" = true) (h0 : c.N[0]? = some ("script" : Str)) (hv : visB c.sc "script" = true) (h1 : c.N[1]? = some ("state" : Str)) (hl : locB c.sc "state" = true) (hf : stB c "state" = true) :
    ∀ X, In c X → PS X (.Assign [.Name "state" p1] (.Call (.Name "_law_state" p2) [.Name "script" p3] [] p4) p5) (tAsg (tCall (spState c.K) [] E0 (tCons (tVar 0) tNil)) (gName 1)) := by
  intro X hX
  obtain ⟨f0, fd, ps, G, g1, g2, g3⟩ := F
  have G' : FnOk X.prog X.w X.K X.mg X.base CX0 k f0 fd ps (spState c.K) := by rw [hX.P, hX.w, hX.K, hX.mg, hX.base]; exact G
  refine ps_set (by rw [hX.N]; exact hX.nd) (by rw [hX.N]; exact h1) (by rw [hX.sc]; exact loc_of hl) ?_ rfl (stB_of hX hf)
  exact pe_call G' (hX.room.mono hk) (by show X.env.scope.names.lookup _ = _; rw [hX.sc]; exact gl_of hg) (by rw [hX.mg]; exact g1) (by rw [hX.K]; exact g2) (by rw [hX.K]; exact g3) .nil pass0 (pa_cons (pe_name hX h0 hv (by decide) (by decide)) pa_nil) (by decide)
end GF
/-! GF12: running what is told: sequences, loops, comprehensions; sums -/
namespace GF
open PySem PySem.Spec PyProof.Rows L2

/-- with enough fuel -/
def Run (G : Nat → Sx) (ρ : Ev) (s : DS) (o : Out) : Prop := ∃ n, G n ρ s = some o
section
variable {G G' : Nat → Sx} {ρ ρ1 : Ev} {s s1 : DS} {o : Out} {t : Tx} {b : Bool}
theorem run_c {H : Sx} (h : H ρ s = some o) : Run (fun _ => H) ρ s o := ⟨0, h⟩
theorem run_seq (hG : Mono G) (hG' : Mono G') (h : Run G ρ s (.nx ρ1 s1)) (h' : Run G' ρ1 s1 o) : Run (fun n => dSeq (G n) (G' n)) ρ s o := by
  obtain ⟨n, e⟩ := h
  obtain ⟨m, e'⟩ := h'
  refine ⟨max n m, ?_⟩
  show (G _ ρ s).bind _ = _
  rw [hG n _ ρ s _ (Nat.le_max_left n m) e]
  exact hG' m _ ρ1 s1 o (Nat.le_max_right n m) e'
theorem run_seqR {d : D} (h : Run G ρ s (.rt d s1)) : Run (fun n => dSeq (G n) (G' n)) ρ s (.rt d s1) := by
  obtain ⟨n, e⟩ := h
  refine ⟨n, ?_⟩
  show (G _ ρ s).bind _ = _
  rw [e]; rfl
theorem run_ifY (ht : t ρ s = some (true, s1)) (h : Run G ρ s1 o) : Run (fun n => dIf t (G n) (G' n)) ρ s o := by
  obtain ⟨n, e⟩ := h
  refine ⟨n, ?_⟩
  show (t ρ s).bind _ = _
  rw [ht]; exact e
theorem run_ifN (ht : t ρ s = some (false, s1)) (h : Run G' ρ s1 o) : Run (fun n => dIf t (G n) (G' n)) ρ s o := by
  obtain ⟨n, e⟩ := h
  refine ⟨n, ?_⟩
  show (t ρ s).bind _ = _
  rw [ht]; exact e
theorem run_fz {p : Nat → Bool} (h : Run G (frz p ρ) s o) : Run (fun n => dFz p (G n)) ρ s o := h
/-- a while loop that has a measure -/
theorem run_while (hG : Mono G) (I : Nat → Ev → DS → Prop) (Pst : Ev → DS → Prop)
    (step : ∀ k ρ s, I k ρ s → (∃ s1, t ρ s = some (false, s1) ∧ Pst ρ s1) ∨ ∃ s1 ρ' s', t ρ s = some (true, s1) ∧ Run G ρ s1 (.nx ρ' s') ∧ ∃ k', k' < k ∧ I k' ρ' s') :
    ∀ k ρ s, I k ρ s → ∃ ρ' s', Run (fun n => dWhile n t (G n)) ρ s (.nx ρ' s') ∧ Pst ρ' s' := by
  intro k
  induction k using Nat.strongRecOn with
  | _ k ih =>
    intro ρ s hI
    rcases step k ρ s hI with ⟨s1, ht, hp⟩ | ⟨s1, ρ1, s2, ht, ⟨n, e⟩, k', lt, hI'⟩
    · refine ⟨ρ, s1, ⟨1, ?_⟩, hp⟩
      show (t ρ s).bind _ = _
      rw [ht]; rfl
    · obtain ⟨ρ2, s3, ⟨m, e'⟩, hp⟩ := ih k' lt ρ1 s2 hI'
      refine ⟨ρ2, s3, ⟨max n m + 1, ?_⟩, hp⟩
      show (t ρ s).bind _ = _
      rw [ht]
      show (G _ ρ s1).bind _ = _
      rw [hG n (max n m + 1) ρ s1 _ (by omega) e]
      have := mono_while (t := t) hG m (max n m + 1) ρ1 s2 _ (by omega) e'
      have key : ∀ a l m ρ s o, a ≤ m → dWhile l t (G a) ρ s = some o → ∀ l', l ≤ l' → dWhile l' t (G m) ρ s = some o := by
        intro a l
        induction l with
        | zero => intro m ρ s o _ e; cases e
        | succ l ih2 =>
          intro m ρ s o le e l' ll
          cases l' with
          | zero => omega
          | succ l' =>
            unfold dWhile at e ⊢
            obtain ⟨⟨b, s1⟩, e1, e2⟩ := Option.bind_eq_some_iff.mp e
            rw [e1]
            replace e2 : (if b = true then _ else _) = some o := e2
            show (if b = true then _ else _) = some o
            split
            · rename_i hb
              rw [if_pos hb] at e2
              obtain ⟨o1, e3, e4⟩ := Option.bind_eq_some_iff.mp e2
              show (G m ρ s1).bind _ = _
              rw [hG a m ρ s1 o1 le e3]
              cases o1 with
              | nx ρ' s' => exact ih2 m ρ' s' o le e4 l' (by omega)
              | ct ρ' s' => exact ih2 m ρ' s' o le e4 l' (by omega)
              | bk ρ' s' => exact e4
              | rt d s' => exact e4
            · rename_i hb
              rw [if_neg hb] at e2
              exact e2
      exact key m m (max n m + 1) ρ1 s2 _ (by omega) e' (max n m) (Nat.le_max_right n m)
/-- a for loop that always goes on -/
theorem run_forL (hG : Mono G) {hx : Hx} (I : Nat → Ev → DS → Prop) : ∀ (ds : List D) (i : Nat),
    (∀ j d ρ s, ds[j]? = some d → I (i + j) ρ s → ∃ ρ1 ρ2 s2, hx d ρ = some ρ1 ∧ (Run G ρ1 s (.nx ρ2 s2) ∨ Run G ρ1 s (.ct ρ2 s2)) ∧ I (i + j + 1) ρ2 s2) →
    ∀ ρ s, I i ρ s → ∃ ρ' s', Run (fun n => dForL ds hx (G n)) ρ s (.nx ρ' s') ∧ I (i + ds.length) ρ' s'
  | [], i, _, ρ, s, hI => ⟨ρ, s, ⟨0, rfl⟩, hI⟩
  | d :: r, i, step, ρ, s, hI => by
    obtain ⟨ρ1, ρ2, s2, e1, e2, hI2⟩ := step 0 d ρ s rfl hI
    obtain ⟨ρ3, s3, ⟨m, e3⟩, hI3⟩ := run_forL hG I r (i + 1) (fun j d ρ s e hI => by
      have := step (j + 1) d ρ s (by simpa using e) (by rw [← Nat.add_assoc, Nat.add_right_comm]; exact hI)
      rw [← Nat.add_assoc, Nat.add_right_comm i j 1] at this
      exact this) ρ2 s2 hI2
    refine ⟨ρ3, s3, ?_, by rw [List.length_cons, ← Nat.add_assoc, Nat.add_right_comm]; exact hI3⟩
    rcases e2 with ⟨n, e2⟩ | ⟨n, e2⟩
    · refine ⟨max n m, ?_⟩
      show (hx d ρ).bind _ = _
      rw [e1]
      show (G _ ρ1 s).bind _ = _
      rw [hG n _ ρ1 s _ (Nat.le_max_left n m) e2]
      exact mono_forL hG r m _ ρ2 s2 _ (Nat.le_max_right n m) e3
    · refine ⟨max n m, ?_⟩
      show (hx d ρ).bind _ = _
      rw [e1]
      show (G _ ρ1 s).bind _ = _
      rw [hG n _ ρ1 s _ (Nat.le_max_left n m) e2]
      exact mono_forL hG r m _ ρ2 s2 _ (Nat.le_max_right n m) e3
theorem run_for (hG : Mono G) {hx : Hx} {fs : Exs} {ds : List D} (I : Nat → Ev → DS → Prop) (hf : fs ρ s = some (ds, s1))
    (step : ∀ j d ρ s, ds[j]? = some d → I j ρ s → ∃ ρ1 ρ2 s2, hx d ρ = some ρ1 ∧ (Run G ρ1 s (.nx ρ2 s2) ∨ Run G ρ1 s (.ct ρ2 s2)) ∧ I (j + 1) ρ2 s2) (h0 : I 0 ρ s1) :
    ∃ ρ' s', Run (fun n => dFor fs hx (G n)) ρ s (.nx ρ' s') ∧ I ds.length ρ' s' := by
  obtain ⟨ρ', s', ⟨n, e⟩, hI⟩ := run_forL hG (hx := hx) I ds 0 (fun j d ρ s e hI => by rw [Nat.zero_add] at hI ⊢; exact step j d ρ s e hI) ρ s1 h0
  rw [Nat.zero_add] at hI
  refine ⟨ρ', s', ⟨n, ?_⟩, hI⟩
  show (fs ρ s).bind _ = _
  rw [hf]; exact e
end
theorem tells_run {N : Nat} {G : Nat → Sx} (h : Mono G) {ds : List D} {d : D} {s' : DS} (e : Run G (ds.map (fun d => some (.im d)) ++ List.replicate (N - ds.length) none) ([], 0) (.rt d s')) : tells N G ds = some d := by
  obtain ⟨n, e⟩ := e
  refine tells_eq h (n := n) (s' := s') ?_
  unfold runFn
  rw [e]
theorem tellsS_run {N : Nat} {G : Nat → Sx} (h : Mono G) {ds : List D} {s s' : DS} {d : D} (e : Run G (some .st :: (ds.map (fun d => some (.im d)) ++ List.replicate (N - (ds.length + 1)) none)) s (.rt d s')) : tellsS N G ds s = some (d, s') := by
  obtain ⟨n, e⟩ := e
  refine tellsS_eq h (n := n) ?_
  unfold runFnS
  rw [e]

/-! ### comprehensions that draw nothing -/
theorem lcL_pure {h : Hx} {t : Tx} {f : Ex} {ρ : Ev} {s : DS} (b : D → Bool) (g : D → D) : ∀ {items : List D}, (∀ d ∈ items, ∃ ρ1, h d ρ = some ρ1 ∧ t ρ1 s = some (b d, s) ∧ (b d = true → f ρ1 s = some (g d, s))) →
    lcL items h t f ρ s = some ((items.filter b).map g, s)
  | [], _ => rfl
  | d :: r, k => by
    obtain ⟨ρ1, e1, e2, e3⟩ := k d List.mem_cons_self
    have ih := lcL_pure b g (items := r) fun d hd => k d (List.mem_cons_of_mem _ hd)
    show (h d ρ).bind _ = _
    rw [e1]
    show (t ρ1 s).bind _ = _
    rw [e2]
    cases hb : b d with
    | true =>
      rw [List.filter_cons_of_pos hb]
      show (f ρ1 s).bind _ = _
      rw [e3 hb]
      show (lcL r h t f ρ s).map _ = _
      rw [ih]; rfl
    | false =>
      rw [List.filter_cons_of_neg (by rw [hb]; decide)]
      exact ih
/-- .. that take all, and draw -/
theorem lcL_draw {h : Hx} {f : Ex} {ρ : Ev} (Pd : D → Prop) : ∀ {items : List D} {s : DS}, (∀ d ∈ items, ∃ ρ1, h d ρ = some ρ1 ∧ ∀ s, ∃ d' s', f ρ1 s = some (d', s') ∧ Pd d') →
    ∃ ds s', lcL items h tT f ρ s = some (ds, s') ∧ ds.length = items.length ∧ ∀ d ∈ ds, Pd d
  | [], s, _ => ⟨[], s, rfl, rfl, fun d h => by cases h⟩
  | d :: r, s, k => by
    obtain ⟨ρ1, e1, e2⟩ := k d List.mem_cons_self
    obtain ⟨d', s1, e3, e4⟩ := e2 s
    obtain ⟨ds, s2, i1, i2, i3⟩ := lcL_draw Pd (items := r) (s := s1) fun d hd => k d (List.mem_cons_of_mem _ hd)
    refine ⟨d' :: ds, s2, ?_, by simp [i2], fun x hx => ?_⟩
    · show (h d ρ).bind _ = _
      rw [e1]
      show (f ρ1 s).bind _ = _
      rw [e3]
      show (lcL r h tT f ρ s1).map _ = _
      rw [i1]; rfl
    · rcases List.mem_cons.mp hx with rfl | hx
      · exact e4
      · exact i3 x hx

/-! ### lists of inZ -/
def inZ (ns : List Int) : List D := ns.map PyData.int
@[simp] theorem inZ_len (ns : List Int) : (inZ ns).length = ns.length := List.length_map ..
@[simp] theorem inZ_nil : inZ [] = [] := rfl
@[simp] theorem inZ_cons (n : Int) (ns : List Int) : inZ (n :: ns) = .int n :: inZ ns := rfl
theorem atI_ints {ns : List Int} {i : Int} {j : Nat} {v : Int} (hj : i = (j : Int)) (e : ns[j]? = some v) : atI (inZ ns) i = some (.int v) := by
  subst hj
  exact atI_nat (by unfold inZ; rw [List.getElem?_map, e]; rfl)
theorem ixN_at {n : Nat} {i : Int} {j : Nat} (hj : i = (j : Int)) (h : j < n) : ixN n i = some j := by
  subst hj
  unfold ixN
  rw [if_pos (by omega), if_pos (by omega)]
  simp
theorem ixN_neg {n : Nat} {i : Int} {j : Nat} (hj : i + n = (j : Int)) (h0 : i < 0) : ixN n i = some j := by
  unfold ixN
  rw [if_neg (by omega), if_pos (by omega), hj]
  simp
theorem ints_set (ns : List Int) (j : Nat) (v : Int) : (inZ ns).set j (.int v) = inZ (ns.set j v) := by show (ns.map PyData.int).set j _ = (ns.set j v).map _; rw [List.map_set]
theorem ints_app (ns : List Int) (v : Int) : inZ ns ++ [.int v] = inZ (ns ++ [v]) := by show ns.map PyData.int ++ _ = (ns ++ [v]).map _; rw [List.map_append]; rfl
theorem noLsts_ints (ns : List Int) : noLsts (inZ ns) = true := by
  induction ns with
  | nil => rfl
  | cons n ns ih => show (noLst (.int n) && noLsts (inZ ns)) = true; rw [ih]; rfl
theorem range_mem {lo hi k : Int} : k ∈ rangeI lo hi ↔ lo ≤ k ∧ k < hi := by
  unfold rangeI
  rw [List.mem_map]
  constructor
  · rintro ⟨j, hj, rfl⟩
    rw [List.mem_range] at hj
    omega
  · rintro ⟨h1, h2⟩
    exact ⟨(k - lo).toNat, by rw [List.mem_range]; omega, by omega⟩
theorem range_len (lo hi : Int) : (rangeI lo hi).length = (hi - lo).toNat := by unfold rangeI; simp
theorem range_get {lo hi : Int} {j : Nat} (h : j < (hi - lo).toNat) : (rangeI lo hi)[j]? = some (lo + j) := by
  unfold rangeI
  rw [List.getElem?_map, List.getElem?_range h]; rfl

/-! ### sums -/
def sumN : Nat → (Nat → Int) → Int
  | 0, _ => 0
  | n + 1, f => sumN n f + f n
theorem sumN_congr {n : Nat} {f g : Nat → Int} (h : ∀ x, x < n → f x = g x) : sumN n f = sumN n g := by
  induction n with
  | zero => rfl
  | succ n ih => show sumN n f + f n = sumN n g + g n; rw [ih fun x hx => h x (by omega), h n (by omega)]
theorem sumN_add {n : Nat} {f g : Nat → Int} : sumN n (fun x => f x + g x) = sumN n f + sumN n g := by
  induction n with
  | zero => rfl
  | succ n ih => show sumN n _ + (f n + g n) = (sumN n f + f n) + (sumN n g + g n); rw [ih]; omega
theorem sumN_zero {n : Nat} : sumN n (fun _ => 0) = 0 := by
  induction n with
  | zero => rfl
  | succ n ih => show sumN n _ + 0 = 0; rw [ih]; rfl
theorem sumN_at {n p : Nat} {a : Int} (h : p < n) : sumN n (fun x => if x = p then a else 0) = a := by
  induction n with
  | zero => omega
  | succ n ih =>
    show sumN n _ + (if n = p then a else 0) = a
    by_cases e : n = p
    · subst e
      rw [if_pos rfl, sumN_congr (g := fun _ => 0) fun x hx => if_neg (by omega), sumN_zero]; omega
    · rw [if_neg e, ih (by omega)]; omega
theorem sumN_le {n : Nat} {f g : Nat → Int} (h : ∀ x, x < n → f x ≤ g x) : sumN n f ≤ sumN n g := by
  induction n with
  | zero => exact Int.le_refl _
  | succ n ih =>
    have h1 := ih fun x hx => h x (by omega)
    have h2 := h n (by omega)
    show sumN n f + f n ≤ sumN n g + g n
    omega
theorem sumN_const {n : Nat} {a : Int} : sumN n (fun _ => a) = n * a := by
  induction n with
  | zero => show (0 : Int) = ((0 : Nat) : Int) * a; rw [Int.natCast_zero, Int.zero_mul]
  | succ n ih => show sumN n _ + a = ((n + 1 : Nat) : Int) * a; rw [ih, Int.natCast_succ, Int.add_mul, Int.one_mul]
theorem sumN_nonneg {n : Nat} {f : Nat → Int} (h : ∀ x, x < n → 0 ≤ f x) : 0 ≤ sumN n f := by
  have := sumN_le (f := fun _ => 0) h
  rw [sumN_zero] at this
  exact this
theorem sumN_one {n p : Nat} {f : Nat → Int} (h : ∀ x, x < n → 0 ≤ f x) (hp : p < n) : f p ≤ sumN n f := by
  have := sumN_le (n := n) (f := fun x => if x = p then f p else 0) (g := f) fun x hx => by
    show (if x = p then f p else 0) ≤ f x
    split
    · rename_i e; rw [e]; exact Int.le_refl _
    · exact h x hx
  rw [sumN_at hp] at this
  exact this
end GF
/-! GF13: denotations on concrete slots, for simp -/
namespace GF
open PySem PySem.Spec PyProof.Rows L2
section
variable {ρ : Ev} {s : DS} {f g : Ex} {fs : Exs} {t u : Tx} {G G' : Sx} {i j : Nat}
@[simp] theorem x_seq : dSeq G G' ρ s = (G ρ s).bind fun o => match o with
  | .nx ρ' s' => G' ρ' s'
  | o => some o := rfl
@[simp] theorem x_skip : dSkip ρ s = some (.nx ρ s) := rfl
@[simp] theorem x_var : dVar i ρ s = match ρ[i]? with
  | some (some (.im d)) => some (d, s)
  | _ => none := rfl
@[simp] theorem x_c {d : D} : dC d ρ s = some (d, s) := rfl
@[simp] theorem x_op {m : D → D → Option D} : dOp m f g ρ s = (f ρ s).bind fun p => (g ρ p.2).bind fun q => (m p.1 q.1).map fun d => (d, q.2) := rfl
@[simp] theorem x_opF {m : D → D → Option (List D)} : dOpF m f g ρ s = (f ρ s).bind fun p => (g ρ p.2).bind fun q => (m p.1 q.1).map fun d => (d, q.2) := rfl
@[simp] theorem x_test : dTest f ρ s = (f ρ s).bind fun p => match p.1 with
  | .bool b => some (b, p.2)
  | _ => none := rfl
@[simp] theorem x_tru : dTru f ρ s = (f ρ s).bind fun p => (mTru p.1).map fun b => (b, p.2) := rfl
@[simp] theorem x_not : dNot t ρ s = (t ρ s).map fun p => (!p.1, p.2) := rfl
@[simp] theorem x_and : dAnd t u ρ s = (t ρ s).bind fun p => if p.1 = true then u ρ p.2 else some (false, p.2) := rfl
@[simp] theorem x_or : dOr t u ρ s = (t ρ s).bind fun p => if p.1 = true then some (true, p.2) else u ρ p.2 := rfl
@[simp] theorem x_bw : dBw f ρ s = (f (frzA ρ) s).bind fun p => if noLst p.1 = true then some p else none := rfl
@[simp] theorem x_bwF : dBwF fs ρ s = (fs (frzA ρ) s).bind fun p => if noLsts p.1 = true then some p else none := rfl
@[simp] theorem x_bwT : dBwT t ρ s = t (frzA ρ) s := rfl
@[simp] theorem x_frz_nil {p : Nat → Bool} : frz p [] = [] := rfl
@[simp] theorem x_frz_cons {p : Nat → Bool} {o : Option Sl} : frz p (o :: ρ) = (if p 0 = true then o.map frzS else o) :: frz (fun i => p (i + 1)) ρ := by
  unfold frz
  rw [List.mapIdx_cons]
@[simp] theorem x_frzS_ml {ds : List D} : frzS (.ml ds) = .im (.list ds) := rfl
@[simp] theorem x_frzS_mm {ds : List (List D)} : frzS (.mm ds) = .im (.list (ds.map PyData.list)) := rfl
@[simp] theorem x_frzS_im {d : D} : frzS (.im d) = .im d := rfl
@[simp] theorem x_frzS_md {d : List (Key × D)} : frzS (.md d) = .md d := rfl
@[simp] theorem x_frzS_mz {d : List (Key × D)} : frzS (.mz d) = .mz d := rfl
@[simp] theorem x_frzS_st : frzS .st = .st := rfl
@[simp] theorem x_nil : dNil ρ s = some ([], s) := rfl
@[simp] theorem x_cons : dCons f fs ρ s = (f ρ s).bind fun p => (fs ρ p.2).map fun q => (p.1 :: q.1, q.2) := rfl
@[simp] theorem x_tup : dTup fs ρ s = (fs ρ s).bind fun p => if p.1.length ≤ 16777216 then some (.tuple p.1, p.2) else none := (rfl)
@[simp] theorem x_lst : dLst fs ρ s = (fs ρ s).bind fun p => if p.1.length ≤ 16777216 then some (p.1, p.2) else none := (rfl)
@[simp] theorem x_fr : dFr fs ρ s = (fs ρ s).map fun p => (.list p.1, p.2) := rfl
@[simp] theorem x_andV : dAndV f g ρ s = (f ρ s).bind fun p => match p.1 with
  | .bool true => g ρ p.2
  | .bool false => some (.bool false, p.2)
  | _ => none := rfl
@[simp] theorem x_orV : dOrV f g ρ s = (f ρ s).bind fun p => match p.1 with
  | .bool false => g ρ p.2
  | .bool true => some (.bool true, p.2)
  | _ => none := rfl
@[simp] theorem x_notV : dNotV f ρ s = (f ρ s).bind fun p => match p.1 with
  | .bool b => some (.bool !b, p.2)
  | _ => none := rfl
@[simp] theorem x_notT : dNotT f ρ s = (f ρ s).bind fun p => (mTru p.1).map fun b => (.bool !b, p.2) := rfl
@[simp] theorem x_ife : dIfE t f g ρ s = (t ρ s).bind fun p => if p.1 = true then f ρ p.2 else g ρ p.2 := rfl
@[simp] theorem x_neg : dNeg f ρ s = (f ρ s).bind fun p => match p.1 with
  | .int i => some (.int (-i), p.2)
  | _ => none := rfl
@[simp] theorem x_call {m : List D → Option D} : dCall m fs ρ s = (fs ρ s).bind fun p => (m p.1).map fun d => (d, p.2) := rfl
@[simp] theorem x_callF {m : List D → Option (List D)} : dCallF m fs ρ s = (fs ρ s).bind fun p => (m p.1).map fun d => (d, p.2) := rfl
@[simp] theorem x_callS {m : List D → DS → Option (D × DS)} : dCallS i m fs ρ s = match ρ[i]? with
  | some (some .st) => (fs ρ s).bind fun p => m p.1 p.2
  | _ => none := rfl
@[simp] theorem x_fz {p : Nat → Bool} : dFz p G ρ s = G (frz p ρ) s := rfl
@[simp] theorem x_xE : xE f ρ s = (f ρ s).map fun p => (.im p.1, p.2) := rfl
@[simp] theorem x_xF : xF fs ρ s = (fs ρ s).map fun p => (.ml p.1, p.2) := rfl
@[simp] theorem x_xD0 : xD0 ρ s = some (.md [], s) := rfl
@[simp] theorem x_xNil : xNil ρ s = some ([], s) := rfl
@[simp] theorem x_xCons {a : Xx} {b : Xxs} : xCons a b ρ s = (a ρ s).bind fun p => (b ρ p.2).map fun q => (p.1 :: q.1, q.2) := rfl
@[simp] theorem x_asg {a : Xx} : dAsg i a ρ s = (a ρ s).bind fun p => if i < ρ.length then some (.nx (ρ.set i (some p.1)) p.2) else none := rfl
@[simp] theorem x_par {is : List Nat} {b : Xxs} : dPar is b ρ s = (b ρ s).bind fun p => (setAll is p.1 ρ).map fun ρ' => .nx ρ' p.2 := rfl
@[simp] theorem x_setAll0 : setAll [] [] ρ = some ρ := rfl
@[simp] theorem x_hN {d : D} : hN i d ρ = if i < ρ.length then some (ρ.set i (some (.im d))) else none := rfl
@[simp] theorem x_hNil : hNil [] ρ = some ρ := rfl
@[simp] theorem x_asgG {h : Hx} : dAsgG h f ρ s = (f ρ s).bind fun p => (h p.1 ρ).map fun ρ' => .nx ρ' p.2 := rfl
@[simp] theorem x_if : dIf t G G' ρ s = (t ρ s).bind fun p => if p.1 = true then G ρ p.2 else G' ρ p.2 := rfl
@[simp] theorem x_ret : dRet f ρ s = (f (frzA ρ) s).map fun p => .rt p.1 p.2 := rfl
@[simp] theorem x_retN : dRetN ρ s = some (.rt .none s) := rfl
@[simp] theorem x_drop : dDrop f ρ s = (f ρ s).map fun p => .nx ρ p.2 := rfl
@[simp] theorem x_brk : dBrk ρ s = some (.bk ρ s) := rfl
@[simp] theorem x_cnt : dCnt ρ s = some (.ct ρ s) := rfl
@[simp] theorem x_setN : dSetN i f g ρ s = (g ρ s).bind fun p => (f ρ p.2).bind fun q => putIx ρ i q.1 p.1 q.2 := rfl
@[simp] theorem x_app : dApp i f ρ s = (f ρ s).bind fun p => match ρ[i]? with
  | some (some (.ml ds)) => if ds.length < 16777216 then some (.nx (ρ.set i (some (.ml (ds ++ [p.1])))) p.2) else none
  | _ => none := by unfold dApp; exact (rfl)
@[simp] theorem x_augN {fop : Int → Int → Int} : dAugN fop i f g ρ s = (f ρ s).bind fun p => (getIx ρ i p.1).bind fun old => (g ρ p.2).bind fun q => (augI fop old q.1).bind fun z => putIx ρ i p.1 z q.2 := rfl
@[simp] theorem x_augI {fop : Int → Int → Int} {u v : Int} : augI fop (.int u) (.int v) = some (.int (fop u v)) := rfl
@[simp] theorem x_add {u v : Int} : mAdd (.int u) (.int v) = some (.int (u + v)) := rfl
@[simp] theorem x_sub {u v : Int} : mSub (.int u) (.int v) = some (.int (u - v)) := rfl
@[simp] theorem x_lt {u v : Int} : mLt (.int u) (.int v) = some (.bool (decide (u < v))) := rfl
@[simp] theorem x_le {u v : Int} : mLe (.int u) (.int v) = some (.bool (decide (u ≤ v))) := rfl
@[simp] theorem x_gt {u v : Int} : mGt (.int u) (.int v) = some (.bool (decide (v < u))) := rfl
@[simp] theorem x_ge {u v : Int} : mGe (.int u) (.int v) = some (.bool (decide (v ≤ u))) := rfl
@[simp] theorem x_isNon {d : D} : mIs d .none = some (.bool (isNon d)) := rfl
@[simp] theorem x_isNotNon {d : D} : mIsNot d .none = some (.bool (!isNon d)) := rfl
@[simp] theorem x_isNonN : isNon .none = true := rfl
@[simp] theorem x_isNonI {u : Int} : isNon (.int u) = false := rfl
@[simp] theorem x_isNonT {ds : List D} : isNon (.tuple ds) = false := rfl
@[simp] theorem x_ixL {ds : List D} {z : Int} : mIx (.list ds) (.int z) = atI ds z := rfl
@[simp] theorem x_ixT {ds : List D} {z : Int} : mIx (.tuple ds) (.int z) = atI ds z := rfl
@[simp] theorem x_noI {u : Int} : noLst (.int u) = true := rfl
@[simp] theorem x_noB {u : Bool} : noLst (.bool u) = true := rfl
@[simp] theorem x_noN : noLst .none = true := rfl
@[simp] theorem x_noT {ds : List D} : noLst (.tuple ds) = noLsts ds := rfl
@[simp] theorem x_nosN : noLsts [] = true := rfl
@[simp] theorem x_nosC {d : D} {ds : List D} : noLsts (d :: ds) = (noLst d && noLsts ds) := rfl
@[simp] theorem x_truI {u : Int} : mTru (.int u) = some (u != 0) := rfl
@[simp] theorem x_truB {u : Bool} : mTru (.bool u) = some u := rfl
@[simp] theorem x_truL {ds : List D} : mTru (.list ds) = some !ds.isEmpty := rfl
@[simp] theorem x_truT {ds : List D} : mTru (.tuple ds) = some !ds.isEmpty := rfl
@[simp] theorem x_truN : mTru .none = some false := rfl
end
theorem putIx_ml {ρ : Ev} {i : Nat} {z : Int} {v : D} {s : DS} {ds : List D} {j : Nat} (e : ρ[i]? = some (some (.ml ds))) (h : ixN ds.length z = some j) : putIx ρ i (.int z) v s = some (.nx (ρ.set i (some (.ml (ds.set j v)))) s) := by
  unfold putIx; rw [e]; show (ixN ds.length z).map _ = _; rw [h]; rfl
theorem getIx_ml {ρ : Ev} {i : Nat} {z : Int} {ds : List D} (e : ρ[i]? = some (some (.ml ds))) : getIx ρ i (.int z) = atI ds z := by
  unfold getIx; rw [e]
theorem eqI (u v : Int) : mEq (.int u) (.int v) = some (.bool (decide (u = v))) := by
  unfold mEq
  rw [if_pos ⟨rfl, rfl⟩]
  unfold PyData.eqv
  congr 2
theorem neI (u v : Int) : mNe (.int u) (.int v) = some (.bool (decide (u ≠ v))) := by
  unfold mNe
  rw [if_pos ⟨rfl, rfl⟩]
  unfold PyData.eqv
  congr 2
  rw [Bool.eq_iff_iff]; simp

/-- the int at a place -/
def cAt (h : List Int) (x : Nat) : Int := h.getD x 0
theorem cAt_set {h : List Int} {p x : Nat} {v : Int} (hp : p < h.length) : cAt (h.set p v) x = if x = p then v else cAt h x := by
  unfold cAt
  rw [List.getD_eq_getElem?_getD, List.getD_eq_getElem?_getD]
  by_cases e : x = p
  · subst e
    rw [if_pos rfl, List.getElem?_set_self hp]; rfl
  · rw [if_neg e, List.getElem?_set_ne (Ne.symm e)]
theorem cAt_get {h : List Int} {x : Nat} (hx : x < h.length) : h[x]? = some (cAt h x) := by
  unfold cAt
  rw [List.getD_eq_getElem?_getD, List.getElem?_eq_getElem hx]; rfl
@[simp] theorem atI_cAt {h : List Int} {p : Nat} (hp : p < h.length) : atI (inZ h) (p : Int) = some (.int (cAt h p)) := atI_ints rfl (cAt_get hp)
@[simp] theorem ixN_here {n p : Nat} (hp : p < n) : ixN n (p : Int) = some p := ixN_at rfl hp
@[simp] theorem inZ_set (ns : List Int) (j : Nat) (v : Int) : (inZ ns).set j (.int v) = inZ (ns.set j v) := ints_set ns j v
@[simp] theorem inZ_app (ns : List Int) (v : Int) : inZ ns ++ [.int v] = inZ (ns ++ [v]) := ints_app ns v
@[simp] theorem x_putIx {ρ : Ev} {i : Nat} {k v : D} {s : DS} : putIx ρ i k v s = match ρ[i]? with
  | some (some (.ml ds)) => match k with
    | .int z => (ixN ds.length z).map fun n => .nx (ρ.set i (some (.ml (ds.set n v)))) s
    | _ => none
  | some (some (.md kvs)) => (keyD k).bind fun kk => if kvs.length < 16777216 then some (.nx (ρ.set i (some (.md (putD kvs kk v)))) s) else none
  | _ => none := by unfold putIx; exact (rfl)
@[simp] theorem x_getIx {ρ : Ev} {i : Nat} {k : D} : getIx ρ i k = match ρ[i]? with
  | some (some (.ml ds)) => match k with
    | .int z => atI ds z
    | _ => none
  | some (some (.md kvs)) => (keyD k).bind fun kk => getD kvs kk
  | _ => none := by unfold getIx; rfl
@[simp] theorem x_mod {u v : Int} (h : v ≠ 0) : mMod (.int u) (.int v) = some (.int (u.fmod v)) := by unfold mMod; exact if_pos h
@[simp] theorem x_fdiv {u v : Int} (h : v ≠ 0) (h' : v.natAbs < 1073741824) : mFdiv (.int u) (.int v) = some (.int (u.fdiv v)) := by unfold mFdiv; exact if_pos ⟨h, h'⟩
@[simp] theorem x_mul {u v : Int} (h : u.natAbs < 2 ^ 64 ∨ v.natAbs < 2 ^ 64) : mMul (.int u) (.int v) = some (.int (u * v)) := by unfold mMul; exact if_pos h
@[simp] theorem x_eqI (u v : Int) : mEq (.int u) (.int v) = some (.bool (decide (u = v))) := eqI u v
@[simp] theorem x_neI (u v : Int) : mNe (.int u) (.int v) = some (.bool (decide (u ≠ v))) := neI u v

@[simp] theorem x_lc {own : List Nat} {fs : Exs} {h : Hx} {t : Tx} {f : Ex} {ρ : Ev} {s : DS} : dLc own fs h t f ρ s = (fs ρ s).bind fun p => if p.1.length ≤ 16777216 then lcL p.1 h t f (wipeE ρ own) p.2 else none := (rfl)
@[simp] theorem x_wipe0 {ρ : Ev} : wipeE ρ [] = ρ := rfl
@[simp] theorem x_wipeC {ρ : Ev} {v : Nat} {vs : List Nat} : wipeE ρ (v :: vs) = (wipeE ρ vs).set v none := rfl
@[simp] theorem x_items {f : Ex} {ρ : Ev} {s : DS} : dItems f ρ s = (f ρ s).bind fun p => match p.1 with
  | .list ds => some (ds, p.2)
  | .tuple ds => some (ds, p.2)
  | _ => none := rfl
@[simp] theorem x_enum {fs : Exs} {ρ : Ev} {s : DS} : dEnum fs ρ s = (fs ρ s).bind fun p => match p.1 with
  | [.list ds] => some (enumD ds, p.2)
  | _ => none := by unfold dEnum; rfl
@[simp] theorem x_enumL (ds : List D) : (enumD ds).length = ds.length := enumD_len ds
@[simp] theorem x_rng1 {fs : Exs} {ρ : Ev} {s : DS} : dRng1 fs ρ s = (fs ρ s).bind fun p => match p.1 with
  | [.int j] => if j.natAbs < 2 ^ 62 then some ((rangeI 0 j).map PyData.int, p.2) else none
  | _ => none := (rfl)
@[simp] theorem x_rng2 {fs : Exs} {ρ : Ev} {s : DS} : dRng2 fs ρ s = (fs ρ s).bind fun p => match p.1 with
  | [.int i, .int j] => if i.natAbs < 2 ^ 62 ∧ j.natAbs < 2 ^ 62 then some ((rangeI i j).map PyData.int, p.2) else none
  | _ => none := (rfl)
@[simp] theorem x_hT {hs : Hxs} {ρ : Ev} {ds : List D} : hT hs (.tuple ds) ρ = hs ds ρ := rfl
@[simp] theorem x_hCons {h : Hx} {hs : Hxs} {ρ : Ev} {d : D} {ds : List D} : hCons h hs (d :: ds) ρ = (h d ρ).bind fun ρ' => hs ds ρ' := rfl
theorem enumD_mem {ds : List D} {d : D} (h : d ∈ enumD ds) : ∃ (i : Nat) (e : D), ds[i]? = some e ∧ d = .tuple [.int (i : Int), e] := by
  obtain ⟨i, hi⟩ := List.getElem?_of_mem h
  obtain ⟨e, e1, e2⟩ := enumD_get hi
  exact ⟨i, e, e1, e2⟩
theorem enumD_at {ds : List D} {i : Nat} {e : D} (h : ds[i]? = some e) : .tuple [.int (i : Int), e] ∈ enumD ds := by
  refine List.mem_of_getElem? (i := i) ?_
  unfold enumD
  rw [List.getElem?_mapIdx, h]; rfl
theorem inZ_get {ns : List Int} {i : Nat} {e : D} (h : (inZ ns)[i]? = some e) : i < ns.length ∧ e = .int (cAt ns i) := by
  unfold inZ at h
  rw [List.getElem?_map] at h
  obtain ⟨v, e1, rfl⟩ := Option.map_eq_some_iff.mp h
  have hi : i < ns.length := (List.getElem?_eq_some_iff.mp e1).1
  rw [cAt_get hi] at e1
  cases e1
  exact ⟨hi, rfl⟩
theorem inZ_at {ns : List Int} {i : Nat} (h : i < ns.length) : (inZ ns)[i]? = some (.int (cAt ns i)) := by
  unfold inZ
  rw [List.getElem?_map, cAt_get h]; rfl

theorem run_seq0 {G : Sx} {G' : Nat → Sx} {ρ ρ1 : Ev} {s s1 : DS} {o : Out} (h : G ρ s = some (.nx ρ1 s1)) (h' : Run G' ρ1 s1 o) : Run (fun n => dSeq G (G' n)) ρ s o := by
  obtain ⟨m, e'⟩ := h'
  refine ⟨m, ?_⟩
  show (G ρ s).bind _ = _
  rw [h]; exact e'
theorem run_seqL {G : Nat → Sx} {G' : Sx} {ρ ρ1 : Ev} {s s1 : DS} {o : Out} (h : Run G ρ s (.nx ρ1 s1)) (h' : G' ρ1 s1 = some o) : Run (fun n => dSeq (G n) G') ρ s o := by
  obtain ⟨m, e'⟩ := h
  refine ⟨m, ?_⟩
  show (G m ρ s).bind _ = _
  rw [e']; exact h'
theorem cAt_mem {l : List Int} {y : Int} : y ∈ l ↔ ∃ x, x < l.length ∧ cAt l x = y := by
  constructor
  · intro h
    obtain ⟨i, hi⟩ := List.getElem?_of_mem h
    have lt : i < l.length := (List.getElem?_eq_some_iff.mp hi).1
    rw [cAt_get lt] at hi
    exact ⟨i, lt, Option.some.inj hi⟩
  · rintro ⟨x, hx, rfl⟩
    exact List.mem_of_getElem? (cAt_get hx)
@[simp] theorem x_ints (ns : List Int) : intsOf (inZ ns) = some ns := intsOf_map ns
theorem mMin_eq {a : Int} {r : List Int} : mMin [.list (inZ (a :: r))] = some (.int (minI a r)) := by
  show (intsOf (inZ (a :: r))).bind _ = _
  rw [x_ints]; rfl
theorem mMax_eq {a : Int} {r : List Int} : mMax [.list (inZ (a :: r))] = some (.int (maxI a r)) := by
  show (intsOf (inZ (a :: r))).bind _ = _
  rw [x_ints]; rfl
@[simp] theorem x_listL {ds : List D} : mList [.list ds] = some ds := rfl
@[simp] theorem x_listT {ds : List D} : mList [.tuple ds] = some ds := rfl
@[simp] theorem x_tupL {ds : List D} : mTuple [.list ds] = some (.tuple ds) := rfl
@[simp] theorem x_tupT {ds : List D} : mTuple [.tuple ds] = some (.tuple ds) := rfl
@[simp] theorem x_lenL {ds : List D} : mLen [.list ds] = some (.int ds.length) := rfl
@[simp] theorem x_lenT {ds : List D} : mLen [.tuple ds] = some (.int ds.length) := rfl
theorem mRep_zero {n : Nat} (h : n ≤ 16777216) : mRep (.list [.int 0]) (.int n) = some (inZ (List.replicate n 0)) := by
  unfold mRep
  dsimp only
  rw [if_pos ⟨by rw [Int.natAbs_natCast]; omega, by rw [Int.toNat_natCast]; simpa using h⟩, Int.toNat_natCast]
  congr 1
  induction n with
  | zero => rfl
  | succ n ih =>
    rw [List.replicate_succ, List.replicate_succ, List.flatten_cons, ih (by omega)]; rfl
theorem cAt_rep {n x : Nat} : cAt (List.replicate n 0) x = 0 := by
  unfold cAt
  rw [List.getD_eq_getElem?_getD, List.getElem?_replicate]
  split <;> rfl
end GF
/-! GF14: what is equal to itself; what is in a list of ints -/
namespace GF
open PySem PySem.Spec PyProof.Rows L2
mutual
/-- no text, no dict; not deeper than k -/
def okD : Nat → D → Bool
  | _, .none => true
  | _, .bool _ => true
  | _, .int _ => true
  | _, .str _ => false
  | 0, .list _ => false
  | 0, .tuple _ => false
  | k + 1, .list ds => okDs k ds
  | k + 1, .tuple ds => okDs k ds
  | _, .dict _ => false
def okDs : Nat → List D → Bool
  | _, [] => true
  | k, d :: ds => okD k d && okDs k ds
end
mutual
theorem eqv_self : ∀ (k : Nat) (d : D), okD k d = true → PyData.eqv d d = true
  | _, .none, _ => by unfold PyData.eqv; rfl
  | _, .bool b, _ => by unfold PyData.eqv; simp
  | _, .int i, _ => by unfold PyData.eqv; simp
  | _, .str _, h => by unfold okD at h; cases h
  | 0, .list _, h => by unfold okD at h; cases h
  | 0, .tuple _, h => by unfold okD at h; cases h
  | k + 1, .list ds, h => by unfold okD at h; unfold PyData.eqv; exact eqvs_self k ds h
  | k + 1, .tuple ds, h => by unfold okD at h; unfold PyData.eqv; exact eqvs_self k ds h
  | 0, .dict _, h => by unfold okD at h; cases h
  | _ + 1, .dict _, h => by unfold okD at h; cases h
theorem eqvs_self : ∀ (k : Nat) (ds : List D), okDs k ds = true → PyData.eqvAll ds ds = true
  | _, [], _ => by unfold PyData.eqvAll; rfl
  | k, d :: ds, h => by
    unfold okDs at h
    rw [Bool.and_eq_true] at h
    unfold PyData.eqvAll
    rw [eqv_self k d h.1, eqvs_self k ds h.2]; rfl
end
mutual
theorem ok_lay : ∀ (k : Nat) (d : D), okD k d = true → PyData.canLay0 d = true ∧ PyData.depth d ≤ k
  | _, .none, _ => by unfold PyData.canLay0 PyData.depth; simp
  | _, .bool b, _ => by unfold PyData.canLay0 PyData.depth; simp
  | _, .int i, _ => by unfold PyData.canLay0 PyData.depth; simp
  | _, .str _, h => by unfold okD at h; cases h
  | 0, .list _, h => by unfold okD at h; cases h
  | 0, .tuple _, h => by unfold okD at h; cases h
  | k + 1, .list ds, h => by
    unfold okD at h
    obtain ⟨h1, h2⟩ := ok_lays k ds h
    unfold PyData.canLay0 PyData.depth
    exact ⟨h1, by omega⟩
  | k + 1, .tuple ds, h => by
    unfold okD at h
    obtain ⟨h1, h2⟩ := ok_lays k ds h
    unfold PyData.canLay0 PyData.depth
    exact ⟨h1, by omega⟩
  | 0, .dict _, h => by unfold okD at h; cases h
  | _ + 1, .dict _, h => by unfold okD at h; cases h
theorem ok_lays : ∀ (k : Nat) (ds : List D), okDs k ds = true → PyData.canLayAll0 ds = true ∧ PyData.depthAll ds ≤ k
  | _, [], _ => by unfold PyData.canLayAll0 PyData.depthAll; simp
  | k, d :: ds, h => by
    unfold okDs at h
    rw [Bool.and_eq_true] at h
    obtain ⟨a1, a2⟩ := ok_lay k d h.1
    obtain ⟨b1, b2⟩ := ok_lays k ds h.2
    unfold PyData.canLayAll0 PyData.depthAll
    exact ⟨by rw [a1, b1]; rfl, Nat.max_le.mpr ⟨a2, b2⟩⟩
end
theorem ok_shaped {k : Nat} (hk : k ≤ 64) {d : D} (h : okD k d = true) : SeqAt.shaped d = true := by
  obtain ⟨a, b⟩ := ok_lay k d h
  unfold SeqAt.shaped
  rw [a, decide_eq_true (Nat.le_trans b hk)]; rfl
theorem okDs_all {k : Nat} : ∀ {ds : List D}, (∀ d ∈ ds, okD k d = true) → okDs k ds = true
  | [], _ => rfl
  | d :: ds, h => by
    unfold okDs
    rw [h d List.mem_cons_self, okDs_all fun e he => h e (List.mem_cons_of_mem _ he)]; rfl
theorem okDs_inZ {k : Nat} (ns : List Int) : okDs k (inZ ns) = true := okDs_all fun d hd => by
  obtain ⟨i, _, rfl⟩ := List.mem_map.mp hd
  cases k <;> rfl
theorem ok_inZ {k : Nat} (ns : List Int) : okD (k + 1) (.list (inZ ns)) = true := by unfold okD; exact okDs_inZ ns
theorem ok_inT {k : Nat} (ns : List Int) : okD (k + 1) (.tuple (inZ ns)) = true := by unfold okD; exact okDs_inZ ns
theorem mNe_self {k : Nat} (hk : k ≤ 64) {d : D} (h : okD k d = true) : mNe d d = some (.bool false) := by
  unfold mNe
  rw [if_pos ⟨ok_shaped hk h, ok_shaped hk h⟩, eqv_self k d h]; rfl
theorem mEq_self {k : Nat} (hk : k ≤ 64) {d : D} (h : okD k d = true) : mEq d d = some (.bool true) := by
  unfold mEq
  rw [if_pos ⟨ok_shaped hk h, ok_shaped hk h⟩, eqv_self k d h]
theorem any_inZ (k : Int) (ns : List Int) : ((inZ ns).any fun z => PyData.eqv z (.int k)) = decide (k ∈ ns) := by
  induction ns with
  | nil => rfl
  | cons n ns ih =>
    rw [inZ_cons, List.any_cons, ih]
    have : PyData.eqv (.int n) (.int k) = (n == k) := by unfold PyData.eqv; rfl
    rw [this, Bool.eq_iff_iff]
    simp only [Bool.or_eq_true, beq_iff_eq, decide_eq_true_eq, List.mem_cons]
    exact ⟨fun h => h.imp Eq.symm id, fun h => h.imp Eq.symm id⟩
theorem mIn_inZ (k : Int) (ns : List Int) : mIn (.int k) (.list (inZ ns)) = some (.bool (decide (k ∈ ns))) := by
  unfold mIn
  dsimp only
  rw [if_pos ⟨ok_shaped (k := 0) (by decide) rfl, ok_shaped (k := 1) (by decide) (ok_inZ ns)⟩, any_inZ]
theorem mNotIn_inZ (k : Int) (ns : List Int) : mNotIn (.int k) (.list (inZ ns)) = some (.bool (!decide (k ∈ ns))) := by
  unfold mNotIn
  dsimp only
  rw [if_pos ⟨ok_shaped (k := 0) (by decide) rfl, ok_shaped (k := 1) (by decide) (ok_inZ ns)⟩, any_inZ]
/-- pairs -/
def inP (ps : List (Int × Int)) : List D := ps.map pairD
@[simp] theorem inP_len (ps : List (Int × Int)) : (inP ps).length = ps.length := List.length_map ..
theorem okDs_inP {k : Nat} (ps : List (Int × Int)) : okDs (k + 1) (inP ps) = true := okDs_all fun d hd => by
  obtain ⟨i, _, rfl⟩ := List.mem_map.mp hd
  cases k <;> rfl
theorem noLsts_inP (ps : List (Int × Int)) : noLsts (inP ps) = true := by
  induction ps with
  | nil => rfl
  | cons p ps ih => show (noLst (pairD p) && noLsts (inP ps)) = true; rw [ih]; rfl
/-- a comprehension over a range -/
theorem range_filter {lo hi : Int} (b : Int → Bool) : (((rangeI lo hi).map PyData.int).filter fun d => match d with | .int k => b k | _ => false) = inZ ((rangeI lo hi).filter b) := by
  unfold inZ
  rw [List.filter_map]
  rfl
end GF
/-! GF15: dicts of ints -/
namespace GF
open PySem PySem.Spec PyProof.Rows L2
abbrev ID := List (Int × Int)
def kP (ps : ID) : List (Key × D) := ps.map fun kv => (.inl kv.1, .int kv.2)
def getP (ps : ID) (x : Int) : Option Int := (ps.find? fun kv => decide (kv.1 = x)).map (·.2)
def putP (ps : ID) (x v : Int) : ID := if (ps.any fun kv => decide (kv.1 = x)) = true then ps.map (fun kv => if kv.1 = x then (kv.1, v) else kv) else ps ++ [(x, v)]
@[simp] theorem kP_nil : kP [] = [] := rfl
@[simp] theorem kP_len (ps : ID) : (kP ps).length = ps.length := List.length_map ..
theorem getD_kP (ps : ID) (x : Int) : getD (kP ps) (.inl x) = (getP ps x).map PyData.int := by
  unfold getD getP kP
  induction ps with
  | nil => rfl
  | cons p ps ih =>
    rw [List.map_cons, List.find?_cons, List.find?_cons]
    by_cases e : p.1 = x
    · rw [decide_eq_true (show (Sum.inl p.1 : Key) = Sum.inl x by rw [e]), decide_eq_true e]; rfl
    · rw [decide_eq_false (show ¬ (Sum.inl p.1 : Key) = Sum.inl x from fun z => e (Sum.inl.inj z)), decide_eq_false e]
      exact ih
theorem any_kP (ps : ID) (x : Int) : ((kP ps).any fun kv => decide (kv.1 = .inl x)) = ps.any fun kv => decide (kv.1 = x) := by
  unfold kP
  induction ps with
  | nil => rfl
  | cons p ps ih =>
    rw [List.map_cons, List.any_cons, List.any_cons, ih]
    congr 1
    by_cases e : p.1 = x
    · rw [decide_eq_true (show (Sum.inl p.1 : Key) = Sum.inl x by rw [e]), decide_eq_true e]
    · rw [decide_eq_false (show ¬ (Sum.inl p.1 : Key) = Sum.inl x from fun z => e (Sum.inl.inj z)), decide_eq_false e]
theorem putD_kP (ps : ID) (x v : Int) : putD (kP ps) (.inl x) (.int v) = kP (putP ps x v) := by
  unfold putD putP
  rw [any_kP]
  split
  · unfold kP
    rw [List.map_map, List.map_map]
    refine List.map_congr_left fun p _ => ?_
    dsimp only [Function.comp]
    by_cases e : p.1 = x
    · rw [if_pos (show (Sum.inl p.1 : Key) = Sum.inl x by rw [e]), if_pos e]
    · rw [if_neg (show ¬ (Sum.inl p.1 : Key) = Sum.inl x from fun z => e (Sum.inl.inj z)), if_neg e]
  · unfold kP
    rw [List.map_append]; rfl
theorem getP_put (ps : ID) (x v y : Int) : getP (putP ps x v) y = if y = x then some v else getP ps y := by
  unfold getP putP
  by_cases e : y = x
  · subst e
    rw [if_pos rfl]
    split
    · rename_i h
      induction ps with
      | nil => cases h
      | cons p ps ih =>
        rw [List.map_cons, List.find?_cons]
        by_cases e : p.1 = y
        · rw [if_pos e, decide_eq_true (show (p.1, v).1 = y from e)]; rfl
        · rw [if_neg e, decide_eq_false e]
          rw [List.any_cons, decide_eq_false e, Bool.false_or] at h
          exact ih h
    · rename_i h
      rw [List.find?_append]
      have : (ps.find? fun kv => decide (kv.1 = y)) = none := by
        rw [List.find?_eq_none]
        intro p hp z
        exact h (List.any_eq_true.mpr ⟨p, hp, z⟩)
      rw [this]
      simp
  · rw [if_neg e]
    split
    · induction ps with
      | nil => rfl
      | cons p ps ih =>
        rename_i h
        rw [List.map_cons, List.find?_cons, List.find?_cons]
        by_cases e2 : p.1 = y
        · rw [if_neg (show ¬ p.1 = x by omega), decide_eq_true e2]
        · rw [show decide ((if p.1 = x then (p.1, v) else p).1 = y) = false by
            refine decide_eq_false ?_
            split
            · exact e2
            · exact e2, decide_eq_false e2]
          by_cases h' : (ps.any fun kv => decide (kv.1 = x)) = true
          · exact ih h'
          · have : ps.map (fun kv => if kv.1 = x then (kv.1, v) else kv) = ps := by
              conv => rhs; rw [← List.map_id ps]
              refine List.map_congr_left fun q hq => ?_
              rw [if_neg fun z => h' (List.any_eq_true.mpr ⟨q, hq, decide_eq_true z⟩)]; rfl
            rw [this]
    · rw [List.find?_append]
      cases (ps.find? fun kv => decide (kv.1 = y)) with
      | some q => rfl
      | none =>
        simp only [Option.none_or, List.find?_cons, List.find?_nil]
        rw [decide_eq_false (show ¬ (x, v).1 = y from fun z => e z.symm)]
def keysP (ps : ID) : List Int := ps.map (·.1)
theorem keys_put (ps : ID) (x v : Int) : keysP (putP ps x v) = if x ∈ keysP ps then keysP ps else keysP ps ++ [x] := by
  unfold keysP putP
  by_cases h : (ps.any fun kv => decide (kv.1 = x)) = true
  · rw [if_pos h, List.map_map]
    obtain ⟨q, hq, e⟩ := List.any_eq_true.mp h
    rw [if_pos (List.mem_map.mpr ⟨q, hq, of_decide_eq_true e⟩)]
    refine List.map_congr_left fun p _ => ?_
    show (if p.1 = x then (p.1, v) else p).1 = p.1
    split <;> rfl
  · rw [if_neg h, if_neg (fun z => ?_), List.map_append]; rfl
    obtain ⟨q, hq, e⟩ := List.mem_map.mp z
    exact h (List.any_eq_true.mpr ⟨q, hq, decide_eq_true e⟩)
theorem len_put (ps : ID) (x v : Int) : (putP ps x v).length ≤ ps.length + 1 := by
  unfold putP
  split <;> simp
theorem getP_none {ps : ID} {x : Int} : getP ps x = none ↔ x ∉ keysP ps := by
  unfold getP keysP
  rw [Option.map_eq_none_iff, List.find?_eq_none]
  constructor
  · intro h z
    obtain ⟨q, hq, e⟩ := List.mem_map.mp z
    exact h q hq (decide_eq_true e)
  · intro h q hq z
    exact h (List.mem_map.mpr ⟨q, hq, of_decide_eq_true z⟩)
theorem getP_some {ps : ID} {x : Int} (h : x ∈ keysP ps) : ∃ v, getP ps x = some v := by
  cases e : getP ps x with
  | none => exact absurd h (getP_none.mp e)
  | some v => exact ⟨v, rfl⟩
section
variable {ρ : Ev} {s : DS} {f g : Ex} {i j : Nat}
@[simp] theorem x_get2 : dGet2 i f g ρ s = (dictOf ρ i).bind fun kvs => (f ρ s).bind fun p => (g ρ p.2).bind fun q => (keyD p.1).map fun k => ((getD kvs k).getD q.1, q.2) := rfl
@[simp] theorem x_ixN : dIxN i f ρ s = match dictOf ρ i with
  | some kvs => (f ρ s).bind fun p => (keyD p.1).bind fun k => (getD kvs k).map fun d => (d, p.2)
  | none => dOp mIx (dVar i) f ρ s := by unfold dIxN; rfl
@[simp] theorem x_dictOf : dictOf ρ i = match ρ[i]? with
  | some (some (.md kvs)) => some kvs
  | some (some (.mz kvs)) => some kvs
  | _ => none := by unfold dictOf; rfl
@[simp] theorem x_keyI {z : Int} : keyD (.int z) = some (.inl z) := rfl
@[simp] theorem x_getD (ps : ID) (x : Int) : getD (kP ps) (.inl x) = (getP ps x).map PyData.int := getD_kP ps x
@[simp] theorem x_putD (ps : ID) (x v : Int) : putD (kP ps) (.inl x) (.int v) = kP (putP ps x v) := putD_kP ps x v
@[simp] theorem x_put0 (x v : Int) : putD [] (.inl x) (.int v) = kP (putP [] x v) := putD_kP [] x v
@[simp] theorem x_popTo : dPopTo i j ρ s = match ρ[j]? with
  | some (some (.ml ds)) => if i < ρ.length ∧ i ≠ j then (ds.getLast?).map fun d => .nx ((ρ.set j (some (.ml ds.dropLast))).set i (some (.im d))) s else none
  | _ => none := by unfold dPopTo; rfl
@[simp] theorem x_getOr {o : Option Int} {d : Int} : (o.map PyData.int).getD (.int d) = .int (o.getD d) := by cases o <;> rfl
end
theorem intKeys_kP (ps : ID) : intKeys (kP ps) = some (keysP ps) := by
  unfold kP keysP
  induction ps with
  | nil => rfl
  | cons p ps ih => show (intKeys _).map _ = _; rw [ih]; rfl
theorem srtN_kP {ρ : Ev} {s : DS} {i : Nat} {ps : ID} (h : dictOf ρ i = some (kP ps)) : dSrtN i ρ s = some (inZ (sortI (keysP ps)), s) := by
  unfold dSrtN
  rw [h]
  show (intKeys (kP ps)).map _ = _
  rw [intKeys_kP]; rfl
end GF
/-! GF16: more for simp: dicts walked, loops over a few, sorted -/
namespace GF
open PySem PySem.Spec PyProof.Rows L2
section
variable {ρ : Ev} {s : DS} {f g : Ex} {fs : Exs} {i j : Nat} {G : Sx} {hx : Hx}
@[simp] theorem x_for : dFor fs hx G ρ s = (fs ρ s).bind fun p => dForL p.1 hx G ρ p.2 := rfl
@[simp] theorem x_forN : dForL [] hx G ρ s = some (.nx ρ s) := rfl
@[simp] theorem x_forC {d : D} {r : List D} : dForL (d :: r) hx G ρ s = (hx d ρ).bind fun ρ1 => (G ρ1 s).bind fun o => match o with
  | .nx ρ' s' => dForL r hx G ρ' s'
  | .ct ρ' s' => dForL r hx G ρ' s'
  | .bk ρ' s' => some (.nx ρ' s')
  | .rt d s' => some (.rt d s') := rfl
@[simp] theorem x_lock : dLock i fs ρ s = match ρ[i]? with
  | some (some (.md kvs)) => fs (ρ.set i (some (.mz kvs))) s
  | _ => none := by unfold dLock; rfl
@[simp] theorem x_keys : dKeys i ρ s = match ρ[i]? with
  | some (some (.mz kvs)) => some (kvs.map fun kv => dKey kv.1, s)
  | _ => none := by unfold dKeys; rfl
@[simp] theorem x_keysP (ps : ID) : (kP ps).map (fun kv => dKey kv.1) = inZ (keysP ps) := by
  unfold kP keysP inZ
  rw [List.map_map, List.map_map]; rfl
@[simp] theorem x_emptyZ (ns : List Int) : (inZ ns).isEmpty = ns.isEmpty := by cases ns <;> rfl
theorem x_lastL (w : List Int) (p : Int) : (inZ (w ++ [p])).getLast? = some (.int p) := by
  rw [← inZ_app, List.getLast?_concat]
theorem x_dropL (w : List Int) (p : Int) : (inZ (w ++ [p])).dropLast = inZ w := by
  rw [← inZ_app, List.dropLast_concat]
@[simp] theorem x_fdiv2 {u : Int} : mFdiv (.int u) (.int 2) = some (.int (u.fdiv 2)) := by unfold mFdiv; exact if_pos ⟨by decide, by decide⟩
@[simp] theorem x_mul2 {u : Int} : mMul (.int 2) (.int u) = some (.int (2 * u)) := by unfold mMul; exact if_pos (.inl (by decide))
@[simp] theorem x_sortI (ns : List Int) : mSorted [.list (inZ ns)] = some (inZ (sortI ns)) := by
  show (match intsOf (inZ ns) with | some ns => some ((sortI ns).map PyData.int) | none => _) = _
  rw [x_ints]; rfl
theorem x_sortP (ps : List (Int × Int)) : mSorted [.list (inP ps)] = some (inP (sortP ps)) := by
  cases ps with
  | nil =>
    have a : sortI [] = [] := List.Perm.eq_nil (sortI_perm [])
    have b : sortP [] = [] := List.Perm.eq_nil (sortP_perm [])
    have := x_sortI []
    rw [a] at this
    rw [b]
    exact this
  | cons p ps =>
    show (match intsOf (inP (p :: ps)) with | some ns => some ((sortI ns).map PyData.int) | none => (pairsOf (inP (p :: ps))).map fun ps => (sortP ps).map pairD) = _
    rw [show intsOf (inP (p :: ps)) = none from rfl, show pairsOf (inP (p :: ps)) = some (p :: ps) from pairsOf_map _]; rfl
end
/-- the places of a dict that hold more than k -/
theorem lc_more {h : ID} {k : Int} {s : DS} {fi : Nat} {ρ : Ev} (hv : (hN fi : Hx) = hN fi) (hρ : ∀ x : Int, ∃ ρ1, hN fi (.int x) ρ = some ρ1 ∧ dVar fi ρ1 s = some (.int x, s) ∧ dIxN 1 (dVar fi) ρ1 s = (getP h x).map fun v => (.int v, s)) :
    lcL (inZ (keysP h)) (hN fi) (dTest (dOp mGt (dIxN 1 (dVar fi)) (dC (.int k)))) (dVar fi) ρ s = some (inZ ((keysP h).filter fun x => decide (k < (getP h x).getD 0)), s) := by
  have e := lcL_pure (items := inZ (keysP h)) (h := hN fi) (t := dTest (dOp mGt (dIxN 1 (dVar fi)) (dC (.int k)))) (f := dVar fi) (ρ := ρ) (s := s) (fun d => match d with | .int x => decide (k < (getP h x).getD 0) | _ => false) id (fun d hd => by
    obtain ⟨x, hx, rfl⟩ := List.mem_map.mp hd
    obtain ⟨ρ1, e1, e2, e3⟩ := hρ x
    obtain ⟨v, ev⟩ := getP_some hx
    refine ⟨ρ1, e1, ?_, fun _ => e2⟩
    rw [x_test, x_op, e3, ev]
    show some (decide (k < v), s) = some (decide (k < (getP h x).getD 0), s)
    rw [ev]; rfl)
  rw [e, List.map_id]
  congr 2
  unfold inZ
  rw [List.filter_map]
  rfl
theorem dc_init {fi fj : Nat} {ρ : Ev} {s : DS} (hρ : ∀ x y : Int, ∃ ρ1, hT (hCons (hN fi) (hCons (hN fj) hNil)) (.tuple [.int x, .int y]) ρ = some ρ1 ∧ dVar fi ρ1 s = some (.int x, s) ∧ dVar fj ρ1 s = some (.int y, s)) : ∀ (ps : List (Int × Int)) (acc : ID),
    dcL (inP ps) (hT (hCons (hN fi) (hCons (hN fj) hNil))) tT (dVar fi) (dVar fj) ρ s (kP acc) = some (kP (ps.foldl (fun d p => putP d p.1 p.2) acc), s)
  | [], acc => rfl
  | p :: ps, acc => by
    obtain ⟨ρ1, e1, e2, e3⟩ := hρ p.1 p.2
    show (hT (hCons (hN fi) (hCons (hN fj) hNil)) (.tuple [.int p.1, .int p.2]) ρ).bind _ = _
    rw [e1]
    show (dVar fi ρ1 s).bind _ = _
    rw [e2]
    show (dVar fj ρ1 s).bind _ = _
    rw [e3]
    show dcL (inP ps) _ tT _ _ ρ s (putD (kP acc) (.inl p.1) (.int p.2)) = _
    rw [putD_kP]
    exact dc_init hρ ps _
def initP (ps : List (Int × Int)) : ID := ps.foldl (fun d p => putP d p.1 p.2) []

section
variable {ρ : Ev} {s : DS} {f : Ex} {i : Nat} {h : Gx} {hs : Gxs}
@[simp] theorem x_asgX : dAsgX h f ρ s = (f ρ s).bind fun p => (h p.1 ρ p.2).map fun q => .nx q.1 q.2 := rfl
@[simp] theorem x_gxT {ds : List D} : gxT hs (.tuple ds) ρ s = hs ds ρ s := rfl
@[simp] theorem x_gxN : gxNil [] ρ s = some (ρ, s) := rfl
@[simp] theorem x_gxC {d : D} {ds : List D} : gxCons h hs (d :: ds) ρ s = (h d ρ s).bind fun p => hs ds p.1 p.2 := rfl
@[simp] theorem x_gSub {d : D} : gSubN i f d ρ s = (f ρ s).bind fun p => (putE ρ i p.1 d).map fun ρ' => (ρ', p.2) := rfl
@[simp] theorem x_putE {k v : D} : putE ρ i k v = match ρ[i]? with
  | some (some (.ml ds)) => match k with
    | .int z => (ixN ds.length z).map fun n => ρ.set i (some (.ml (ds.set n v)))
    | _ => none
  | some (some (.md kvs)) => (keyD k).bind fun kk => if kvs.length < 16777216 then some (ρ.set i (some (.md (putD kvs kk v)))) else none
  | _ => none := by unfold putE; rfl
@[simp] theorem x_intI {u : Int} : mInt [.int u] = some (.int u) := rfl
theorem mNe_nil (ns : List Int) : mNe (.list (inZ ns)) (.list []) = some (.bool !ns.isEmpty) := by
  unfold mNe
  rw [if_pos ⟨ok_shaped (k := 1) (by decide) (ok_inZ ns), ok_shaped (k := 1) (by decide) rfl⟩]
  cases ns with
  | nil => rfl
  | cons n ns =>
    rw [inZ_cons]
    unfold PyData.eqv PyData.eqvAll
    rfl
end
end GF
namespace K00
open PySem PySem.Spec PyProof.Rows L2 GF
def topS (i : Nat) : Stmt := PySem.Challenge.pw_grainsfall_k00_whole_ring_ends_and_point.main.body.getD i (.Pass ⟨0, 0, 0, 0⟩)
abbrev s_line_end : Stmt := topS 1
abbrev n_line_end : List Str := ["piles", "here", "book", "wait", "ends", "place", "times", "other", "many"]
theorem sc_line_end : FnScope n_line_end ["piles"] (defScope s_line_end) := ⟨rfl, rfl, rfl, by decide +kernel, rfl, by decide +kernel, by decide +kernel⟩
noncomputable def d_line_end_1 (n : Nat) : Sx :=
  (dSeq (dSetN 1 (dVar 7) (dOp mAdd (dGet2 1 (dVar 7) (dC (.int 0))) (dVar 6)))
  (dIf (dTest (dOp mGt (dIxN 1 (dVar 7)) (dC (.int 1)))) (dApp 3 (dVar 7)) dSkip))
theorem mono_d_line_end_1 : Mono d_line_end_1 := (mono_seq (mono_c _) (mono_if (mono_c _) (mono_c _)))
noncomputable def d_line_end_2 (n : Nat) : Sx :=
  (dSeq (dPopTo 5 3)
  (dSeq (dAsg 6 (xE (dOp mFdiv (dIxN 1 (dVar 5)) (dC (.int 2)))))
  (dIf (dTest (dOp mGt (dVar 6) (dC (.int 0)))) (dSeq (dSetN 1 (dVar 5) (dOp mSub (dIxN 1 (dVar 5)) (dOp mMul (dC (.int 2)) (dVar 6))))
  (dSeq (dSetN 2 (dVar 5) (dOp mAdd (dGet2 2 (dVar 5) (dC (.int 0))) (dVar 6)))
  (dFor (dItems (dTup (dCons (dOp mSub (dVar 5) (dC (.int 1))) (dCons (dOp mAdd (dVar 5) (dC (.int 1))) dNil)))) (hN 7) (d_line_end_1 n)))) dSkip)))
theorem mono_d_line_end_2 : Mono d_line_end_2 := (mono_seq (mono_c _) (mono_seq (mono_c _) (mono_if (mono_seq (mono_c _) (mono_seq (mono_c _) (mono_for mono_d_line_end_1))) (mono_c _))))
noncomputable def d_line_end (n : Nat) : Sx :=
  (dSeq (dAsg 1 (xDc [5, 8] (dItems (dVar 0)) (hT (hCons (hN 5) (hCons (hN 8) hNil))) tT (dVar 5) (dVar 8)))
  (dSeq (dAsg 2 xD0)
  (dSeq (dAsg 3 (xF (dCallF mSorted (dCons (dFr (dLock 1 (dLc [5] (dKeys 1) (hN 5) (dTest (dOp mGt (dIxN 1 (dVar 5)) (dC (.int 1)))) (dVar 5)))) dNil))))
  (dSeq (dWhile n (dBwT (dTru (dVar 3))) (d_line_end_2 n))
  (dSeq (dAsg 4 (xF (dCallF mSorted (dCons (dFr (dLock 1 (dLc [5] (dKeys 1) (hN 5) (dTest (dOp mGt (dIxN 1 (dVar 5)) (dC (.int 0)))) (dVar 5)))) dNil))))
  (dRet (dTup (dCons (dVar 4) (dCons (dFr (dCallF mSorted (dCons (dFr (dLock 2 (dLc [5] (dKeys 2) (hN 5) tT (dTup (dCons (dVar 5) (dCons (dIxN 2 (dVar 5)) dNil)))))) dNil))) dNil)))))))))
theorem mono_d_line_end : Mono d_line_end := (mono_seq (mono_c _) (mono_seq (mono_c _) (mono_seq (mono_c _) (mono_seq (mono_while mono_d_line_end_2) (mono_seq (mono_c _) (mono_c _))))))
noncomputable def m_line_end : List D → Option D := tells n_line_end.length d_line_end
theorem ss_line_end {P : Program} {w : World} {K : PySem.W.Frag} {mg : Str → Option Value} {base : Heap} (n : Nat) (z_sorted : mg "sorted" = none) : SSs (cfgOf P w K mg base n_line_end (defScope s_line_end) 0) (defBody s_line_end) (d_line_end n) :=
  (ss_cons (ss_asg (i := 1) rfl rfl (sx_dc (own := [("place", 5), ("many", 8)]) (sic_of (si_val (se_var (i := 0) rfl rfl))) (sg_tup (sg_cons (sg_name (i := 5) rfl rfl rfl) (sg_cons (sg_name (i := 8) rfl rfl rfl) sg_nil)) (hl := (hlen_cons (hlen_cons hlen_nil)))) sts_nil (se_var (i := 5) rfl rfl) (se_var (i := 8) rfl rfl) rfl rfl) rfl)
  (ss_cons (ss_asg (i := 2) rfl rfl sx_d0 rfl)
  (ss_cons (ss_asg (i := 3) rfl rfl (sx_F (sf_callB cf_sorted rfl z_sorted (by decide +kernel) (sa_cons (se_fr (sf_lock (i := 1) (sf_lc (own := [("place", 5)]) (sic_keys (i := 1) rfl rfl) (sg_name (i := 5) rfl rfl rfl) (sts_one (st_cmp os_gt (se_ixN (i := 1) rfl rfl (se_var (i := 5) rfl rfl)) se_int)) (se_var (i := 5) rfl rfl) rfl rfl))) sa_nil))) rfl)
  (ss_cons (ss_while (st_bw (st_tru (se_var (i := 3) rfl rfl))) (ss_cons (ss_popTo (i := 5) (j := 3) rfl rfl rfl rfl rfl)
  (ss_cons (ss_asg (i := 6) rfl rfl (sx_E (se_bin os_fdiv (se_ixN (i := 1) rfl rfl (se_var (i := 5) rfl rfl)) se_int)) rfl)
  (ss_one (ss_if (st_cmp os_gt (se_var (i := 6) rfl rfl) se_int) (ss_cons (ss_setN (i := 1) rfl rfl (se_var (i := 5) rfl rfl) (se_bin os_sub (se_ixN (i := 1) rfl rfl (se_var (i := 5) rfl rfl)) (se_bin os_mul se_int (se_var (i := 6) rfl rfl))))
  (ss_cons (ss_setN (i := 2) rfl rfl (se_var (i := 5) rfl rfl) (se_bin os_add (se_get2 (i := 2) rfl rfl (se_var (i := 5) rfl rfl) se_int) (se_var (i := 6) rfl rfl)))
  (ss_one (ss_for (si_val (se_tup (sa_cons (se_bin os_sub (se_var (i := 5) rfl rfl) se_int) (sa_cons (se_bin os_add (se_var (i := 5) rfl rfl) se_int) sa_nil)))) (sg_name (i := 7) rfl rfl rfl) (ss_cons (ss_setN (i := 1) rfl rfl (se_var (i := 7) rfl rfl) (se_bin os_add (se_get2 (i := 1) rfl rfl (se_var (i := 7) rfl rfl) se_int) (se_var (i := 6) rfl rfl)))
  (ss_one (ss_if (st_cmp os_gt (se_ixN (i := 1) rfl rfl (se_var (i := 7) rfl rfl)) se_int) (ss_one (ss_app (i := 3) rfl rfl (se_var (i := 7) rfl rfl))) ss_nil))))))) ss_nil)))))
  (ss_cons (ss_asg (i := 4) rfl rfl (sx_F (sf_callB cf_sorted rfl z_sorted (by decide +kernel) (sa_cons (se_fr (sf_lock (i := 1) (sf_lc (own := [("place", 5)]) (sic_keys (i := 1) rfl rfl) (sg_name (i := 5) rfl rfl rfl) (sts_one (st_cmp os_gt (se_ixN (i := 1) rfl rfl (se_var (i := 5) rfl rfl)) se_int)) (se_var (i := 5) rfl rfl) rfl rfl))) sa_nil))) rfl)
  (ss_one (ss_ret (se_tup (sa_cons (se_var (i := 4) rfl rfl) (sa_cons (se_fr (sf_callB cf_sorted rfl z_sorted (by decide +kernel) (sa_cons (se_fr (sf_lock (i := 2) (sf_lc (own := [("place", 5)]) (sic_keys (i := 2) rfl rfl) (sg_name (i := 5) rfl rfl rfl) sts_nil (se_tup (sa_cons (se_var (i := 5) rfl rfl) (sa_cons (se_ixN (i := 2) rfl rfl (se_var (i := 5) rfl rfl)) sa_nil))) rfl rfl))) sa_nil))) sa_nil))))))))))
theorem ok_line_end {P : Program} {w : World} {K : PySem.W.Frag} {mg : Str → Option Value} {base : Heap} {f : Addr} {fd : FuncData} (F : Fun K "line_end" "line_end" s_line_end f fd) (z_sorted : mg "sorted" = none) : FnOk P w K mg base CX0 1 f fd ["piles"] (spP 1 m_line_end) :=
  ok_pure F sc_line_end rfl fun n => ss_line_end n z_sorted

abbrev s_pile_end : Stmt := topS 2
abbrev n_pile_end : List Str := ["many", "half", "place"]
theorem sc_pile_end : FnScope n_pile_end ["many"] (defScope s_pile_end) := ⟨rfl, rfl, rfl, by decide +kernel, rfl, by decide +kernel, by decide +kernel⟩
noncomputable def d_pile_end (n : Nat) : Sx :=
  (dSeq (dAsg 1 (xE (dOp mFdiv (dVar 0) (dC (.int 2)))))
  (dRet (dFr (dLc [2] (dRng2 (dCons (dNeg (dVar 1)) (dCons (dOp mAdd (dVar 1) (dC (.int 1))) dNil))) (hN 2) (dOr (dTest (dOp mNe (dVar 2) (dC (.int 0)))) (dTest (dOp mEq (dOp mMod (dVar 0) (dC (.int 2))) (dC (.int 1))))) (dVar 2)))))
theorem mono_d_pile_end : Mono d_pile_end := (mono_seq (mono_c _) (mono_c _))
noncomputable def m_pile_end : List D → Option D := tells n_pile_end.length d_pile_end
theorem ss_pile_end {P : Program} {w : World} {K : PySem.W.Frag} {mg : Str → Option Value} {base : Heap} (n : Nat) (z_range : mg "range" = none) : SSs (cfgOf P w K mg base n_pile_end (defScope s_pile_end) 0) (defBody s_pile_end) (d_pile_end n) :=
  (ss_cons (ss_asg (i := 1) rfl rfl (sx_E (se_bin os_fdiv (se_var (i := 0) rfl rfl) se_int)) rfl)
  (ss_one (ss_ret (se_fr (sf_lc (own := [("place", 2)]) (sic_of (si_rng2 rfl z_range (sa_cons (se_neg (se_var (i := 1) rfl rfl)) (sa_cons (se_bin os_add (se_var (i := 1) rfl rfl) se_int) sa_nil)))) (sg_name (i := 2) rfl rfl rfl) (sts_one (st_w (sw_or (st_cmp os_ne (se_var (i := 2) rfl rfl) se_int) (sw_or1 (st_cmp os_eq (se_bin os_mod (se_var (i := 0) rfl rfl) se_int) se_int))))) (se_var (i := 2) rfl rfl) rfl rfl)))))
theorem ok_pile_end {P : Program} {w : World} {K : PySem.W.Frag} {mg : Str → Option Value} {base : Heap} {f : Addr} {fd : FuncData} (F : Fun K "pile_end" "pile_end" s_pile_end f fd) (z_range : mg "range" = none) : FnOk P w K mg base CX0 1 f fd ["many"] (spP 1 m_pile_end) :=
  ok_pure F sc_pile_end rfl fun n => ss_pile_end n z_range

abbrev s_pile_book : Stmt := topS 3
abbrev n_pile_book : List Str := ["many", "half", "told", "place", "left"]
theorem sc_pile_book : FnScope n_pile_book ["many"] (defScope s_pile_book) := ⟨rfl, rfl, rfl, by decide +kernel, rfl, by decide +kernel, by decide +kernel⟩
noncomputable def d_pile_book_1 (n : Nat) : Sx :=
  (dSeq (dAsg 4 (xE (dOp mSub (dVar 1) (dCall mAbs (dCons (dVar 3) dNil)))))
  (dApp 2 (dTup (dCons (dVar 3) (dCons (dOp mFdiv (dOp mMul (dVar 4) (dOp mAdd (dVar 4) (dC (.int 1)))) (dC (.int 2))) dNil)))))
theorem mono_d_pile_book_1 : Mono d_pile_book_1 := (mono_seq (mono_c _) (mono_c _))
noncomputable def d_pile_book (n : Nat) : Sx :=
  (dSeq (dAsg 1 (xE (dOp mFdiv (dVar 0) (dC (.int 2)))))
  (dSeq (dAsg 2 (xF (dLst dNil)))
  (dSeq (dFor (dRng2 (dCons (dOp mSub (dC (.int 1)) (dVar 1)) (dCons (dVar 1) dNil))) (hN 3) (d_pile_book_1 n))
  (dRet (dVar 2)))))
theorem mono_d_pile_book : Mono d_pile_book := (mono_seq (mono_c _) (mono_seq (mono_c _) (mono_seq (mono_for mono_d_pile_book_1) (mono_c _))))
noncomputable def m_pile_book : List D → Option D := tells n_pile_book.length d_pile_book
theorem ss_pile_book {P : Program} {w : World} {K : PySem.W.Frag} {mg : Str → Option Value} {base : Heap} (n : Nat) (z_abs : mg "abs" = none) (z_range : mg "range" = none) : SSs (cfgOf P w K mg base n_pile_book (defScope s_pile_book) 0) (defBody s_pile_book) (d_pile_book n) :=
  (ss_cons (ss_asg (i := 1) rfl rfl (sx_E (se_bin os_fdiv (se_var (i := 0) rfl rfl) se_int)) rfl)
  (ss_cons (ss_asg (i := 2) rfl rfl (sx_F (sf_lst sa_nil)) rfl)
  (ss_cons (ss_for (si_rng2 rfl z_range (sa_cons (se_bin os_sub se_int (se_var (i := 1) rfl rfl)) (sa_cons (se_var (i := 1) rfl rfl) sa_nil))) (sg_name (i := 3) rfl rfl rfl) (ss_cons (ss_asg (i := 4) rfl rfl (sx_E (se_bin os_sub (se_var (i := 1) rfl rfl) (se_callB cs_abs rfl z_abs (by decide +kernel) (sa_cons (se_var (i := 3) rfl rfl) sa_nil)))) rfl)
  (ss_one (ss_app (i := 2) rfl rfl (se_tup (sa_cons (se_var (i := 3) rfl rfl) (sa_cons (se_bin os_fdiv (se_bin os_mul (se_var (i := 4) rfl rfl) (se_bin os_add (se_var (i := 4) rfl rfl) se_int)) se_int) sa_nil)))))))
  (ss_one (ss_ret (se_var (i := 2) rfl rfl))))))
theorem ok_pile_book {P : Program} {w : World} {K : PySem.W.Frag} {mg : Str → Option Value} {base : Heap} {f : Addr} {fd : FuncData} (F : Fun K "pile_book" "pile_book" s_pile_book f fd) (z_abs : mg "abs" = none) (z_range : mg "range" = none) : FnOk P w K mg base CX0 1 f fd ["many"] (spP 1 m_pile_book) :=
  ok_pure F sc_pile_book rfl fun n => ss_pile_book n z_abs z_range

abbrev s_moment : Stmt := topS 4
abbrev n_moment : List Str := ["places", "place"]
theorem sc_moment : FnScope n_moment ["places"] (defScope s_moment) := ⟨rfl, rfl, rfl, by decide +kernel, rfl, by decide +kernel, by decide +kernel⟩
noncomputable def d_moment (n : Nat) : Sx :=
  (dRet (dCall mSum (dCons (dFr (dLc [1] (dItems (dVar 0)) (hN 1) tT (dOp mMul (dVar 1) (dVar 1)))) dNil)))
theorem mono_d_moment : Mono d_moment := (mono_c _)
noncomputable def m_moment : List D → Option D := tells n_moment.length d_moment
theorem ss_moment {P : Program} {w : World} {K : PySem.W.Frag} {mg : Str → Option Value} {base : Heap} (n : Nat) (z_sum : mg "sum" = none) : SSs (cfgOf P w K mg base n_moment (defScope s_moment) 0) (defBody s_moment) (d_moment n) :=
  (ss_one (ss_ret (se_callB cs_sum rfl z_sum (by decide +kernel) (sa_cons (se_fr (sf_lc (own := [("place", 1)]) (sic_of (si_val (se_var (i := 0) rfl rfl))) (sg_name (i := 1) rfl rfl rfl) sts_nil (se_bin os_mul (se_var (i := 1) rfl rfl) (se_var (i := 1) rfl rfl)) rfl rfl)) sa_nil))))
theorem ok_moment {P : Program} {w : World} {K : PySem.W.Frag} {mg : Str → Option Value} {base : Heap} {f : Addr} {fd : FuncData} (F : Fun K "moment" "moment" s_moment f fd) (z_sum : mg "sum" = none) : FnOk P w K mg base CX0 1 f fd ["places"] (spP 1 m_moment) :=
  ok_pure F sc_moment rfl fun n => ss_moment n z_sum

abbrev s_first_full : Stmt := topS 6
abbrev n_first_full : List Str := ["chips", "found", "place", "many"]
theorem sc_first_full : FnScope n_first_full ["chips"] (defScope s_first_full) := ⟨rfl, rfl, rfl, by decide +kernel, rfl, by decide +kernel, by decide +kernel⟩
noncomputable def d_first_full (n : Nat) : Sx :=
  (dSeq (dAsg 1 (xF (dLc [2, 3] (dEnum (dCons (dVar 0) dNil)) (hT (hCons (hN 2) (hCons (hN 3) hNil))) (dTest (dOp mGt (dVar 3) (dC (.int 1)))) (dVar 2))))
  (dRet (dIfE (dTru (dVar 1)) (dOp mIx (dVar 1) (dC (.int 0))) (dC .none))))
theorem mono_d_first_full : Mono d_first_full := (mono_seq (mono_c _) (mono_c _))
noncomputable def m_first_full : List D → Option D := tells n_first_full.length d_first_full
theorem ss_first_full {P : Program} {w : World} {K : PySem.W.Frag} {mg : Str → Option Value} {base : Heap} (n : Nat) (z_enumerate : mg "enumerate" = none) : SSs (cfgOf P w K mg base n_first_full (defScope s_first_full) 0) (defBody s_first_full) (d_first_full n) :=
  (ss_cons (ss_asgLc (j := 1) (own := [("place", 2), ("many", 3)]) rfl rfl (sic_of (si_enum rfl z_enumerate (sa_cons (se_var (i := 0) rfl rfl) sa_nil))) (sg_tup (sg_cons (sg_name (i := 2) rfl rfl rfl) (sg_cons (sg_name (i := 3) rfl rfl rfl) sg_nil)) (hl := (hlen_cons (hlen_cons hlen_nil)))) (sts_one (st_cmp os_gt (se_var (i := 3) rfl rfl) se_int)) (se_var (i := 2) rfl rfl) rfl rfl rfl rfl)
  (ss_one (ss_ret (se_ife (st_tru (se_var (i := 1) rfl rfl)) (se_ix (se_var (i := 1) rfl rfl) se_int) se_non))))
theorem ok_first_full {P : Program} {w : World} {K : PySem.W.Frag} {mg : Str → Option Value} {base : Heap} {f : Addr} {fd : FuncData} (F : Fun K "first_full" "first_full" s_first_full f fd) (z_enumerate : mg "enumerate" = none) : FnOk P w K mg base CX0 1 f fd ["chips"] (spP 1 m_first_full) :=
  ok_pure F sc_first_full rfl fun n => ss_first_full n z_enumerate

abbrev s_ring_end : Stmt := topS 5
abbrev n_ring_end : List Str := ["size", "chips", "here", "moved", "place"]
theorem sc_ring_end : FnScope n_ring_end ["size", "chips"] (defScope s_ring_end) := ⟨rfl, rfl, rfl, by decide +kernel, rfl, by decide +kernel, by decide +kernel⟩
noncomputable def d_ring_end_1 (n : Nat) : Sx :=
  (dSeq (dSetN 2 (dVar 4) (dBw (dOp mSub (dOp mIx (dVar 2) (dVar 4)) (dC (.int 2)))))
  (dSeq (dSetN 2 (dOp mMod (dOp mAdd (dVar 4) (dC (.int 1))) (dVar 0)) (dBw (dOp mAdd (dOp mIx (dVar 2) (dOp mMod (dOp mAdd (dVar 4) (dC (.int 1))) (dVar 0))) (dC (.int 1)))))
  (dSeq (dSetN 2 (dOp mMod (dOp mSub (dVar 4) (dC (.int 1))) (dVar 0)) (dBw (dOp mAdd (dOp mIx (dVar 2) (dOp mMod (dOp mSub (dVar 4) (dC (.int 1))) (dVar 0))) (dC (.int 1)))))
  (dSeq (dSetN 3 (dVar 4) (dBw (dOp mAdd (dOp mIx (dVar 3) (dVar 4)) (dC (.int 1)))))
  (dAsg 4 (xE (dBw (dCall m_first_full (dCons (dVar 2) dNil)))))))))
theorem mono_d_ring_end_1 : Mono d_ring_end_1 := (mono_seq (mono_c _) (mono_seq (mono_c _) (mono_seq (mono_c _) (mono_seq (mono_c _) (mono_c _)))))
noncomputable def d_ring_end (n : Nat) : Sx :=
  (dSeq (dAsg 2 (xF (dCallF mList (dCons (dVar 1) dNil))))
  (dSeq (dAsg 3 (xF (dOpF mRep (dFr (dLst (dCons (dC (.int 0)) dNil))) (dVar 0))))
  (dSeq (dAsg 4 (xE (dBw (dCall m_first_full (dCons (dVar 2) dNil)))))
  (dSeq (dWhile n (dBwT (dAnd (dTest (dOp mIsNot (dVar 4) (dC .none))) (dTest (dOp mEq (dCall mMin (dCons (dVar 3) dNil)) (dC (.int 0)))))) (d_ring_end_1 n))
  (dRet (dIfE (dTest (dOp mIsNot (dVar 4) (dC .none))) (dC .none) (dCall mTuple (dCons (dVar 2) dNil))))))))
theorem mono_d_ring_end : Mono d_ring_end := (mono_seq (mono_c _) (mono_seq (mono_c _) (mono_seq (mono_c _) (mono_seq (mono_while mono_d_ring_end_1) (mono_c _)))))
noncomputable def m_ring_end : List D → Option D := tells n_ring_end.length d_ring_end
theorem ss_ring_end {P : Program} {w : World} {K : PySem.W.Frag} {mg : Str → Option Value} {base : Heap} (n : Nat) (z_list : mg "list" = none) (z_min : mg "min" = none) (z_tuple : mg "tuple" = none) (F_first_full : FnIs (cfgOf P w K mg base n_ring_end (defScope s_ring_end) 1) "first_full" 1 (spP 1 m_first_full)) : SSs (cfgOf P w K mg base n_ring_end (defScope s_ring_end) 1) (defBody s_ring_end) (d_ring_end n) :=
  (ss_cons (ss_asg (i := 2) rfl rfl (sx_F (sf_callT cf_list rfl z_list (by decide +kernel) (sa_cons (se_var (i := 1) rfl rfl) sa_nil))) rfl)
  (ss_cons (ss_asg (i := 3) rfl rfl (sx_F (sf_bin of_rep (se_fr (sf_lst (sa_cons se_int sa_nil))) (se_var (i := 0) rfl rfl))) rfl)
  (ss_cons (ss_asg (i := 4) rfl rfl (sx_E (se_bw (se_call F_first_full (Nat.le_of_ble_eq_true rfl) rfl (sa_cons (se_var (i := 2) rfl rfl) sa_nil) (hlen := (len_cons len_nil))))) rfl)
  (ss_cons (ss_while (st_bw (st_w (sw_and (st_cmp os_isNot (se_var (i := 4) rfl rfl) se_non) (sw_and1 (st_cmp os_eq (se_callB cs_min rfl z_min (by decide +kernel) (sa_cons (se_var (i := 3) rfl rfl) sa_nil)) se_int))))) (ss_cons (ss_setN (i := 2) rfl rfl (se_var (i := 4) rfl rfl) (se_bw (se_bin os_sub (se_ix (se_var (i := 2) rfl rfl) (se_var (i := 4) rfl rfl)) se_int)))
  (ss_cons (ss_setN (i := 2) rfl rfl (se_bin os_mod (se_bin os_add (se_var (i := 4) rfl rfl) se_int) (se_var (i := 0) rfl rfl)) (se_bw (se_bin os_add (se_ix (se_var (i := 2) rfl rfl) (se_bin os_mod (se_bin os_add (se_var (i := 4) rfl rfl) se_int) (se_var (i := 0) rfl rfl))) se_int)))
  (ss_cons (ss_setN (i := 2) rfl rfl (se_bin os_mod (se_bin os_sub (se_var (i := 4) rfl rfl) se_int) (se_var (i := 0) rfl rfl)) (se_bw (se_bin os_add (se_ix (se_var (i := 2) rfl rfl) (se_bin os_mod (se_bin os_sub (se_var (i := 4) rfl rfl) se_int) (se_var (i := 0) rfl rfl))) se_int)))
  (ss_cons (ss_setN (i := 3) rfl rfl (se_var (i := 4) rfl rfl) (se_bw (se_bin os_add (se_ix (se_var (i := 3) rfl rfl) (se_var (i := 4) rfl rfl)) se_int)))
  (ss_one (ss_asg (i := 4) rfl rfl (sx_E (se_bw (se_call F_first_full (Nat.le_of_ble_eq_true rfl) rfl (sa_cons (se_var (i := 2) rfl rfl) sa_nil) (hlen := (len_cons len_nil))))) rfl)))))))
  (ss_one (ss_ret (se_ife (st_cmp os_isNot (se_var (i := 4) rfl rfl) se_non) se_non (se_callT cs_tuple rfl z_tuple (by decide +kernel) (sa_cons (se_var (i := 2) rfl rfl) sa_nil)))))))))
theorem ok_ring_end {P : Program} {w : World} {K : PySem.W.Frag} {mg : Str → Option Value} {base : Heap} {f : Addr} {fd : FuncData} (F : Fun K "ring_end" "ring_end" s_ring_end f fd) (z_list : mg "list" = none) (z_min : mg "min" = none) (z_tuple : mg "tuple" = none) (F_first_full : FnIs (cfgOf P w K mg base n_ring_end (defScope s_ring_end) 1) "first_full" 1 (spP 1 m_first_full)) : FnOk P w K mg base CX0 2 f fd ["size", "chips"] (spP 2 m_ring_end) :=
  ok_pure F sc_ring_end rfl fun n => ss_ring_end n z_list z_min z_tuple F_first_full

abbrev s_pointer_line : Stmt := topS 7
abbrev n_pointer_line : List Str := ["many", "taken", "pointers", "_", "place", "step"]
theorem sc_pointer_line : FnScope n_pointer_line ["many"] (defScope s_pointer_line) := ⟨rfl, rfl, rfl, by decide +kernel, rfl, by decide +kernel, by decide +kernel⟩
noncomputable def d_pointer_line_1 (n : Nat) : Sx :=
  (dSeq (dAsg 5 (xE (dGet2 2 (dVar 4) (dC (.int 1)))))
  (dSeq (dSetN 2 (dVar 4) (dNeg (dVar 5)))
  (dAsg 4 (xE (dOp mAdd (dVar 4) (dVar 5))))))
theorem mono_d_pointer_line_1 : Mono d_pointer_line_1 := (mono_seq (mono_c _) (mono_seq (mono_c _) (mono_c _)))
noncomputable def d_pointer_line_2 (n : Nat) : Sx :=
  (dSeq (dAsg 4 (xE (dC (.int 0))))
  (dSeq (dWhile n (dBwT (dTest (dOp mIn (dVar 4) (dVar 1)))) (d_pointer_line_1 n))
  (dApp 1 (dVar 4))))
theorem mono_d_pointer_line_2 : Mono d_pointer_line_2 := (mono_seq (mono_c _) (mono_seq (mono_while mono_d_pointer_line_1) (mono_c _)))
noncomputable def d_pointer_line (n : Nat) : Sx :=
  (dSeq (dAsg 1 (xF (dLst dNil)))
  (dSeq (dAsg 2 xD0)
  (dSeq (dFor (dRng1 (dCons (dVar 0) dNil)) (hN 3) (d_pointer_line_2 n))
  (dRet (dVar 1)))))
theorem mono_d_pointer_line : Mono d_pointer_line := (mono_seq (mono_c _) (mono_seq (mono_c _) (mono_seq (mono_for mono_d_pointer_line_2) (mono_c _))))
noncomputable def m_pointer_line : List D → Option D := tells n_pointer_line.length d_pointer_line
theorem ss_pointer_line {P : Program} {w : World} {K : PySem.W.Frag} {mg : Str → Option Value} {base : Heap} (n : Nat) (z_range : mg "range" = none) : SSs (cfgOf P w K mg base n_pointer_line (defScope s_pointer_line) 0) (defBody s_pointer_line) (d_pointer_line n) :=
  (ss_cons (ss_asg (i := 1) rfl rfl (sx_F (sf_lst sa_nil)) rfl)
  (ss_cons (ss_asg (i := 2) rfl rfl sx_d0 rfl)
  (ss_cons (ss_for (si_rng1 rfl z_range (sa_cons (se_var (i := 0) rfl rfl) sa_nil)) (sg_name (i := 3) rfl rfl rfl) (ss_cons (ss_asg (i := 4) rfl rfl (sx_E se_int) rfl)
  (ss_cons (ss_while (st_bw (st_cmp os_in (se_var (i := 4) rfl rfl) (se_var (i := 1) rfl rfl))) (ss_cons (ss_asg (i := 5) rfl rfl (sx_E (se_get2 (i := 2) rfl rfl (se_var (i := 4) rfl rfl) se_int)) rfl)
  (ss_cons (ss_setN (i := 2) rfl rfl (se_var (i := 4) rfl rfl) (se_neg (se_var (i := 5) rfl rfl)))
  (ss_one (ss_asg (i := 4) rfl rfl (sx_E (se_bin os_add (se_var (i := 4) rfl rfl) (se_var (i := 5) rfl rfl))) rfl)))))
  (ss_one (ss_app (i := 1) rfl rfl (se_var (i := 4) rfl rfl))))))
  (ss_one (ss_ret (se_var (i := 1) rfl rfl))))))
theorem ok_pointer_line {P : Program} {w : World} {K : PySem.W.Frag} {mg : Str → Option Value} {base : Heap} {f : Addr} {fd : FuncData} (F : Fun K "pointer_line" "pointer_line" s_pointer_line f fd) (z_range : mg "range" = none) : FnOk P w K mg base CX0 1 f fd ["many"] (spP 1 m_pointer_line) :=
  ok_pure F sc_pointer_line rfl fun n => ss_pointer_line n z_range

abbrev s__law_one : Stmt := topS 11
abbrev n__law_one : List Str := ["state", "some"]
theorem sc__law_one : FnScope n__law_one ["state", "some"] (defScope s__law_one) := ⟨rfl, rfl, rfl, by decide +kernel, rfl, by decide +kernel, by decide +kernel⟩
noncomputable def d__law_one (n : Nat) : Sx :=
  (dRet (dOp mIx (dVar 1) (dCallS 0 m_draw (dCons (dCall mLen (dCons (dVar 1) dNil)) dNil))))
theorem mono_d__law_one : Mono d__law_one := (mono_c _)
noncomputable def m_one : List D → DS → Option (D × DS) := tellsS n__law_one.length d__law_one
theorem ss__law_one {P : Program} {w : World} {K : PySem.W.Frag} {mg : Str → Option Value} {base : Heap} (n : Nat) (z_len : mg "len" = none) (F__law_draw : FnIs (cfgOf P w K mg base n__law_one (defScope s__law_one) 1) "_law_draw" 1 (spS 1 m_draw)) : SSs (cfgOf P w K mg base n__law_one (defScope s__law_one) 1) (defBody s__law_one) (d__law_one n) :=
  (ss_one (ss_ret (se_ix (se_var (i := 1) rfl rfl) (se_callS (i := 0) F__law_draw (Nat.le_of_ble_eq_true rfl) rfl rfl rfl (sa_cons (se_callB cs_len rfl z_len (by decide +kernel) (sa_cons (se_var (i := 1) rfl rfl) sa_nil)) sa_nil) (len_cons len_nil)))))
theorem ok__law_one {P : Program} {w : World} {K : PySem.W.Frag} {mg : Str → Option Value} {base : Heap} {f : Addr} {fd : FuncData} (F : Fun K "_law_one" "_law_one" s__law_one f fd) (z_len : mg "len" = none) (F__law_draw : FnIs (cfgOf P w K mg base n__law_one (defScope s__law_one) 1) "_law_draw" 1 (spS 1 m_draw)) : FnOk P w K mg base CX0 2 f fd ["state", "some"] (spS 1 m_one) :=
  ok_state F sc__law_one rfl fun n => ss__law_one n z_len F__law_draw

abbrev s__law_ring : Stmt := topS 12
abbrev n__law_ring : List Str := ["size", "chips", "here", "moved", "place", "k"]
theorem sc__law_ring : FnScope n__law_ring ["size", "chips"] (defScope s__law_ring) := ⟨rfl, rfl, rfl, by decide +kernel, rfl, by decide +kernel, by decide +kernel⟩
noncomputable def d__law_ring_1 (n : Nat) : Sx :=
  (dSeq (dAsg 4 (xE (dBw (dOp mIx (dFr (dLc [5] (dRng1 (dCons (dVar 0) dNil)) (hN 5) (dTest (dOp mGt (dOp mIx (dVar 2) (dVar 5)) (dC (.int 1)))) (dVar 5))) (dNeg (dC (.int 1)))))))
  (dSeq (dAugN (fun i j => i - j) 2 (dVar 4) (dC (.int 2)))
  (dSeq (dAugN (fun i j => i + j) 2 (dOp mSub (dVar 4) (dC (.int 1))) (dC (.int 1)))
  (dSeq (dAugN (fun i j => i + j) 2 (dOp mMod (dOp mAdd (dVar 4) (dC (.int 1))) (dVar 0)) (dC (.int 1)))
  (dAugN (fun i j => i + j) 3 (dVar 4) (dC (.int 1)))))))
theorem mono_d__law_ring_1 : Mono d__law_ring_1 := (mono_seq (mono_c _) (mono_seq (mono_c _) (mono_seq (mono_c _) (mono_seq (mono_c _) (mono_c _)))))
noncomputable def d__law_ring (n : Nat) : Sx :=
  (dSeq (dPar [2, 3] (xCons (xF (dCallF mList (dCons (dVar 1) dNil))) (xCons (xF (dOpF mRep (dFr (dLst (dCons (dC (.int 0)) dNil))) (dVar 0))) xNil)))
  (dSeq (dWhile n (dBwT (dAnd (dTest (dOp mGt (dCall mMax (dCons (dVar 2) dNil)) (dC (.int 1)))) (dTest (dOp mIn (dC (.int 0)) (dVar 3))))) (d__law_ring_1 n))
  (dRet (dIfE (dTest (dOp mLt (dCall mMax (dCons (dVar 2) dNil)) (dC (.int 2)))) (dCall mTuple (dCons (dVar 2) dNil)) (dC .none)))))
theorem mono_d__law_ring : Mono d__law_ring := (mono_seq (mono_c _) (mono_seq (mono_while mono_d__law_ring_1) (mono_c _)))
noncomputable def m_lring : List D → Option D := tells n__law_ring.length d__law_ring
theorem ss__law_ring {P : Program} {w : World} {K : PySem.W.Frag} {mg : Str → Option Value} {base : Heap} (n : Nat) (z_list : mg "list" = none) (z_max : mg "max" = none) (z_range : mg "range" = none) (z_tuple : mg "tuple" = none) : SSs (cfgOf P w K mg base n__law_ring (defScope s__law_ring) 0) (defBody s__law_ring) (d__law_ring n) :=
  (ss_cons (ss_parG (is := [2, 3]) (sn_cons (i := 2) rfl rfl rfl (sn_cons (i := 3) rfl rfl rfl sn_nil)) (sx_cons (sx_F (sf_callT cf_list rfl z_list (by decide +kernel) (sa_cons (se_var (i := 1) rfl rfl) sa_nil))) (sx_cons (sx_F (sf_bin of_rep (se_fr (sf_lst (sa_cons se_int sa_nil))) (se_var (i := 0) rfl rfl))) sx_nil)) (hw := (by intro env h1 h2; cases env; subst h1; rfl)))
  (ss_cons (ss_while (st_bw (st_w (sw_and (st_cmp os_gt (se_callB cs_max rfl z_max (by decide +kernel) (sa_cons (se_var (i := 2) rfl rfl) sa_nil)) se_int) (sw_and1 (st_cmp os_in se_int (se_var (i := 3) rfl rfl)))))) (ss_cons (ss_asg (i := 4) rfl rfl (sx_E (se_bw (se_ix (se_fr (sf_lc (own := [("k", 5)]) (sic_of (si_rng1 rfl z_range (sa_cons (se_var (i := 0) rfl rfl) sa_nil))) (sg_name (i := 5) rfl rfl rfl) (sts_one (st_cmp os_gt (se_ix (se_var (i := 2) rfl rfl) (se_var (i := 5) rfl rfl)) se_int)) (se_var (i := 5) rfl rfl) rfl rfl)) (se_neg se_int)))) rfl)
  (ss_cons (ss_augN (i := 2) aug_sub rfl rfl (se_var (i := 4) rfl rfl) se_int)
  (ss_cons (ss_augN (i := 2) aug_add rfl rfl (se_bin os_sub (se_var (i := 4) rfl rfl) se_int) se_int)
  (ss_cons (ss_augN (i := 2) aug_add rfl rfl (se_bin os_mod (se_bin os_add (se_var (i := 4) rfl rfl) se_int) (se_var (i := 0) rfl rfl)) se_int)
  (ss_one (ss_augN (i := 3) aug_add rfl rfl (se_var (i := 4) rfl rfl) se_int)))))))
  (ss_one (ss_ret (se_ife (st_cmp os_lt (se_callB cs_max rfl z_max (by decide +kernel) (sa_cons (se_var (i := 2) rfl rfl) sa_nil)) se_int) (se_callT cs_tuple rfl z_tuple (by decide +kernel) (sa_cons (se_var (i := 2) rfl rfl) sa_nil)) se_non)))))
theorem ok__law_ring {P : Program} {w : World} {K : PySem.W.Frag} {mg : Str → Option Value} {base : Heap} {f : Addr} {fd : FuncData} (F : Fun K "_law_ring" "_law_ring" s__law_ring f fd) (z_list : mg "list" = none) (z_max : mg "max" = none) (z_range : mg "range" = none) (z_tuple : mg "tuple" = none) : FnOk P w K mg base CX0 1 f fd ["size", "chips"] (spP 2 m_lring) :=
  ok_pure F sc__law_ring rfl fun n => ss__law_ring n z_list z_max z_range z_tuple

abbrev s__law_pointers : Stmt := topS 13
abbrev n__law_pointers : List Str := ["many", "turn", "taken", "ways", "place", "step"]
theorem sc__law_pointers : FnScope n__law_pointers ["many"] (defScope s__law_pointers) := ⟨rfl, rfl, rfl, by decide +kernel, rfl, by decide +kernel, by decide +kernel⟩
noncomputable def d__law_pointers_1 (n : Nat) : Sx :=
  (dSeq (dAsg 5 (xE (dGet2 3 (dVar 4) (dC (.int 1)))))
  (dSeq (dSetN 3 (dVar 4) (dOp mSub (dC (.int 0)) (dVar 5)))
  (dAsg 4 (xE (dOp mAdd (dVar 4) (dVar 5))))))
theorem mono_d__law_pointers_1 : Mono d__law_pointers_1 := (mono_seq (mono_c _) (mono_seq (mono_c _) (mono_c _)))
noncomputable def d__law_pointers_2 (n : Nat) : Sx :=
  (dSeq (dAsg 4 (xE (dC (.int 0))))
  (dSeq (dWhile n (dBwT (dTest (dOp mIn (dVar 4) (dVar 2)))) (d__law_pointers_1 n))
  (dApp 2 (dVar 4))))
theorem mono_d__law_pointers_2 : Mono d__law_pointers_2 := (mono_seq (mono_c _) (mono_seq (mono_while mono_d__law_pointers_1) (mono_c _)))
noncomputable def d__law_pointers (n : Nat) : Sx :=
  (dSeq (dPar [2, 3] (xCons (xF (dLst dNil)) (xCons xD0 xNil)))
  (dSeq (dFor (dRng1 (dCons (dVar 0) dNil)) (hN 1) (d__law_pointers_2 n))
  (dRet (dVar 2))))
theorem mono_d__law_pointers : Mono d__law_pointers := (mono_seq (mono_c _) (mono_seq (mono_for mono_d__law_pointers_2) (mono_c _)))
noncomputable def m_lpointers : List D → Option D := tells n__law_pointers.length d__law_pointers
theorem ss__law_pointers {P : Program} {w : World} {K : PySem.W.Frag} {mg : Str → Option Value} {base : Heap} (n : Nat) (z_range : mg "range" = none) : SSs (cfgOf P w K mg base n__law_pointers (defScope s__law_pointers) 0) (defBody s__law_pointers) (d__law_pointers n) :=
  (ss_cons (ss_par2 (i := 2) (j := 3) rfl rfl (by decide) rfl rfl (sx_cons (sx_F (sf_lst sa_nil)) (sx_cons sx_d0 sx_nil)) (by intro env h1 h2; cases env; subst h1; rfl))
  (ss_cons (ss_for (si_rng1 rfl z_range (sa_cons (se_var (i := 0) rfl rfl) sa_nil)) (sg_name (i := 1) rfl rfl rfl) (ss_cons (ss_asg (i := 4) rfl rfl (sx_E se_int) rfl)
  (ss_cons (ss_while (st_bw (st_cmp os_in (se_var (i := 4) rfl rfl) (se_var (i := 2) rfl rfl))) (ss_cons (ss_asg (i := 5) rfl rfl (sx_E (se_get2 (i := 3) rfl rfl (se_var (i := 4) rfl rfl) se_int)) rfl)
  (ss_cons (ss_setN (i := 3) rfl rfl (se_var (i := 4) rfl rfl) (se_bin os_sub se_int (se_var (i := 5) rfl rfl)))
  (ss_one (ss_asg (i := 4) rfl rfl (sx_E (se_bin os_add (se_var (i := 4) rfl rfl) (se_var (i := 5) rfl rfl))) rfl)))))
  (ss_one (ss_app (i := 2) rfl rfl (se_var (i := 4) rfl rfl))))))
  (ss_one (ss_ret (se_var (i := 2) rfl rfl)))))
theorem ok__law_pointers {P : Program} {w : World} {K : PySem.W.Frag} {mg : Str → Option Value} {base : Heap} {f : Addr} {fd : FuncData} (F : Fun K "_law_pointers" "_law_pointers" s__law_pointers f fd) (z_range : mg "range" = none) : FnOk P w K mg base CX0 1 f fd ["many"] (spP 1 m_lpointers) :=
  ok_pure F sc__law_pointers rfl fun n => ss__law_pointers n z_range

abbrev s__law_line : Stmt := topS 14
abbrev n__law_line : List Str := ["piles", "full", "here", "moved", "place", "many"]
theorem sc__law_line : FnScope n__law_line ["piles"] (defScope s__law_line) := ⟨rfl, rfl, rfl, by decide +kernel, rfl, by decide +kernel, by decide +kernel⟩
noncomputable def d__law_line_1 (n : Nat) : Sx :=
  (dSetN 2 (dVar 4) (dVar 5))
theorem mono_d__law_line_1 : Mono d__law_line_1 := (mono_c _)
noncomputable def d__law_line_2 (n : Nat) : Sx :=
  (dSeq (dAsg 5 (xE (dCall mInt (dCons (dOp mFdiv (dIxN 2 (dVar 4)) (dC (.int 2))) dNil))))
  (dSeq (dAugN (fun i j => i - j) 2 (dVar 4) (dOp mMul (dC (.int 2)) (dVar 5)))
  (dSeq (dAsgX (gxT (gxCons (gSubN 2 (dOp mSub (dVar 4) (dC (.int 1)))) (gxCons (gSubN 2 (dOp mAdd (dVar 4) (dC (.int 1)))) gxNil))) (dTup (dCons (dOp mAdd (dGet2 2 (dOp mSub (dVar 4) (dC (.int 1))) (dC (.int 0))) (dVar 5)) (dCons (dOp mAdd (dGet2 2 (dOp mAdd (dVar 4) (dC (.int 1))) (dC (.int 0))) (dVar 5)) dNil))))
  (dSetN 3 (dVar 4) (dOp mAdd (dGet2 3 (dVar 4) (dC (.int 0))) (dVar 5))))))
theorem mono_d__law_line_2 : Mono d__law_line_2 := (mono_seq (mono_c _) (mono_seq (mono_c _) (mono_seq (mono_c _) (mono_c _))))
noncomputable def d__law_line_3 (n : Nat) : Sx :=
  (dSeq (dFz (fun i => i == 1) (dFor (dItems (dVar 1)) (hN 4) (d__law_line_2 n)))
  (dAsg 1 (xF (dLc [4] (dItems (dFr (dSrtN 2))) (hN 4) (dTest (dOp mGt (dIxN 2 (dVar 4)) (dC (.int 1)))) (dVar 4)))))
theorem mono_d__law_line_3 : Mono d__law_line_3 := (mono_seq (mono_fz (mono_for mono_d__law_line_2)) (mono_c _))
noncomputable def d__law_line (n : Nat) : Sx :=
  (dSeq (dPar [2, 3] (xCons xD0 (xCons xD0 xNil)))
  (dSeq (dFor (dItems (dVar 0)) (hT (hCons (hN 4) (hCons (hN 5) hNil))) (d__law_line_1 n))
  (dSeq (dAsg 1 (xF (dLc [4] (dItems (dFr (dSrtN 2))) (hN 4) (dTest (dOp mGt (dIxN 2 (dVar 4)) (dC (.int 1)))) (dVar 4))))
  (dSeq (dWhile n (dBwT (dTest (dOp mNe (dVar 1) (dFr (dLst dNil))))) (d__law_line_3 n))
  (dRet (dTup (dCons (dFr (dLc [4] (dItems (dFr (dSrtN 2))) (hN 4) (dTest (dOp mEq (dIxN 2 (dVar 4)) (dC (.int 1)))) (dVar 4))) (dCons (dFr (dLc [4] (dItems (dFr (dSrtN 3))) (hN 4) tT (dTup (dCons (dVar 4) (dCons (dIxN 3 (dVar 4)) dNil))))) dNil))))))))
theorem mono_d__law_line : Mono d__law_line := (mono_seq (mono_c _) (mono_seq (mono_for mono_d__law_line_1) (mono_seq (mono_c _) (mono_seq (mono_while mono_d__law_line_3) (mono_c _)))))
noncomputable def m_lline : List D → Option D := tells n__law_line.length d__law_line
theorem ss__law_line {P : Program} {w : World} {K : PySem.W.Frag} {mg : Str → Option Value} {base : Heap} (n : Nat) (z_int : mg "int" = none) (z_sorted : mg "sorted" = none) : SSs (cfgOf P w K mg base n__law_line (defScope s__law_line) 0) (defBody s__law_line) (d__law_line n) :=
  (ss_cons (ss_parG (is := [2, 3]) (sn_cons (i := 2) rfl rfl rfl (sn_cons (i := 3) rfl rfl rfl sn_nil)) (sx_cons sx_d0 (sx_cons sx_d0 sx_nil)) (hw := (by intro env h1 h2; cases env; subst h1; rfl)))
  (ss_cons (ss_for (si_val (se_var (i := 0) rfl rfl)) (sg_tup (sg_cons (sg_name (i := 4) rfl rfl rfl) (sg_cons (sg_name (i := 5) rfl rfl rfl) sg_nil)) (hl := (hlen_cons (hlen_cons hlen_nil)))) (ss_one (ss_setN (i := 2) rfl rfl (se_var (i := 4) rfl rfl) (se_var (i := 5) rfl rfl))))
  (ss_cons (ss_asgLc (j := 1) (own := [("place", 4)]) rfl rfl (sic_of (si_val (se_fr (sf_sortN (i := 2) rfl rfl rfl z_sorted)))) (sg_name (i := 4) rfl rfl rfl) (sts_one (st_cmp os_gt (se_ixN (i := 2) rfl rfl (se_var (i := 4) rfl rfl)) se_int)) (se_var (i := 4) rfl rfl) rfl rfl rfl rfl)
  (ss_cons (ss_while (st_bw (st_cmp os_ne (se_var (i := 1) rfl rfl) (se_fr (sf_lst sa_nil)))) (ss_cons (ss_fz (p := (fun i => i == 1)) (ss_for (si_val (se_var (i := 1) rfl rfl)) (sg_name (i := 4) rfl rfl rfl) (ss_cons (ss_asg (i := 5) rfl rfl (sx_E (se_callT cs_int rfl z_int (by decide +kernel) (sa_cons (se_bin os_fdiv (se_ixN (i := 2) rfl rfl (se_var (i := 4) rfl rfl)) se_int) sa_nil))) rfl)
  (ss_cons (ss_augN (i := 2) aug_sub rfl rfl (se_var (i := 4) rfl rfl) (se_bin os_mul se_int (se_var (i := 5) rfl rfl)))
  (ss_cons (ss_asgX (se_tup (sa_cons (se_bin os_add (se_get2 (i := 2) rfl rfl (se_bin os_sub (se_var (i := 4) rfl rfl) se_int) se_int) (se_var (i := 5) rfl rfl)) (sa_cons (se_bin os_add (se_get2 (i := 2) rfl rfl (se_bin os_add (se_var (i := 4) rfl rfl) se_int) se_int) (se_var (i := 5) rfl rfl)) sa_nil))) (sgx_tup (sgx_cons (sgx_sub (i := 2) rfl rfl (se_bin os_sub (se_var (i := 4) rfl rfl) se_int)) (sgx_cons (sgx_sub (i := 2) rfl rfl (se_bin os_add (se_var (i := 4) rfl rfl) se_int)) sgx_nil)) (hl := (gxlen_cons (gxlen_cons gxlen_nil)))) (hw := (by intro env h1 h2; cases env; subst h1; rfl)))
  (ss_one (ss_setN (i := 3) rfl rfl (se_var (i := 4) rfl rfl) (se_bin os_add (se_get2 (i := 3) rfl rfl (se_var (i := 4) rfl rfl) se_int) (se_var (i := 5) rfl rfl)))))))))
  (ss_one (ss_asgLc (j := 1) (own := [("place", 4)]) rfl rfl (sic_of (si_val (se_fr (sf_sortN (i := 2) rfl rfl rfl z_sorted)))) (sg_name (i := 4) rfl rfl rfl) (sts_one (st_cmp os_gt (se_ixN (i := 2) rfl rfl (se_var (i := 4) rfl rfl)) se_int)) (se_var (i := 4) rfl rfl) rfl rfl rfl rfl))))
  (ss_one (ss_ret (se_tup (sa_cons (se_fr (sf_lc (own := [("place", 4)]) (sic_of (si_val (se_fr (sf_sortN (i := 2) rfl rfl rfl z_sorted)))) (sg_name (i := 4) rfl rfl rfl) (sts_one (st_cmp os_eq (se_ixN (i := 2) rfl rfl (se_var (i := 4) rfl rfl)) se_int)) (se_var (i := 4) rfl rfl) rfl rfl)) (sa_cons (se_fr (sf_lc (own := [("place", 4)]) (sic_of (si_val (se_fr (sf_sortN (i := 3) rfl rfl rfl z_sorted)))) (sg_name (i := 4) rfl rfl rfl) sts_nil (se_tup (sa_cons (se_var (i := 4) rfl rfl) (sa_cons (se_ixN (i := 3) rfl rfl (se_var (i := 4) rfl rfl)) sa_nil))) rfl rfl)) sa_nil)))))))))
theorem ok__law_line {P : Program} {w : World} {K : PySem.W.Frag} {mg : Str → Option Value} {base : Heap} {f : Addr} {fd : FuncData} (F : Fun K "_law_line" "_law_line" s__law_line f fd) (z_int : mg "int" = none) (z_sorted : mg "sorted" = none) : FnOk P w K mg base CX0 1 f fd ["piles"] (spP 1 m_lline) :=
  ok_pure F sc__law_line rfl fun n => ss__law_line n z_int z_sorted

abbrev s_law : Stmt := topS 15
abbrev n_law : List Str := ["script", "state", "turn", "size", "spots", "k", "due", "some", "row", "places", "piles", "told", "grains", "ends", "chips", "many", "place"]
theorem sc_law : FnScope n_law ["script"] (defScope s_law) := ⟨rfl, rfl, rfl, by decide +kernel, rfl, by decide +kernel, by decide +kernel⟩
noncomputable def d_law_1 (n : Nat) : Sx :=
  (dAugN (fun i j => i + j) 14 (dBw (dCallS 1 m_one (dCons (dFr (dOpF mCat (dVar 4) (dFr (dLst (dCons (dCallS 1 m_draw (dCons (dVar 3) dNil)) dNil))))) dNil))) (dC (.int 1)))
theorem mono_d_law_1 : Mono d_law_1 := (mono_c _)
noncomputable def d_law_2 (n : Nat) : Sx :=
  (dSeq (dAsg 3 (xE (dOp mAdd (dC (.int 3)) (dCallS 1 m_draw (dCons (dC (.int 10)) dNil)))))
  (dSeq (dPar [14, 15] (xCons (xF (dOpF mRep (dFr (dLst (dCons (dC (.int 0)) dNil))) (dVar 3))) (xCons (xE (dCallS 1 m_one (dCons (dFr (dLst (dCons (dOp mSub (dVar 3) (dC (.int 1))) (dCons (dVar 3) (dCons (dOp mAdd (dVar 3) (dC (.int 1))) (dCons (dCallS 1 m_draw (dCons (dOp mAdd (dVar 3) (dC (.int 1))) dNil)) dNil)))))) dNil))) xNil)))
  (dSeq (dAsg 4 (xF (dLc [5] (dRng1 (dCons (dOp mAdd (dC (.int 1)) (dCallS 1 m_draw (dCons (dC (.int 4)) dNil))) dNil)) (hN 5) tT (dCallS 1 m_draw (dCons (dVar 3) dNil)))))
  (dSeq (dFor (dRng1 (dCons (dVar 15) dNil)) (hN 5) (d_law_1 n))
  (dSeq (dAsg 6 (xE (dBw (dCall m_lring (dCons (dVar 3) (dCons (dVar 14) dNil))))))
  (dSeq (dIf (dBwT (dOr (dTest (dOp mNe (dCall m_ring_end (dCons (dVar 3) (dCons (dCall mTuple (dCons (dVar 14) dNil)) dNil))) (dVar 6))) (dOr (dAnd (dTest (dOp mIs (dVar 6) (dC .none))) (dTest (dOp mLt (dVar 15) (dVar 3)))) (dAnd (dTest (dOp mIsNot (dVar 6) (dC .none))) (dTest (dOp mGt (dVar 15) (dVar 3))))))) (dRet (dC (.bool false))) dSkip)
  (dSeq (dAsg 7 (xE (dCallS 1 m_draw (dCons (dC (.int 61)) dNil))))
  (dSeq (dAsg 8 (xE (dCall m_pointer_line (dCons (dVar 7) dNil))))
  (dSeq (dIf (dTest (dOp mNe (dVar 8) (dCall m_lpointers (dCons (dVar 7) dNil)))) (dRet (dC (.bool false))) dSkip)
  (dSeq (dAsg 9 (xF (dSrtSet (dLc [5] (dRng1 (dCons (dOp mAdd (dC (.int 1)) (dCallS 1 m_draw (dCons (dC (.int 5)) dNil))) dNil)) (hN 5) tT (dOp mSub (dCallS 1 m_draw (dCons (dC (.int 21)) dNil)) (dC (.int 10)))))))
  (dSeq (dAsg 10 (xF (dLc [16] (dBwF (dItems (dVar 9))) (hN 16) tT (dBw (dTup (dCons (dVar 16) (dCons (dCallS 1 m_draw (dCons (dOp mAdd (dCall mInt (dCons (dOp mFdiv (dC (.int 60)) (dCall mLen (dCons (dVar 9) dNil))) dNil)) (dC (.int 1))) dNil)) dNil)))))))
  (dSeq (dAsg 11 (xE (dCall m_line_end (dCons (dFr (dBwF (dCallF mList (dCons (dVar 10) dNil)))) dNil))))
  (dSeq (dIf (dBwT (dOr (dTest (dOp mNe (dVar 11) (dCall m_lline (dCons (dVar 10) dNil)))) (dTest (dOp mNe (dCall m_moment (dCons (dFr (dCallF mList (dCons (dOp mIx (dVar 11) (dC (.int 0))) dNil))) dNil)) (dCall mSum (dCons (dFr (dLc [16] (dItems (dOp mIx (dVar 11) (dC (.int 0)))) (hN 16) tT (dOp mMul (dVar 16) (dVar 16)))) dNil)))))) (dRet (dC (.bool false))) dSkip)
  (dSeq (dAsg 12 (xE (dCallS 1 m_draw (dCons (dC (.int 80)) dNil))))
  (dSeq (dAsg 13 (xE (dCall m_lline (dCons (dFr (dLst (dCons (dTup (dCons (dC (.int 0)) (dCons (dVar 12) dNil))) dNil))) dNil))))
  (dIf (dOr (dTest (dOp mNe (dFr (dCallF mList (dCons (dCall m_pile_end (dCons (dVar 12) dNil)) dNil))) (dOp mIx (dVar 13) (dC (.int 0))))) (dTest (dOp mNe (dFr (dCallF mList (dCons (dCall m_pile_book (dCons (dVar 12) dNil)) dNil))) (dOp mIx (dVar 13) (dC (.int 1)))))) (dRet (dC (.bool false))) dSkip))))))))))))))))
theorem mono_d_law_2 : Mono d_law_2 := (mono_seq (mono_c _) (mono_seq (mono_c _) (mono_seq (mono_c _) (mono_seq (mono_for mono_d_law_1) (mono_seq (mono_c _) (mono_seq (mono_if (mono_c _) (mono_c _)) (mono_seq (mono_c _) (mono_seq (mono_c _) (mono_seq (mono_if (mono_c _) (mono_c _)) (mono_seq (mono_c _) (mono_seq (mono_c _) (mono_seq (mono_c _) (mono_seq (mono_if (mono_c _) (mono_c _)) (mono_seq (mono_c _) (mono_seq (mono_c _) (mono_if (mono_c _) (mono_c _)))))))))))))))))
noncomputable def d_law (n : Nat) : Sx :=
  (dSeq (dFor (dRng1 (dCons (dC (.int 6)) dNil)) (hN 2) (d_law_2 n))
  (dRet (dAndV (dOp mEq (dCall m_ring_end (dCons (dC (.int 3)) (dCons (dTup (dCons (dC (.int 2)) (dCons (dC (.int 0)) (dCons (dC (.int 0)) dNil)))) dNil))) (dTup (dCons (dC (.int 0)) (dCons (dC (.int 1)) (dCons (dC (.int 1)) dNil))))) (dAndV (dOp mEq (dCall m_ring_end (dCons (dC (.int 3)) (dCons (dTup (dCons (dC (.int 1)) (dCons (dC (.int 1)) (dCons (dC (.int 1)) dNil)))) dNil))) (dTup (dCons (dC (.int 1)) (dCons (dC (.int 1)) (dCons (dC (.int 1)) dNil))))) (dOp mEq (dCall m_pointer_line (dCons (dC (.int 5)) dNil)) (dFr (dLst (dCons (dC (.int 0)) (dCons (dC (.int 1)) (dCons (dNeg (dC (.int 1))) (dCons (dC (.int 2)) (dCons (dNeg (dC (.int 2))) dNil))))))))))))
theorem mono_d_law : Mono d_law := (mono_seq (mono_for mono_d_law_2) (mono_c _))
theorem ss_law {P : Program} {w : World} {K : PySem.W.Frag} {mg : Str → Option Value} {base : Heap} (n : Nat) (z_int : mg "int" = none) (z_len : mg "len" = none) (z_list : mg "list" = none) (z_range : mg "range" = none) (z_set : mg "set" = none) (z_sorted : mg "sorted" = none) (z_sum : mg "sum" = none) (z_tuple : mg "tuple" = none) (F__law_draw : FnIs (cfgOf P w K mg base n_law (defScope s_law) 2) "_law_draw" 1 (spS 1 m_draw)) (F__law_line : FnIs (cfgOf P w K mg base n_law (defScope s_law) 2) "_law_line" 1 (spP 1 m_lline)) (F__law_one : FnIs (cfgOf P w K mg base n_law (defScope s_law) 2) "_law_one" 2 (spS 1 m_one)) (F__law_pointers : FnIs (cfgOf P w K mg base n_law (defScope s_law) 2) "_law_pointers" 1 (spP 1 m_lpointers)) (F__law_ring : FnIs (cfgOf P w K mg base n_law (defScope s_law) 2) "_law_ring" 1 (spP 2 m_lring)) (F_line_end : FnIs (cfgOf P w K mg base n_law (defScope s_law) 2) "line_end" 1 (spP 1 m_line_end)) (F_moment : FnIs (cfgOf P w K mg base n_law (defScope s_law) 2) "moment" 1 (spP 1 m_moment)) (F_pile_book : FnIs (cfgOf P w K mg base n_law (defScope s_law) 2) "pile_book" 1 (spP 1 m_pile_book)) (F_pile_end : FnIs (cfgOf P w K mg base n_law (defScope s_law) 2) "pile_end" 1 (spP 1 m_pile_end)) (F_pointer_line : FnIs (cfgOf P w K mg base n_law (defScope s_law) 2) "pointer_line" 1 (spP 1 m_pointer_line)) (F_ring_end : FnIs (cfgOf P w K mg base n_law (defScope s_law) 2) "ring_end" 2 (spP 2 m_ring_end)) : SSs (cfgOf P w K mg base n_law (defScope s_law) 2) ((defBody s_law).drop 1) (d_law n) :=
  (ss_cons (ss_for (si_rng1 rfl z_range (sa_cons se_int sa_nil)) (sg_name (i := 2) rfl rfl rfl) (ss_cons (ss_asg (i := 3) rfl rfl (sx_E (se_bin os_add se_int (se_callS (i := 1) F__law_draw (Nat.le_of_ble_eq_true rfl) rfl rfl rfl (sa_cons se_int sa_nil) (len_cons len_nil)))) rfl)
  (ss_cons (ss_par2 (i := 14) (j := 15) rfl rfl (by decide) rfl rfl (sx_cons (sx_F (sf_bin of_rep (se_fr (sf_lst (sa_cons se_int sa_nil))) (se_var (i := 3) rfl rfl))) (sx_cons (sx_E (se_callS (i := 1) F__law_one (Nat.le_of_ble_eq_true rfl) rfl rfl rfl (sa_cons (se_fr (sf_lst (sa_cons (se_bin os_sub (se_var (i := 3) rfl rfl) se_int) (sa_cons (se_var (i := 3) rfl rfl) (sa_cons (se_bin os_add (se_var (i := 3) rfl rfl) se_int) (sa_cons (se_callS (i := 1) F__law_draw (Nat.le_of_ble_eq_true rfl) rfl rfl rfl (sa_cons (se_bin os_add (se_var (i := 3) rfl rfl) se_int) sa_nil) (len_cons len_nil)) sa_nil)))))) sa_nil) (len_cons len_nil))) sx_nil)) (by intro env h1 h2; cases env; subst h1; rfl))
  (ss_cons (ss_asgLc (j := 4) (own := [("k", 5)]) rfl rfl (sic_of (si_rng1 rfl z_range (sa_cons (se_bin os_add se_int (se_callS (i := 1) F__law_draw (Nat.le_of_ble_eq_true rfl) rfl rfl rfl (sa_cons se_int sa_nil) (len_cons len_nil))) sa_nil))) (sg_name (i := 5) rfl rfl rfl) sts_nil (se_callS (i := 1) F__law_draw (Nat.le_of_ble_eq_true rfl) rfl rfl rfl (sa_cons (se_var (i := 3) rfl rfl) sa_nil) (len_cons len_nil)) rfl rfl rfl rfl)
  (ss_cons (ss_for (si_rng1 rfl z_range (sa_cons (se_var (i := 15) rfl rfl) sa_nil)) (sg_name (i := 5) rfl rfl rfl) (ss_one (ss_augN (i := 14) aug_add rfl rfl (se_bw (se_callS (i := 1) F__law_one (Nat.le_of_ble_eq_true rfl) rfl rfl rfl (sa_cons (se_fr (sf_bin of_cat (se_var (i := 4) rfl rfl) (se_fr (sf_lst (sa_cons (se_callS (i := 1) F__law_draw (Nat.le_of_ble_eq_true rfl) rfl rfl rfl (sa_cons (se_var (i := 3) rfl rfl) sa_nil) (len_cons len_nil)) sa_nil))))) sa_nil) (len_cons len_nil))) se_int)))
  (ss_cons (ss_asg (i := 6) rfl rfl (sx_E (se_bw (se_call F__law_ring (Nat.le_of_ble_eq_true rfl) rfl (sa_cons (se_var (i := 3) rfl rfl) (sa_cons (se_var (i := 14) rfl rfl) sa_nil)) (hlen := (len_cons (len_cons len_nil)))))) rfl)
  (ss_cons (ss_if (st_bw (st_w (sw_or (st_cmp os_ne (se_call F_ring_end (Nat.le_of_ble_eq_true rfl) rfl (sa_cons (se_var (i := 3) rfl rfl) (sa_cons (se_callT cs_tuple rfl z_tuple (by decide +kernel) (sa_cons (se_var (i := 14) rfl rfl) sa_nil)) sa_nil)) (hlen := (len_cons (len_cons len_nil)))) (se_var (i := 6) rfl rfl)) (sw_or (st_w (sw_and (st_cmp os_is (se_var (i := 6) rfl rfl) se_non) (sw_and1 (st_cmp os_lt (se_var (i := 15) rfl rfl) (se_var (i := 3) rfl rfl))))) (sw_or1 (st_w (sw_and (st_cmp os_isNot (se_var (i := 6) rfl rfl) se_non) (sw_and1 (st_cmp os_gt (se_var (i := 15) rfl rfl) (se_var (i := 3) rfl rfl)))))))))) (ss_one (ss_ret se_bl)) ss_nil)
  (ss_cons (ss_asg (i := 7) rfl rfl (sx_E (se_callS (i := 1) F__law_draw (Nat.le_of_ble_eq_true rfl) rfl rfl rfl (sa_cons se_int sa_nil) (len_cons len_nil))) rfl)
  (ss_cons (ss_asg (i := 8) rfl rfl (sx_E (se_call F_pointer_line (Nat.le_of_ble_eq_true rfl) rfl (sa_cons (se_var (i := 7) rfl rfl) sa_nil) (hlen := (len_cons len_nil)))) rfl)
  (ss_cons (ss_if (st_cmp os_ne (se_var (i := 8) rfl rfl) (se_call F__law_pointers (Nat.le_of_ble_eq_true rfl) rfl (sa_cons (se_var (i := 7) rfl rfl) sa_nil) (hlen := (len_cons len_nil)))) (ss_one (ss_ret se_bl)) ss_nil)
  (ss_cons (ss_asg (i := 9) rfl rfl (sx_F (sf_sortSet (sf_lc (own := [("k", 5)]) (sic_of (si_rng1 rfl z_range (sa_cons (se_bin os_add se_int (se_callS (i := 1) F__law_draw (Nat.le_of_ble_eq_true rfl) rfl rfl rfl (sa_cons se_int sa_nil) (len_cons len_nil))) sa_nil))) (sg_name (i := 5) rfl rfl rfl) sts_nil (se_bin os_sub (se_callS (i := 1) F__law_draw (Nat.le_of_ble_eq_true rfl) rfl rfl rfl (sa_cons se_int sa_nil) (len_cons len_nil)) se_int) rfl rfl) rfl z_sorted rfl z_set)) rfl)
  (ss_cons (ss_asgLc (j := 10) (own := [("place", 16)]) rfl rfl (sic_bw (si_val (se_var (i := 9) rfl rfl))) (sg_name (i := 16) rfl rfl rfl) sts_nil (se_bw (se_tup (sa_cons (se_var (i := 16) rfl rfl) (sa_cons (se_callS (i := 1) F__law_draw (Nat.le_of_ble_eq_true rfl) rfl rfl rfl (sa_cons (se_bin os_add (se_callT cs_int rfl z_int (by decide +kernel) (sa_cons (se_bin os_fdiv se_int (se_callB cs_len rfl z_len (by decide +kernel) (sa_cons (se_var (i := 9) rfl rfl) sa_nil))) sa_nil)) se_int) sa_nil) (len_cons len_nil)) sa_nil)))) rfl rfl rfl rfl)
  (ss_cons (ss_asg (i := 11) rfl rfl (sx_E (se_call F_line_end (Nat.le_of_ble_eq_true rfl) rfl (sa_cons (se_fr (sf_bw (sf_callT cf_list rfl z_list (by decide +kernel) (sa_cons (se_var (i := 10) rfl rfl) sa_nil)))) sa_nil) (hlen := (len_cons len_nil)))) rfl)
  (ss_cons (ss_if (st_bw (st_w (sw_or (st_cmp os_ne (se_var (i := 11) rfl rfl) (se_call F__law_line (Nat.le_of_ble_eq_true rfl) rfl (sa_cons (se_var (i := 10) rfl rfl) sa_nil) (hlen := (len_cons len_nil)))) (sw_or1 (st_cmp os_ne (se_call F_moment (Nat.le_of_ble_eq_true rfl) rfl (sa_cons (se_fr (sf_callT cf_list rfl z_list (by decide +kernel) (sa_cons (se_ix (se_var (i := 11) rfl rfl) se_int) sa_nil))) sa_nil) (hlen := (len_cons len_nil))) (se_callB cs_sum rfl z_sum (by decide +kernel) (sa_cons (se_fr (sf_lc (own := [("place", 16)]) (sic_of (si_val (se_ix (se_var (i := 11) rfl rfl) se_int))) (sg_name (i := 16) rfl rfl rfl) sts_nil (se_bin os_mul (se_var (i := 16) rfl rfl) (se_var (i := 16) rfl rfl)) rfl rfl)) sa_nil))))))) (ss_one (ss_ret se_bl)) ss_nil)
  (ss_cons (ss_asg (i := 12) rfl rfl (sx_E (se_callS (i := 1) F__law_draw (Nat.le_of_ble_eq_true rfl) rfl rfl rfl (sa_cons se_int sa_nil) (len_cons len_nil))) rfl)
  (ss_cons (ss_asg (i := 13) rfl rfl (sx_E (se_call F__law_line (Nat.le_of_ble_eq_true rfl) rfl (sa_cons (se_fr (sf_lst (sa_cons (se_tup (sa_cons se_int (sa_cons (se_var (i := 12) rfl rfl) sa_nil))) sa_nil))) sa_nil) (hlen := (len_cons len_nil)))) rfl)
  (ss_one (ss_if (st_w (sw_or (st_cmp os_ne (se_fr (sf_callT cf_list rfl z_list (by decide +kernel) (sa_cons (se_call F_pile_end (Nat.le_of_ble_eq_true rfl) rfl (sa_cons (se_var (i := 12) rfl rfl) sa_nil) (hlen := (len_cons len_nil))) sa_nil))) (se_ix (se_var (i := 13) rfl rfl) se_int)) (sw_or1 (st_cmp os_ne (se_fr (sf_callT cf_list rfl z_list (by decide +kernel) (sa_cons (se_call F_pile_book (Nat.le_of_ble_eq_true rfl) rfl (sa_cons (se_var (i := 12) rfl rfl) sa_nil) (hlen := (len_cons len_nil))) sa_nil))) (se_ix (se_var (i := 13) rfl rfl) se_int))))) (ss_one (ss_ret se_bl)) ss_nil))))))))))))))))))
  (ss_one (ss_ret (se_and (se_cmp os_eq (se_call F_ring_end (Nat.le_of_ble_eq_true rfl) rfl (sa_cons se_int (sa_cons (se_tup (sa_cons se_int (sa_cons se_int (sa_cons se_int sa_nil)))) sa_nil)) (hlen := (len_cons (len_cons len_nil)))) (se_tup (sa_cons se_int (sa_cons se_int (sa_cons se_int sa_nil))))) (se_and (se_cmp os_eq (se_call F_ring_end (Nat.le_of_ble_eq_true rfl) rfl (sa_cons se_int (sa_cons (se_tup (sa_cons se_int (sa_cons se_int (sa_cons se_int sa_nil)))) sa_nil)) (hlen := (len_cons (len_cons len_nil)))) (se_tup (sa_cons se_int (sa_cons se_int (sa_cons se_int sa_nil))))) (se_one (se_cmp os_eq (se_call F_pointer_line (Nat.le_of_ble_eq_true rfl) rfl (sa_cons se_int sa_nil) (hlen := (len_cons len_nil))) (se_fr (sf_lst (sa_cons se_int (sa_cons se_int (sa_cons (se_neg se_int) (sa_cons se_int (sa_cons (se_neg se_int) sa_nil))))))))))))))

abbrev s__law_draw : Stmt := topS 10
theorem sc__law_draw : FnScope ["state", "many", "cells", "value", "mixed"] ["state", "many"] (defScope s__law_draw) := ⟨rfl, rfl, rfl, by decide +kernel, rfl, by decide +kernel, by decide +kernel⟩
theorem ok__law_draw {P : Program} {w : World} {K : PySem.W.Frag} {mg : Str → Option Value} {base : Heap} {f : Addr} {fd : FuncData} (F : Fun K "_law_draw" "_law_draw" s__law_draw f fd) (z_len : mg "len" = none) (z_int : mg "int" = none) : FnOk P w K mg base CX0 1 f fd ["state", "many"] (spS 1 m_draw) := by
  refine F.ok sc__law_draw (fun vs H Q E h => h.1) fun cdv A outer s0 H vs Q E hr h => ⟨_, pss_cons (ps_set (i := 2) sc__law_draw.nd rfl (.inl rfl) (pe_ix ix_list (pv 0) pe_int (fun _ _ => rfl)))
    (pss_cons (ps_while PassesOwn.never (pw_and (pt_cmpR op_gt (pe_callB call_len_seq (by rfl) z_len PySem.boot_len (pa_cons (pv 2) pa_nil)) pe_int (nomark _)) (pw_and1 (pt_cmpR op_eq (pe_ix ix_list (pv 2) pe_int (fun _ _ => rfl)) pe_int (nomark _)))).pt
      (pss_one (ps_expr (pe_bm PySem.F.plainAttrs_list PySem.F.slot_list_pop PySem.F.type_list_pop mt_popAt (pv 2) (pa_cons pe_int pa_nil)))))
    (pss_cons (ps_if (pt_cmpR op_gt (pe_callB call_len_seq (by rfl) z_len PySem.boot_len (pa_cons (pv 2) pa_nil)) pe_int (nomark _))
      (pss_cons (ps_set (i := 3) sc__law_draw.nd rfl (.inl rfl) (pe_ix ix_list (pv 2) pe_int (fun _ _ => rfl)))
      (pss_cons (ps_asg (pe_op op_fdivN (pv 3) (pv 1)) (pg_sub (pv 2) pe_int set_list (fun _ => rfl)))
      (pss_one (ps_ret (pe_op op_modN (pe_callTy call_int1 (by rfl) z_int (by decide +kernel) (pa_cons (pv 3) pa_nil) (by decide) (by decide)) (pv 1)))))) pss_nil)
    (pss_cons (ps_set (i := 4) sc__law_draw.nd rfl (.inl rfl) (pe_op op_modN (pe_callTy call_int1 (by rfl) z_int (by decide +kernel) (pa_cons (pe_op op_add (pe_op op_mul (pe_ix ix_list (pv 0) pe_int (fun _ _ => rfl)) pe_int) pe_int) pa_nil) (by decide) (by decide)) pe_int))
    (pss_cons (ps_asg (pv 4) (pg_sub (pv 0) pe_int set_list (fun _ => rfl)))
    (pss_one (ps_ret (pe_op op_modN (pe_callTy call_int1 (by rfl) z_int (by decide +kernel) (pa_cons (pe_op op_fdivN (pv 4) pe_int) pa_nil) (by decide) (by decide)) (pv 1)))))))), draw_run (K := K) h⟩
abbrev s__law_state : Stmt := topS 9
abbrev n__law_state : List Str := ["script", "seed", "cell"]
theorem sc__law_state : FnScope n__law_state ["script"] (defScope s__law_state) := ⟨rfl, rfl, rfl, by decide +kernel, rfl, by decide +kernel, by decide +kernel⟩
theorem ok__law_state {P : Program} {w : World} {K : PySem.W.Frag} {mg : Str → Option Value} {base : Heap} {f : Addr} {fd : FuncData} (F : Fun K "_law_state" "_law_state" s__law_state f fd) (z_int : mg "int" = none) (z_abs : mg "abs" = none) : FnOk P w K mg base CX0 1 f fd ["script"] (spState K) := by
  refine F.ok sc__law_state (fun vs H Q E h => by obtain ⟨a, ns, rfl, _⟩ := h; rfl) fun cdv A outer s0 H vs Q E hr h => ?_
  have hX : ∀ X, In (cfgOf P w K mg base n__law_state (defScope s__law_state) 0) X → PSs X (defBody s__law_state) (tState (cfgOf P w K mg base n__law_state (defScope s__law_state) 0) _ _ _) := fun X hX => by
    have nm : ∀ {i : Nat} {x : Str} {pos : Pos}, n__law_state[i]? = some x → visB (defScope s__law_state) x = true → (x == ("__debug__" : Str)) = false → (x == ("__classdict__" : Str)) = false → PE X (.Name x pos) (tVar i) := fun h1 h2 h3 h4 => pe_name hX h1 h2 h3 h4
    have nd : X.N.Nodup := by rw [hX.N]; exact hX.nd
    have gl : ∀ {x : Str}, glB (defScope s__law_state) x = true → X.env.scope.names.lookup x = some .globalImplicit := fun {x} h => by rw [hX.sc]; exact gl_of h
    have il : ∀ {tg e : Expr} {te : TE}, PE X e te → PI X tg e (iList K te) := fun {tg e te} h => by
      have := pi_list (tg := tg) h
      rw [hX.K] at this
      exact this
    exact pss_cons (ps_set (i := 1) nd (by rw [hX.N]; rfl) (by rw [hX.sc]; exact .inl rfl) pe_int (by rfl) (.inl (hX.fn _ rfl)))
      (pss_cons (ps_for (by rw [hX.xe]; exact PassesOwn.never) hX.calm (il (nm (i := 0) rfl rfl (by decide) (by decide))) (pg_name (i := 2) nd (by rw [hX.N]; rfl) (by rw [hX.sc]; exact .inl rfl) (.inl (hX.fn _ rfl)))
        (pss_one (ps_set (i := 1) nd (by rw [hX.N]; rfl) (by rw [hX.sc]; exact .inl rfl) (pe_op op_modN (pe_callTy call_int1 (gl rfl) (by rw [hX.mg]; exact z_int) (by decide +kernel) (pa_cons (pe_op op_add (pe_op op_mul (nm (i := 1) rfl rfl (by decide) (by decide)) pe_int) (nm (i := 2) rfl rfl (by decide) (by decide))) pa_nil) (by decide) (by decide)) pe_int) (by rfl) (.inl (hX.fn _ rfl)))))
      (pss_one (ps_ret (pe_lst (pa_cons (pe_lc (own := [("cell", 2)]) hX.calm nd (il (nm (i := 0) rfl rfl (by decide) (by decide))) (blkOk_by (by rw [hX.N, hX.sc]; rfl)) (fun _ _ _ _ _ => pg_w (hX.blk ..)) (fun _ _ _ _ _ => pts_w (hX.blk ..)) (fun _ _ _ _ _ => pe_w (hX.blk ..))) (pa_cons (pe_op op_add (nm (i := 1) rfl rfl (by decide) (by decide)) pe_int) pa_nil))))))
  exact ⟨_, hX _ ⟨rfl, rfl, rfl, rfl, rfl, rfl, sc__law_state.nd, rfl, fun _ _ => rfl, rfl, hr, rfl⟩, state_run rfl (sg_name (i := 2) rfl rfl rfl) (se_callB cs_abs rfl z_abs (by decide +kernel) (sa_cons (se_var (i := 2) rfl rfl) sa_nil)) h⟩

def Plain : Prop := ∀ s : DS, ∃ n s', d_law n (none :: some .st :: List.replicate 15 none) s = some (.rt (.bool true) s')
theorem all_mk (plain : Plain) {l : PySem.W.OpenLaw} {w : World} {K : PySem.W.Frag} {h : Heap} {mg : Str → Option Value} {fa : Addr} (X : K.In h) (G : h.Ns mainGlobals mg) (hfa : mg "law" = some (.ref fa))
    {f0 f1 f2 f3 f4 f5 f6 f7 f8 f9 f10 f11 f12 f13 : Addr} {od0 an0 od1 an1 od2 an2 od3 an3 od4 an4 od5 an5 od6 an6 od7 an7 od8 an8 od9 an9 od10 an10 od11 an11 od12 an12 od13 an13 : Option Addr} {sl0 sl1 sl2 sl3 sl4 sl5 sl6 sl7 sl8 sl9 sl10 sl11 sl12 sl13 : Array (Option Value)} {oc0 kV0 dc0 pm0 cd0 ct0 oc1 kV1 dc1 pm1 cd1 ct1 oc2 kV2 dc2 pm2 cd2 ct2 oc3 kV3 dc3 pm3 cd3 ct3 oc4 kV4 dc4 pm4 cd4 ct4 oc5 kV5 dc5 pm5 cd5 ct5 oc6 kV6 dc6 pm6 cd6 ct6 oc7 kV7 dc7 pm7 cd7 ct7 oc8 kV8 dc8 pm8 cd8 ct8 oc9 kV9 dc9 pm9 cd9 ct9 oc10 kV10 dc10 pm10 cd10 ct10 oc11 kV11 dc11 pm11 cd11 ct11 oc12 kV12 dc12 pm12 cd12 ct12 oc13 kV13 dc13 pm13 cd13 ct13 : Value}
    (a0 : PySem.W.nsIn K mainGlobals "_law_draw" = some (some (.ref f0))) (l0 : K.lookup f0 = some ⟨oc0, od0, .func (PySem.W.fnOf "_law_draw" "_law_draw" (defArgs s__law_draw) (defBody s__law_draw) (defScope s__law_draw) .none kV0 dc0 pm0 an0 cd0 ct0), sl0⟩) (c0 : PySem.W.codeIn K cd0 "_law_draw" = true) (k0 : PySem.W.keepIn K (.ref f0) = true)
    (a1 : PySem.W.nsIn K mainGlobals "_law_state" = some (some (.ref f1))) (l1 : K.lookup f1 = some ⟨oc1, od1, .func (PySem.W.fnOf "_law_state" "_law_state" (defArgs s__law_state) (defBody s__law_state) (defScope s__law_state) .none kV1 dc1 pm1 an1 cd1 ct1), sl1⟩) (c1 : PySem.W.codeIn K cd1 "_law_state" = true) (k1 : PySem.W.keepIn K (.ref f1) = true)
    (a2 : PySem.W.nsIn K mainGlobals "line_end" = some (some (.ref f2))) (l2 : K.lookup f2 = some ⟨oc2, od2, .func (PySem.W.fnOf "line_end" "line_end" (defArgs s_line_end) (defBody s_line_end) (defScope s_line_end) .none kV2 dc2 pm2 an2 cd2 ct2), sl2⟩) (c2 : PySem.W.codeIn K cd2 "line_end" = true) (k2 : PySem.W.keepIn K (.ref f2) = true)
    (a3 : PySem.W.nsIn K mainGlobals "pile_end" = some (some (.ref f3))) (l3 : K.lookup f3 = some ⟨oc3, od3, .func (PySem.W.fnOf "pile_end" "pile_end" (defArgs s_pile_end) (defBody s_pile_end) (defScope s_pile_end) .none kV3 dc3 pm3 an3 cd3 ct3), sl3⟩) (c3 : PySem.W.codeIn K cd3 "pile_end" = true) (k3 : PySem.W.keepIn K (.ref f3) = true)
    (a4 : PySem.W.nsIn K mainGlobals "pile_book" = some (some (.ref f4))) (l4 : K.lookup f4 = some ⟨oc4, od4, .func (PySem.W.fnOf "pile_book" "pile_book" (defArgs s_pile_book) (defBody s_pile_book) (defScope s_pile_book) .none kV4 dc4 pm4 an4 cd4 ct4), sl4⟩) (c4 : PySem.W.codeIn K cd4 "pile_book" = true) (k4 : PySem.W.keepIn K (.ref f4) = true)
    (a5 : PySem.W.nsIn K mainGlobals "moment" = some (some (.ref f5))) (l5 : K.lookup f5 = some ⟨oc5, od5, .func (PySem.W.fnOf "moment" "moment" (defArgs s_moment) (defBody s_moment) (defScope s_moment) .none kV5 dc5 pm5 an5 cd5 ct5), sl5⟩) (c5 : PySem.W.codeIn K cd5 "moment" = true) (k5 : PySem.W.keepIn K (.ref f5) = true)
    (a6 : PySem.W.nsIn K mainGlobals "first_full" = some (some (.ref f6))) (l6 : K.lookup f6 = some ⟨oc6, od6, .func (PySem.W.fnOf "first_full" "first_full" (defArgs s_first_full) (defBody s_first_full) (defScope s_first_full) .none kV6 dc6 pm6 an6 cd6 ct6), sl6⟩) (c6 : PySem.W.codeIn K cd6 "first_full" = true) (k6 : PySem.W.keepIn K (.ref f6) = true)
    (a7 : PySem.W.nsIn K mainGlobals "ring_end" = some (some (.ref f7))) (l7 : K.lookup f7 = some ⟨oc7, od7, .func (PySem.W.fnOf "ring_end" "ring_end" (defArgs s_ring_end) (defBody s_ring_end) (defScope s_ring_end) .none kV7 dc7 pm7 an7 cd7 ct7), sl7⟩) (c7 : PySem.W.codeIn K cd7 "ring_end" = true) (k7 : PySem.W.keepIn K (.ref f7) = true)
    (a8 : PySem.W.nsIn K mainGlobals "pointer_line" = some (some (.ref f8))) (l8 : K.lookup f8 = some ⟨oc8, od8, .func (PySem.W.fnOf "pointer_line" "pointer_line" (defArgs s_pointer_line) (defBody s_pointer_line) (defScope s_pointer_line) .none kV8 dc8 pm8 an8 cd8 ct8), sl8⟩) (c8 : PySem.W.codeIn K cd8 "pointer_line" = true) (k8 : PySem.W.keepIn K (.ref f8) = true)
    (a9 : PySem.W.nsIn K mainGlobals "_law_one" = some (some (.ref f9))) (l9 : K.lookup f9 = some ⟨oc9, od9, .func (PySem.W.fnOf "_law_one" "_law_one" (defArgs s__law_one) (defBody s__law_one) (defScope s__law_one) .none kV9 dc9 pm9 an9 cd9 ct9), sl9⟩) (c9 : PySem.W.codeIn K cd9 "_law_one" = true) (k9 : PySem.W.keepIn K (.ref f9) = true)
    (a10 : PySem.W.nsIn K mainGlobals "_law_ring" = some (some (.ref f10))) (l10 : K.lookup f10 = some ⟨oc10, od10, .func (PySem.W.fnOf "_law_ring" "_law_ring" (defArgs s__law_ring) (defBody s__law_ring) (defScope s__law_ring) .none kV10 dc10 pm10 an10 cd10 ct10), sl10⟩) (c10 : PySem.W.codeIn K cd10 "_law_ring" = true) (k10 : PySem.W.keepIn K (.ref f10) = true)
    (a11 : PySem.W.nsIn K mainGlobals "_law_pointers" = some (some (.ref f11))) (l11 : K.lookup f11 = some ⟨oc11, od11, .func (PySem.W.fnOf "_law_pointers" "_law_pointers" (defArgs s__law_pointers) (defBody s__law_pointers) (defScope s__law_pointers) .none kV11 dc11 pm11 an11 cd11 ct11), sl11⟩) (c11 : PySem.W.codeIn K cd11 "_law_pointers" = true) (k11 : PySem.W.keepIn K (.ref f11) = true)
    (a12 : PySem.W.nsIn K mainGlobals "_law_line" = some (some (.ref f12))) (l12 : K.lookup f12 = some ⟨oc12, od12, .func (PySem.W.fnOf "_law_line" "_law_line" (defArgs s__law_line) (defBody s__law_line) (defScope s__law_line) .none kV12 dc12 pm12 an12 cd12 ct12), sl12⟩) (c12 : PySem.W.codeIn K cd12 "_law_line" = true) (k12 : PySem.W.keepIn K (.ref f12) = true)
    (a13 : PySem.W.nsIn K mainGlobals "law" = some (some (.ref f13))) (l13 : K.lookup f13 = some ⟨oc13, od13, .func (PySem.W.fnOf "law" "law" (defArgs s_law) (defBody s_law) (defScope s_law) .none kV13 dc13 pm13 an13 cd13 ct13), sl13⟩) (c13 : PySem.W.codeIn K cd13 "law" = true) (k13 : PySem.W.keepIn K (.ref f13) = true)
    (y_abs : PySem.W.nsIn K mainGlobals "abs" = some none)
    (y_enumerate : PySem.W.nsIn K mainGlobals "enumerate" = some none)
    (y_int : PySem.W.nsIn K mainGlobals "int" = some none)
    (y_len : PySem.W.nsIn K mainGlobals "len" = some none)
    (y_list : PySem.W.nsIn K mainGlobals "list" = some none)
    (y_max : PySem.W.nsIn K mainGlobals "max" = some none)
    (y_min : PySem.W.nsIn K mainGlobals "min" = some none)
    (y_range : PySem.W.nsIn K mainGlobals "range" = some none)
    (y_set : PySem.W.nsIn K mainGlobals "set" = some none)
    (y_sorted : PySem.W.nsIn K mainGlobals "sorted" = some none)
    (y_sum : PySem.W.nsIn K mainGlobals "sum" = some none)
    (y_tuple : PySem.W.nsIn K mainGlobals "tuple" = some none)
    : ∃ fd : FuncData, (∀ (s : Shared) (v : Value), BindsTo s fd ⟨[v], []⟩ [("script", v)]) ∧ ∀ base : Heap, K.In base → base.Ns mainGlobals mg → FnOk l.prog w K mg base CX0 3 fa fd ["script"] (spLaw K) := by
  have e := hfa.symm.trans (PySem.W.mg_of X G a13)
  cases e
  have z_abs := PySem.W.mg_none_of X G y_abs
  have z_enumerate := PySem.W.mg_none_of X G y_enumerate
  have z_int := PySem.W.mg_none_of X G y_int
  have z_len := PySem.W.mg_none_of X G y_len
  have z_list := PySem.W.mg_none_of X G y_list
  have z_max := PySem.W.mg_none_of X G y_max
  have z_min := PySem.W.mg_none_of X G y_min
  have z_range := PySem.W.mg_none_of X G y_range
  have z_set := PySem.W.mg_none_of X G y_set
  have z_sorted := PySem.W.mg_none_of X G y_sorted
  have z_sum := PySem.W.mg_none_of X G y_sum
  have z_tuple := PySem.W.mg_none_of X G y_tuple
  have H0 := fun_mk (st := s__law_draw) l0 c0 k0
  have H1 := fun_mk (st := s__law_state) l1 c1 k1
  have H2 := fun_mk (st := s_line_end) l2 c2 k2
  have H3 := fun_mk (st := s_pile_end) l3 c3 k3
  have H4 := fun_mk (st := s_pile_book) l4 c4 k4
  have H5 := fun_mk (st := s_moment) l5 c5 k5
  have H6 := fun_mk (st := s_first_full) l6 c6 k6
  have H7 := fun_mk (st := s_ring_end) l7 c7 k7
  have H8 := fun_mk (st := s_pointer_line) l8 c8 k8
  have H9 := fun_mk (st := s__law_one) l9 c9 k9
  have H10 := fun_mk (st := s__law_ring) l10 c10 k10
  have H11 := fun_mk (st := s__law_pointers) l11 c11 k11
  have H12 := fun_mk (st := s__law_line) l12 c12 k12
  have H13 := fun_mk (st := s_law) l13 c13 k13
  refine ⟨PySem.W.fnOf "law" "law" (defArgs s_law) (defBody s_law) (defScope s_law) .none kV13 dc13 pm13 an13 cd13 ct13, fun s v => .of_eq rfl, fun base _ _ => ?_⟩
  have F__law_draw : ∀ N sc k, FnIs (cfgOf l.prog w K mg base N sc k) "_law_draw" 1 (spS 1 m_draw) := fun N sc k => ⟨_, _, ["state", "many"], ok__law_draw H0 z_len z_int, PySem.W.mg_of X G a0, H0.kp, H0.binds (ps := ["state", "many"]) fun _ _ _ _ _ _ us hl => match us, hl with | [_, _], _ => rfl⟩
  have F__law_state : ∀ N sc k, FnIs (cfgOf l.prog w K mg base N sc k) "_law_state" 1 (spState K) := fun N sc k => ⟨_, _, ["script"], ok__law_state H1 z_int z_abs, PySem.W.mg_of X G a1, H1.kp, H1.binds (ps := ["script"]) fun _ _ _ _ _ _ us hl => match us, hl with | [_], _ => rfl⟩
  have F_line_end : ∀ N sc k, FnIs (cfgOf l.prog w K mg base N sc k) "line_end" 1 (spP 1 m_line_end) := fun N sc k => ⟨_, _, ["piles"], ok_line_end H2 z_sorted, PySem.W.mg_of X G a2, H2.kp, H2.binds (ps := ["piles"]) fun _ _ _ _ _ _ us hl => match us, hl with | [_], _ => rfl⟩
  have F_pile_end : ∀ N sc k, FnIs (cfgOf l.prog w K mg base N sc k) "pile_end" 1 (spP 1 m_pile_end) := fun N sc k => ⟨_, _, ["many"], ok_pile_end H3 z_range, PySem.W.mg_of X G a3, H3.kp, H3.binds (ps := ["many"]) fun _ _ _ _ _ _ us hl => match us, hl with | [_], _ => rfl⟩
  have F_pile_book : ∀ N sc k, FnIs (cfgOf l.prog w K mg base N sc k) "pile_book" 1 (spP 1 m_pile_book) := fun N sc k => ⟨_, _, ["many"], ok_pile_book H4 z_abs z_range, PySem.W.mg_of X G a4, H4.kp, H4.binds (ps := ["many"]) fun _ _ _ _ _ _ us hl => match us, hl with | [_], _ => rfl⟩
  have F_moment : ∀ N sc k, FnIs (cfgOf l.prog w K mg base N sc k) "moment" 1 (spP 1 m_moment) := fun N sc k => ⟨_, _, ["places"], ok_moment H5 z_sum, PySem.W.mg_of X G a5, H5.kp, H5.binds (ps := ["places"]) fun _ _ _ _ _ _ us hl => match us, hl with | [_], _ => rfl⟩
  have F_first_full : ∀ N sc k, FnIs (cfgOf l.prog w K mg base N sc k) "first_full" 1 (spP 1 m_first_full) := fun N sc k => ⟨_, _, ["chips"], ok_first_full H6 z_enumerate, PySem.W.mg_of X G a6, H6.kp, H6.binds (ps := ["chips"]) fun _ _ _ _ _ _ us hl => match us, hl with | [_], _ => rfl⟩
  have F_ring_end : ∀ N sc k, FnIs (cfgOf l.prog w K mg base N sc k) "ring_end" 2 (spP 2 m_ring_end) := fun N sc k => ⟨_, _, ["size", "chips"], ok_ring_end H7 z_list z_min z_tuple (F_first_full _ _ _), PySem.W.mg_of X G a7, H7.kp, H7.binds (ps := ["size", "chips"]) fun _ _ _ _ _ _ us hl => match us, hl with | [_, _], _ => rfl⟩
  have F_pointer_line : ∀ N sc k, FnIs (cfgOf l.prog w K mg base N sc k) "pointer_line" 1 (spP 1 m_pointer_line) := fun N sc k => ⟨_, _, ["many"], ok_pointer_line H8 z_range, PySem.W.mg_of X G a8, H8.kp, H8.binds (ps := ["many"]) fun _ _ _ _ _ _ us hl => match us, hl with | [_], _ => rfl⟩
  have F__law_one : ∀ N sc k, FnIs (cfgOf l.prog w K mg base N sc k) "_law_one" 2 (spS 1 m_one) := fun N sc k => ⟨_, _, ["state", "some"], ok__law_one H9 z_len (F__law_draw _ _ _), PySem.W.mg_of X G a9, H9.kp, H9.binds (ps := ["state", "some"]) fun _ _ _ _ _ _ us hl => match us, hl with | [_, _], _ => rfl⟩
  have F__law_ring : ∀ N sc k, FnIs (cfgOf l.prog w K mg base N sc k) "_law_ring" 1 (spP 2 m_lring) := fun N sc k => ⟨_, _, ["size", "chips"], ok__law_ring H10 z_list z_max z_range z_tuple, PySem.W.mg_of X G a10, H10.kp, H10.binds (ps := ["size", "chips"]) fun _ _ _ _ _ _ us hl => match us, hl with | [_, _], _ => rfl⟩
  have F__law_pointers : ∀ N sc k, FnIs (cfgOf l.prog w K mg base N sc k) "_law_pointers" 1 (spP 1 m_lpointers) := fun N sc k => ⟨_, _, ["many"], ok__law_pointers H11 z_range, PySem.W.mg_of X G a11, H11.kp, H11.binds (ps := ["many"]) fun _ _ _ _ _ _ us hl => match us, hl with | [_], _ => rfl⟩
  have F__law_line : ∀ N sc k, FnIs (cfgOf l.prog w K mg base N sc k) "_law_line" 1 (spP 1 m_lline) := fun N sc k => ⟨_, _, ["piles"], ok__law_line H12 z_int z_sorted, PySem.W.mg_of X G a12, H12.kp, H12.binds (ps := ["piles"]) fun _ _ _ _ _ _ us hl => match us, hl with | [_], _ => rfl⟩
  exact ok_law (r := 15) H13 sc_law rfl rfl (st_row (F__law_state _ _ _) (Nat.le_of_ble_eq_true rfl) rfl rfl rfl rfl rfl rfl) (fun n => ss_law n z_int z_len z_list z_range z_set z_sorted z_sum z_tuple (F__law_draw _ _ _) (F__law_line _ _ _) (F__law_one _ _ _) (F__law_pointers _ _ _) (F__law_ring _ _ _) (F_line_end _ _ _) (F_moment _ _ _) (F_pile_book _ _ _) (F_pile_end _ _ _) (F_pointer_line _ _ _) (F_ring_end _ _ _)) plain
end K00
/-! the ring: moves, books, rest -/
namespace K00
open GF
def lf (n x : Nat) : Nat := if x = 0 then n - 1 else x - 1
def rt (n x : Nat) : Nat := if x + 1 = n then 0 else x + 1
theorem lf_lt {n x : Nat} (h : 3 ≤ n) (hx : x < n) : lf n x < n := by unfold lf; split <;> omega
theorem rt_lt {n x : Nat} (h : 3 ≤ n) (hx : x < n) : rt n x < n := by unfold rt; split <;> omega
theorem lf_rt {n x y : Nat} (h : 3 ≤ n) (hx : x < n) (hy : y < n) : lf n x = y ↔ x = rt n y := by unfold lf rt; split <;> split <;> omega
theorem rt_lf {n x y : Nat} (h : 3 ≤ n) (hx : x < n) (hy : y < n) : rt n x = y ↔ x = lf n y := by unfold lf rt; split <;> split <;> omega
theorem lf_ne {n x : Nat} (h : 3 ≤ n) (hx : x < n) : lf n x ≠ x ∧ rt n x ≠ x ∧ lf n x ≠ rt n x := by unfold lf rt; split <;> split <;> omega
/-- the way from q to x -/
def dz (n q x : Nat) : Nat := if q ≤ x then x - q else x + n - q
def wt (n q x : Nat) : Int := (dz n q x : Int) * ((n : Int) - dz n q x)
def ph (n q : Nat) (c : Nat → Int) : Int := sumN n fun x => c x * wt n q x
theorem wt_nn {n q x : Nat} (hq : q < n) (hx : x < n) : 0 ≤ wt n q x := by
  unfold wt
  refine Int.mul_nonneg (by omega) ?_
  unfold dz; split <;> omega
theorem wt_step {n q p : Nat} (h : 3 ≤ n) (hq : q < n) (hp : p < n) (ne : q ≠ p) : wt n q (lf n p) + wt n q (rt n p) - 2 * wt n q p = -2 := by
  have e1 : (dz n q (lf n p) : Int) = dz n q p - 1 := by
    unfold dz lf; split <;> split <;> split <;> omega
  have e2 : (dz n q (rt n p) : Int) = dz n q p + 1 ∨ ((dz n q (rt n p) : Int) = 0 ∧ (dz n q p : Int) = n - 1) := by
    unfold dz rt; split <;> split <;> split <;> omega
  unfold wt
  rw [e1]
  generalize (dz n q p : Int) = d at *
  rcases e2 with e2 | ⟨e2, e3⟩
  · rw [e2]; grind
  · rw [e2, e3]; grind
def one (b : Prop) [Decidable b] : Int := if b then 1 else 0
theorem one_congr {P Q : Prop} [Decidable P] [Decidable Q] (h : P ↔ Q) : one P = one Q := by unfold one; by_cases p : P <;> simp only [p, h.mp, if_true, if_false] <;> simp_all
structure RI (n : Nat) (c0 c m : Nat → Int) (t : Nat → Nat) (k : Nat) : Prop where
  cons : ∀ x, x < n → c x = c0 x - 2 * m x + m (lf n x) + m (rt n x)
  cn : ∀ x, x < n → 0 ≤ c x
  mn : ∀ x, x < n → 0 ≤ m x
  least : ∀ v : Nat → Int, (∀ x, x < n → c0 x - 2 * v x + v (lf n x) + v (rt n x) ≤ 1) → (∀ x, x < n → 0 ≤ v x) → ∀ x, x < n → m x ≤ v x
  tz : ∀ x, x < n → (t x = 0 ↔ m x = 0)
  tk : ∀ x, x < n → t x ≤ k
  tj : ∀ x y, x < n → y < n → t x = t y → t x ≠ 0 → x = y
  tc : ∀ x, x < n → one (t x < t (lf n x)) + one (t x < t (rt n x)) ≤ c x
  pot : ∀ q, q < n → m q = 0 → ph n q c + 2 * k = ph n q c0
  sum : sumN n c = sumN n c0
theorem RI.start {n : Nat} {c0 : Nat → Int} (h0 : ∀ x, x < n → 0 ≤ c0 x) : RI n c0 c0 (fun _ => 0) (fun _ => 0) 0 := by
  refine ⟨fun x _ => by omega, h0, fun _ _ => by omega, fun v _ hv x hx => hv x hx, fun x _ => by simp, fun _ _ => by omega, fun _ _ _ _ _ h => absurd rfl h, fun x hx => ?_, fun q _ _ => by simp, rfl⟩
  have := h0 x hx
  unfold one; simpa using this
/-- a move -/
theorem RI.fire {n : Nat} {c0 c m c' m' : Nat → Int} {t : Nat → Nat} {k p : Nat} (h : 3 ≤ n) (R : RI n c0 c m t k) (hp : p < n) (h2 : 2 ≤ c p) (hc : ∀ x, x < n → c' x = c x - 2 * one (x = p) + one (x = lf n p) + one (x = rt n p)) (hm : ∀ x, x < n → m' x = m x + one (x = p)) :
    RI n c0 c' m' (fun x => if x = p then k + 1 else t x) (k + 1) := by
  obtain ⟨e1, e2, e3⟩ := lf_ne h hp
  have lp := lf_lt h hp
  have rp := rt_lt h hp
  refine ⟨fun x hx => ?_, fun x hx => ?_, fun x hx => ?_, fun v hv vn x hx => ?_, fun x hx => ?_, fun x hx => ?_, fun x y hx hy e ne => ?_, fun x hx => ?_, fun q hq hz => ?_, ?_⟩
  · rw [hc x hx, hm x hx, hm _ (lf_lt h hx), hm _ (rt_lt h hx), R.cons x hx]
    have a := lf_rt h hx hp
    have b := rt_lf h hx hp
    rw [one_congr a, one_congr b]; omega
  · rw [hc x hx]
    have := R.cn x hx
    unfold one
    by_cases g1 : x = p
    · subst g1
      rw [if_pos rfl, if_neg (Ne.symm e1), if_neg (Ne.symm e2)]; omega
    · rw [if_neg g1]; split <;> split <;> omega
  · rw [hm x hx]
    have := R.mn x hx
    unfold one; split <;> omega
  · have l := R.least v hv vn x hx
    rw [hm x hx]
    unfold one
    split
    · rename_i g; subst g
      have a := hv x hx
      have b := R.cons x hx
      have l1 := R.least v hv vn _ lp
      have l2 := R.least v hv vn _ rp
      omega
    · omega
  · rw [hm x hx]
    have a := R.tz x hx
    have b := R.mn x hx
    unfold one
    by_cases g : x = p
    · simp only [g, if_true]; rw [← g]; omega
    · simp only [g, if_false]; rw [a]; omega
  · have := R.tk x hx
    show (if x = p then k + 1 else t x) ≤ k + 1
    split <;> omega
  · replace e : (if x = p then k + 1 else t x) = (if y = p then k + 1 else t y) := e
    replace ne : (if x = p then k + 1 else t x) ≠ 0 := ne
    have a := R.tk x hx
    have b := R.tk y hy
    by_cases g1 : x = p
    · by_cases g2 : y = p
      · rw [g1, g2]
      · rw [if_pos g1, if_neg g2] at e; omega
    · by_cases g2 : y = p
      · rw [if_neg g1, if_pos g2] at e; omega
      · rw [if_neg g1, if_neg g2] at e
        rw [if_neg g1] at ne
        exact R.tj x y hx hy e ne
  · show one ((if x = p then k + 1 else t x) < (if lf n x = p then k + 1 else t (lf n x))) + one ((if x = p then k + 1 else t x) < (if rt n x = p then k + 1 else t (rt n x))) ≤ c' x
    have kx := R.tk x hx
    have kl := R.tk _ (lf_lt h hx)
    have kr := R.tk _ (rt_lt h hx)
    have tc := R.tc x hx
    have cn := R.cn x hx
    have a := lf_rt h hx hp
    have b := rt_lf h hx hp
    rw [hc x hx]
    obtain ⟨q1, q2, q3⟩ := lf_ne h hx
    by_cases g1 : x = p
    · subst g1
      have n1 : ¬ (k + 1 < t (lf n x)) := by omega
      have n2 : ¬ (k + 1 < t (rt n x)) := by omega
      unfold one
      rw [if_pos rfl, if_neg q1, if_neg q2, if_neg n1, if_neg n2, if_pos rfl, if_neg (Ne.symm q1), if_neg (Ne.symm q2)]
      omega
    · unfold one at tc ⊢
      rw [if_neg g1, if_neg g1]
      by_cases g2 : lf n x = p
      · have g2' := a.mp g2
        have g3 : rt n x ≠ p := fun z => q3 (g2.trans z.symm)
        have g3' : x ≠ lf n p := fun z => g3 (b.mpr z)
        rw [if_pos g2, if_neg g3, if_neg g3', if_pos g2']
        rw [if_pos (show t x < k + 1 by omega)]
        split at tc <;> split at tc <;> (try rename_i u1 u2) <;> (repeat split) <;> omega
      · have g2' : x ≠ rt n p := fun z => g2 (a.mpr z)
        rw [if_neg g2, if_neg g2']
        by_cases g3 : rt n x = p
        · have g3' := b.mp g3
          rw [if_pos g3, if_pos g3', if_pos (show t x < k + 1 by omega)]
          split at tc <;> split at tc <;> (repeat split) <;> omega
        · have g3' : x ≠ lf n p := fun z => g3 (b.mpr z)
          rw [if_neg g3, if_neg g3']
          omega
  · have zp : q ≠ p := fun z => by
      subst z
      have := R.mn q hq
      rw [hm q hq] at hz
      unfold one at hz; rw [if_pos rfl] at hz; omega
    have mz : m q = 0 := by
      rw [hm q hq] at hz
      unfold one at hz; rw [if_neg zp] at hz; omega
    have old := R.pot q hq mz
    have lin : ph n q c' = ph n q c + (-2 * wt n q p) + wt n q (lf n p) + wt n q (rt n p) := by
      unfold ph
      rw [← sumN_at (n := n) (p := p) (a := -2 * wt n q p) hp, ← sumN_add, ← sumN_at (n := n) (p := lf n p) (a := wt n q (lf n p)) lp, ← sumN_add, ← sumN_at (n := n) (p := rt n p) (a := wt n q (rt n p)) rp, ← sumN_add]
      refine sumN_congr fun x hx => ?_
      show c' x * wt n q x = c x * wt n q x + (if x = p then -2 * wt n q p else 0) + (if x = lf n p then wt n q (lf n p) else 0) + (if x = rt n p then wt n q (rt n p) else 0)
      rw [hc x hx]
      unfold one
      by_cases g1 : x = p
      · subst g1; rw [if_pos rfl, if_pos rfl, if_neg (Ne.symm e1), if_neg (Ne.symm e1), if_neg (Ne.symm e2), if_neg (Ne.symm e2)]; grind
      · rw [if_neg g1, if_neg g1]
        by_cases g2 : x = lf n p
        · rw [if_pos g2, if_pos g2, if_neg (fun z => e3 (g2.symm.trans z)), if_neg (fun z => e3 (g2.symm.trans z)), ← g2]; grind
        · rw [if_neg g2, if_neg g2]
          by_cases g3 : x = rt n p
          · rw [if_pos g3, if_pos g3, ← g3]; grind
          · rw [if_neg g3, if_neg g3]; grind
    have ws := wt_step h hq hp zp
    rw [lin]
    omega
  · rw [← R.sum]
    have : sumN n c' = sumN n (fun x => c x + (if x = p then -2 else 0) + (if x = lf n p then 1 else 0) + (if x = rt n p then 1 else 0)) := sumN_congr fun x hx => by
      rw [hc x hx]
      unfold one
      by_cases g1 : x = p <;> simp only [g1, if_true, if_false] <;> omega
    rw [this, sumN_add, sumN_add, sumN_add, sumN_at hp, sumN_at lp, sumN_at rp]
    omega
section
variable {n : Nat} {c0 c m c' m' : Nat → Int} {t t' : Nat → Nat} {k k' : Nat}
def bnd (n : Nat) (c0 : Nat → Int) : Int := sumN n fun q => ph n q c0
theorem ph_nn (h0 : ∀ x, x < n → 0 ≤ c x) {q : Nat} (hq : q < n) : 0 ≤ ph n q c := sumN_nonneg fun x hx => Int.mul_nonneg (h0 x hx) (wt_nn hq hx)
theorem RI.steps (R : RI n c0 c m t k) (h0 : ∀ x, x < n → 0 ≤ c0 x) {q : Nat} (hq : q < n) (hz : m q = 0) : 2 * (k : Int) ≤ bnd n c0 := by
  have e := R.pot q hq hz
  have nn : 0 ≤ ph n q c := ph_nn R.cn hq
  have := sumN_one (n := n) (p := q) (f := fun q => ph n q c0) (fun x hx => ph_nn h0 hx) hq
  unfold bnd
  replace this : ph n q c0 ≤ sumN n fun q => ph n q c0 := this
  omega
/-- a book that brings rest is not less than any run's -/
theorem RI.le (R : RI n c0 c m t k) (R' : RI n c0 c' m' t' k') (h : ∀ x, x < n → c' x ≤ 1) : ∀ x, x < n → m x ≤ m' x :=
  R.least m' (fun x hx => by have := R'.cons x hx; have := h x hx; omega) R'.mn
theorem RI.same (h3 : 3 ≤ n) (R : RI n c0 c m t k) (R' : RI n c0 c' m' t' k') (h : ∀ x, x < n → c x ≤ 1) (h' : ∀ x, x < n → c' x ≤ 1) : ∀ x, x < n → c x = c' x := fun x hx => by
  have a := R.le R' h'
  have b := R'.le R h
  have e : ∀ y, y < n → m y = m' y := fun y hy => Int.le_antisymm (a y hy) (b y hy)
  rw [R.cons x hx, R'.cons x hx, e x hx, e _ (lf_lt h3 hx), e _ (rt_lt h3 hx)]
/-- a place whose last move is the earliest -/
theorem least_at (t : Nat → Nat) : ∀ n : Nat, 0 < n → ∃ x, x < n ∧ ∀ y, y < n → t x ≤ t y
  | 0, h => by omega
  | 1, _ => ⟨0, by omega, fun y hy => by have : y = 0 := by omega
                                         rw [this]; exact Nat.le_refl _⟩
  | n + 2, _ => by
    obtain ⟨x, hx, h⟩ := least_at t (n + 1) (by omega)
    by_cases g : t x ≤ t (n + 1)
    · refine ⟨x, by omega, fun y hy => ?_⟩
      by_cases e : y = n + 1
      · rw [e]; exact g
      · exact h y (by omega)
    · refine ⟨n + 1, by omega, fun y hy => ?_⟩
      by_cases e : y = n + 1
      · rw [e]; exact Nat.le_refl _
      · have := h y (by omega)
        omega
theorem RI.moved (h3 : 3 ≤ n) (R : RI n c0 c m t k) (h : ∀ x, x < n → m x ≠ 0) : ∃ x, x < n ∧ 2 ≤ c x := by
  obtain ⟨x, hx, hm⟩ := least_at t n (by omega)
  obtain ⟨q1, q2, q3⟩ := lf_ne h3 hx
  have l := lf_lt h3 hx
  have r := rt_lt h3 hx
  have nz : t x ≠ 0 := fun z => h x hx ((R.tz x hx).mp z)
  have a := hm _ l
  have b := hm _ r
  have a' : t x ≠ t (lf n x) := fun z => q1 (R.tj x _ hx l z nz).symm
  have b' : t x ≠ t (rt n x) := fun z => q2 (R.tj x _ hx r z nz).symm
  have tc := R.tc x hx
  unfold one at tc
  rw [if_pos (by omega), if_pos (by omega)] at tc
  exact ⟨x, hx, by omega⟩
theorem sum_shift (f : Nat → Int) : ∀ n, sumN n (fun x => f (x + 1)) + f 0 = sumN n f + f n
  | 0 => rfl
  | n + 1 => by
    have := sum_shift f n
    show sumN n (fun x => f (x + 1)) + f (n + 1) + f 0 = sumN n f + f n + f (n + 1)
    omega
theorem sum_rt (f : Nat → Int) (h : 3 ≤ n) : sumN n (fun x => f (rt n x)) = sumN n f := by
  obtain ⟨n, rfl⟩ : ∃ k, n = k + 1 := ⟨n - 1, by omega⟩
  show sumN n (fun x => f (rt (n + 1) x)) + f (rt (n + 1) n) = sumN n f + f n
  rw [← sum_shift f n, show rt (n + 1) n = 0 from if_pos rfl, sumN_congr (g := fun x => f (x + 1)) fun x hx => by
    show f (rt (n + 1) x) = f (x + 1)
    rw [show rt (n + 1) x = x + 1 from if_neg (by omega)]]
theorem RI.many (h3 : 3 ≤ n) (R : RI n c0 c m t k) (h : ∀ x, x < n → m x ≠ 0) : (n : Int) ≤ sumN n c0 := by
  rw [← R.sum]
  have e : sumN n (fun x => one (t x < t (lf n x)) + one (t x < t (rt n x))) = n := by
    rw [sumN_add, ← sum_rt (fun x => one (t x < t (lf n x))) h3, ← sumN_add]
    rw [sumN_congr (g := fun _ => 1) fun x hx => ?_]
    · rw [sumN_const]; omega
    · show one (t (rt n x) < t (lf n (rt n x))) + one (t x < t (rt n x)) = 1
      have r := rt_lt h3 hx
      rw [show lf n (rt n x) = x from (lf_rt h3 r hx).mpr rfl]
      have ne : t x ≠ t (rt n x) := fun z => (lf_ne h3 hx).2.1 (R.tj x _ hx r z fun z => h x hx ((R.tz x hx).mp z)).symm
      unfold one
      by_cases g : t x < t (rt n x)
      · rw [if_neg (by omega), if_pos g]; rfl
      · rw [if_pos (by omega), if_neg g]; rfl
  have := sumN_le (n := n) (f := fun x => one (t x < t (lf n x)) + one (t x < t (rt n x))) (g := c) R.tc
  omega
theorem RI.few (R : RI n c0 c m t k) (h : ∀ x, x < n → c x ≤ 1) : sumN n c0 ≤ n := by
  rw [← R.sum]
  have := sumN_le (n := n) (f := c) (g := fun _ => 1) h
  rw [sumN_const] at this
  omega
/-- one run to rest, another till all have moved: not both -/
theorem RI.not (h3 : 3 ≤ n) (R : RI n c0 c m t k) (R' : RI n c0 c' m' t' k') (h : ∀ x, x < n → c x ≤ 1) (h' : ∀ x, x < n → m' x ≠ 0) : False := by
  have a := R'.le R h
  obtain ⟨x, hx, h2⟩ := R.moved h3 fun x hx => by
    have := a x hx
    have := R'.mn x hx
    have := h' x hx
    omega
  have := h x hx
  omega
end
end K00
namespace K00
open PySem PySem.Spec PyProof.Rows L2 GF
def up (h : List Int) (q : Nat) (a : Int) : List Int := h.set q (cAt h q + a)
theorem up_neg {h : List Int} {q : Nat} {a : Int} : h.set q (cAt h q - a) = up h q (-a) := by unfold up; rw [Int.sub_eq_add_neg]
theorem up_pos {h : List Int} {q : Nat} {a : Int} : h.set q (cAt h q + a) = up h q a := rfl
@[simp] theorem up_len {h : List Int} {q : Nat} {a : Int} : (up h q a).length = h.length := List.length_set ..
theorem rt_fmod {n P : Nat} (h : 3 ≤ n) (hP : P < n) : ((P : Int) + 1).fmod n = (rt n P : Nat) := by
  rw [Int.fmod_eq_emod_of_nonneg _ (by omega)]
  unfold rt
  split
  · rename_i e
    rw [show ((P : Int) + 1) = (n : Int) by omega, Int.emod_self]; rfl
  · rw [Int.emod_eq_of_lt (by omega) (by omega)]; rfl
theorem lf_fmod {n P : Nat} (h : 3 ≤ n) (hP : P < n) : ((P : Int) - 1).fmod n = (lf n P : Nat) := by
  rw [Int.fmod_eq_emod_of_nonneg _ (by omega)]
  unfold lf
  split
  · rename_i e
    subst e
    rw [show (((0 : Nat) : Int) - 1) = ((n - 1 : Nat) : Int) + (n : Int) * (-1) by omega, Int.add_mul_emod_self_left, Int.emod_eq_of_lt (by omega) (by omega)]
  · rw [Int.emod_eq_of_lt (by omega) (by omega)]; omega
def fireL (n : Nat) (h : List Int) (p : Nat) : List Int := up (up (up h p (-2)) (rt n p) 1) (lf n p) 1
theorem ring_step {n k : Nat} {s : DS} {chips : D} {h m : List Int} {P : Nat} {fd : D} (h3 : 3 ≤ n) (hP : P < n) (hl : h.length = n) (ml : m.length = n) (hf : m_first_full [.list (inZ (fireL n h P))] = some fd) (hn : noLst fd = true) :
  d_ring_end_1 k [some (.im (.int n)), some (.im chips), some (.ml (inZ h)), some (.ml (inZ m)), some (.im (.int P))] s = some (.nx [some (.im (.int n)), some (.im chips), some (.ml (inZ (fireL n h P))), some (.ml (inZ (up m P 1))), some (.im fd)] s) := by
  have r1 := rt_lt h3 hP
  have l1 := lf_lt h3 hP
  have n0 : n ≠ 0 := by omega
  unfold d_ring_end_1
  unfold fireL at *
  simp [rt_fmod h3 hP, lf_fmod h3 hP, hl, ml, hP, r1, l1, n0, up_neg, up_pos, hf, hn]
  trace_state
  skip
def bFull : D → Bool
  | .tuple [_, .int v] => decide (1 < v)
  | _ => false
def gFst : D → D
  | .tuple [i, _] => i
  | _ => .none
theorem first_full_eq {h : List Int} (hl : h.length ≤ 16777216) : ∃ fd, m_first_full [.list (inZ h)] = some fd ∧ noLst fd = true ∧ ((fd = .none ∧ ∀ x, x < h.length → cAt h x ≤ 1) ∨ ∃ P : Nat, P < h.length ∧ 2 ≤ cAt h P ∧ fd = .int P) := by
  have e : ∀ ρ0 s, lcL (enumD (inZ h)) (hT (hCons (hN 2) (hCons (hN 3) hNil))) (dTest (dOp mGt (dVar 3) (dC (.int 1)))) (dVar 2) [ρ0, none, none, none] s = some (((enumD (inZ h)).filter bFull).map gFst, s) := fun ρ0 s => by
    refine lcL_pure bFull gFst fun d hd => ?_
    obtain ⟨i, v, e1, rfl⟩ := enumD_mem hd
    obtain ⟨hi, rfl⟩ := inZ_get e1
    exact ⟨[ρ0, none, some (.im (.int (i : Int))), some (.im (.int (cAt h i)))], rfl, rfl, fun _ => rfl⟩
  cases hL : (enumD (inZ h)).filter bFull with
  | nil =>
    refine ⟨.none, tells_run mono_d_first_full ⟨0, ?_⟩ (s' := ([], 0)), rfl, .inl ⟨rfl, fun x hx => ?_⟩⟩
    · unfold d_first_full
      simp [e, hl, hL]
    · have m := enumD_at (inZ_at hx)
      have := List.filter_eq_nil_iff.mp hL _ m
      have h2 : ¬ (decide (1 < cAt h x) = true) := this
      simpa using h2
  | cons d r =>
    have hd : d ∈ (enumD (inZ h)).filter bFull := by rw [hL]; exact List.mem_cons_self
    obtain ⟨m, hb⟩ := List.mem_filter.mp hd
    obtain ⟨i, v, e1, rfl⟩ := enumD_mem m
    obtain ⟨hi, rfl⟩ := inZ_get e1
    have h2 : 1 < cAt h i := of_decide_eq_true (show decide (1 < cAt h i) = true from hb)
    refine ⟨.int i, tells_run mono_d_first_full ⟨0, ?_⟩ (s' := ([], 0)), rfl, .inr ⟨i, hi, by omega, rfl⟩⟩
    have at0 : atI (gFst (.tuple [.int (i : Int), .int (cAt h i)]) :: r.map gFst) 0 = some (.int (i : Int)) := atI_nat (j := 0) rfl
    unfold d_first_full
    simp [e, hl, hL, at0]
/-- how a run on the ring ends -/
def RingRes (n : Nat) (h0 : List Int) (r : Option (List Int)) : Prop :=
  (∃ h m t k, RI n (cAt h0) (cAt h) (cAt m) t k ∧ h.length = n ∧ (∀ x, x < n → cAt h x ≤ 1) ∧ r = some h) ∨ ∃ c m t k, RI n (cAt h0) c m t k ∧ (∀ x, x < n → m x ≠ 0) ∧ r = none
theorem cAt_ext {a b : List Int} (hl : a.length = b.length) (h : ∀ x, x < a.length → cAt a x = cAt b x) : a = b := by
  refine List.ext_getElem? fun x => ?_
  by_cases hx : x < a.length
  · rw [cAt_get hx, cAt_get (by omega), h x hx]
  · rw [List.getElem?_eq_none (by omega), List.getElem?_eq_none (by omega)]
theorem RingRes.same {n : Nat} {h0 : List Int} {r r' : Option (List Int)} (h3 : 3 ≤ n) (a : RingRes n h0 r) (b : RingRes n h0 r') : r = r' := by
  rcases a with ⟨h, m, t, k, R, l, c, rfl⟩ | ⟨c, m, t, k, R, mv, rfl⟩
  · rcases b with ⟨h', m', t', k', R', l', c', rfl⟩ | ⟨c', m', t', k', R', mv', rfl⟩
    · rw [cAt_ext (l.trans l'.symm) fun x hx => RI.same h3 R R' c c' x (by omega)]
    · exact (RI.not h3 R R' c mv').elim
  · rcases b with ⟨h', m', t', k', R', l', c', rfl⟩ | ⟨c', m', t', k', R', mv', rfl⟩
    · exact (RI.not h3 R' R c' mv).elim
    · rfl
theorem RingRes.none {n : Nat} {h0 : List Int} (h3 : 3 ≤ n) (a : RingRes n h0 none) : (n : Int) ≤ sumN n (cAt h0) := by
  rcases a with ⟨h, m, t, k, R, l, c, e⟩ | ⟨c, m, t, k, R, mv, _⟩
  · cases e
  · exact R.many h3 mv
theorem RingRes.some {n : Nat} {h0 h : List Int} (a : RingRes n h0 (some h)) : sumN n (cAt h0) ≤ n := by
  rcases a with ⟨h, m, t, k, R, l, c, e⟩ | ⟨c, m, t, k, R, mv, e⟩
  · exact R.few c
  · cases e
theorem up_at {h : List Int} {q x : Nat} {a : Int} (hq : q < h.length) : cAt (up h q a) x = cAt h x + (if x = q then a else 0) := by
  unfold up
  rw [cAt_set hq]
  split
  · rename_i e; rw [e]
  · omega
theorem fireL_len {n p : Nat} {h : List Int} : (fireL n h p).length = h.length := by unfold fireL; simp
theorem fireL_at {n p x : Nat} {h : List Int} (h3 : 3 ≤ n) (hl : h.length = n) (hp : p < n) : cAt (fireL n h p) x = cAt h x - 2 * one (x = p) + one (x = lf n p) + one (x = rt n p) := by
  unfold fireL
  rw [up_at (by simp; rw [hl]; exact lf_lt h3 hp), up_at (by simp; rw [hl]; exact rt_lt h3 hp), up_at (by rw [hl]; exact hp)]
  unfold one
  split <;> split <;> split <;> omega
theorem RI.fireL {n k p : Nat} {h0 h m : List Int} {t : Nat → Nat} (h3 : 3 ≤ n) (hl : h.length = n) (ml : m.length = n) (hp : p < n) (h2 : 2 ≤ cAt h p) (R : RI n (cAt h0) (cAt h) (cAt m) t k) : RI n (cAt h0) (cAt (K00.fireL n h p)) (cAt (up m p 1)) (fun x => if x = p then k + 1 else t x) (k + 1) :=
  R.fire h3 hp h2 (fun x hx => fireL_at h3 hl hp) fun x hx => by rw [up_at (by omega)]; rfl
def resD : Option (List Int) → D
  | none => .none
  | some h => .tuple (inZ h)
theorem min_all {m : List Int} (hm : 0 < m.length) (h0 : ∀ x, x < m.length → 0 ≤ cAt m x) : ∃ v, mMin [.list (inZ m)] = some (.int v) ∧ (v = 0 ↔ ∃ x, x < m.length ∧ cAt m x = 0) := by
  cases m with
  | nil => exact absurd hm (by simp)
  | cons a r =>
    obtain ⟨m1, m2⟩ := minI_mem a r
    refine ⟨minI a r, mMin_eq, fun e => ?_, fun ⟨x, hx, e⟩ => ?_⟩
    · rw [e] at m1
      exact cAt_mem.mp m1
    · obtain ⟨y, hy, e2⟩ := cAt_mem.mp m1
      have a1 := h0 y hy
      have a2 := m2 0 (cAt_mem.mpr ⟨x, hx, e⟩)
      omega
theorem ring_end_go {n : Nat} {h0 h m : List Int} {fd fd' d : D} (hn : n ≤ 1000) (e1 : m_first_full [.list (inZ h0)] = some fd) (e2 : noLst fd = true)
    (run : Run (fun k => dWhile k (dBwT (dAnd (dTest (dOp mIsNot (dVar 4) (dC .none))) (dTest (dOp mEq (dCall mMin (dCons (dVar 3) dNil)) (dC (.int 0)))))) (d_ring_end_1 k)) [some (.im (.int n)), some (.im (.tuple (inZ h0))), some (.ml (inZ h0)), some (.ml (inZ (List.replicate n 0))), some (.im fd)] ([], 0) (.nx [some (.im (.int n)), some (.im (.tuple (inZ h0))), some (.ml (inZ h)), some (.ml (inZ m)), some (.im fd')] ([], 0)))
    (hr : dRet (dIfE (dTest (dOp mIsNot (dVar 4) (dC .none))) (dC .none) (dCall mTuple (dCons (dVar 2) dNil))) [some (.im (.int n)), some (.im (.tuple (inZ h0))), some (.ml (inZ h)), some (.ml (inZ m)), some (.im fd')] ([], 0) = some (.rt d ([], 0))) : m_ring_end [.int n, .tuple (inZ h0)] = some d := by
  refine tells_run mono_d_ring_end (s' := ([], 0)) ?_
  have s1 : dAsg 2 (xF (dCallF mList (dCons (dVar 1) dNil))) [some (.im (.int n)), some (.im (.tuple (inZ h0))), none, none, none] ([], 0) = some (.nx [some (.im (.int n)), some (.im (.tuple (inZ h0))), some (.ml (inZ h0)), none, none] ([], 0)) := by simp
  have s2 : dAsg 3 (xF (dOpF mRep (dFr (dLst (dCons (dC (.int 0)) dNil))) (dVar 0))) [some (.im (.int n)), some (.im (.tuple (inZ h0))), some (.ml (inZ h0)), none, none] ([], 0) = some (.nx [some (.im (.int n)), some (.im (.tuple (inZ h0))), some (.ml (inZ h0)), some (.ml (inZ (List.replicate n 0))), none] ([], 0)) := by
    simp [mRep_zero (show n ≤ 16777216 by omega)]
  have s3 : dAsg 4 (xE (dBw (dCall m_first_full (dCons (dVar 2) dNil)))) [some (.im (.int n)), some (.im (.tuple (inZ h0))), some (.ml (inZ h0)), some (.ml (inZ (List.replicate n 0))), none] ([], 0) = some (.nx [some (.im (.int n)), some (.im (.tuple (inZ h0))), some (.ml (inZ h0)), some (.ml (inZ (List.replicate n 0))), some (.im fd)] ([], 0)) := by simp [e1, e2]
  exact run_seq0 s1 (run_seq0 s2 (run_seq0 s3 (run_seqL run hr)))
theorem ring_end_eq {n : Nat} {h0 : List Int} (h3 : 3 ≤ n) (hn : n ≤ 1000) (hl : h0.length = n) (hc : ∀ x, x < n → 0 ≤ cAt h0 x) : ∃ r, RingRes n h0 r ∧ m_ring_end [.int n, .tuple (inZ h0)] = some (resD r) := by
  -- the loop
  have loop := run_while (G := d_ring_end_1) (t := dBwT (dAnd (dTest (dOp mIsNot (dVar 4) (dC .none))) (dTest (dOp mEq (dCall mMin (dCons (dVar 3) dNil)) (dC (.int 0)))))) mono_d_ring_end_1
    (fun μ ρ s => s = ([], 0) ∧ ∃ h m fd t k, ρ = [some (.im (.int n)), some (.im (.tuple (inZ h0))), some (.ml (inZ h)), some (.ml (inZ m)), some (.im fd)] ∧ h.length = n ∧ m.length = n ∧ RI n (cAt h0) (cAt h) (cAt m) t k ∧
      ((fd = .none ∧ ∀ x, x < n → cAt h x ≤ 1) ∨ ∃ P : Nat, P < n ∧ 2 ≤ cAt h P ∧ fd = .int P) ∧ μ = (bnd n (cAt h0) + 2 - 2 * k).toNat)
    (fun ρ s => s = ([], 0) ∧ ∃ h m fd t k, ρ = [some (.im (.int n)), some (.im (.tuple (inZ h0))), some (.ml (inZ h)), some (.ml (inZ m)), some (.im fd)] ∧ h.length = n ∧ RI n (cAt h0) (cAt h) (cAt m) t k ∧
      ((fd = .none ∧ ∀ x, x < n → cAt h x ≤ 1) ∨ ((∃ P : Int, fd = .int P) ∧ ∀ x, x < n → cAt m x ≠ 0)))
    (fun μ ρ s I => by
      obtain ⟨rfl, h, m, fd, t, k, rfl, hh, mm, R, hfd, rfl⟩ := I
      obtain ⟨v, ev, hv⟩ := min_all (m := m) (by omega) fun x hx => R.mn x (by omega)
      rcases hfd with ⟨rfl, rest⟩ | ⟨P, hP, h2, rfl⟩
      · exact .inl ⟨([], 0), by simp, rfl, h, m, .none, t, k, rfl, hh, R, .inl ⟨rfl, rest⟩⟩
      · by_cases hz : v = 0
        · obtain ⟨q, hq, hq0⟩ := hv.mp hz
          have st := R.steps hc (by omega) hq0
          obtain ⟨fd, e1, e2, e3⟩ := first_full_eq (h := fireL n h P) (by rw [fireL_len]; omega)
          rw [fireL_len, hh] at e3
          refine .inr ⟨([], 0), _, _, by simp [ev, hz], ⟨0, ring_step h3 hP hh mm e1 e2⟩, _, ?_, rfl, _, _, fd, _, k + 1, rfl, by rw [fireL_len, hh], by simp [mm], R.fireL h3 hh mm hP h2, e3, rfl⟩
          omega
        · exact .inl ⟨([], 0), by simp [ev, hz], rfl, h, m, .int P, t, k, rfl, hh, R, .inr ⟨⟨P, rfl⟩, fun x hx e => hz (hv.mpr ⟨x, by omega, e⟩)⟩⟩)
  obtain ⟨fd, e1, e2, e3⟩ := first_full_eq (h := h0) (by omega)
  rw [hl] at e3
  have R0 : RI n (cAt h0) (cAt h0) (cAt (List.replicate n 0)) (fun _ => 0) 0 := by
    have := RI.start hc
    rw [show (cAt (List.replicate n 0)) = fun _ => 0 from funext fun x => cAt_rep]
    exact this
  obtain ⟨ρ', s', run, rfl, h, m, fd', t, k, rfl, hh, R, fin⟩ := loop _ _ _ ⟨rfl, h0, List.replicate n 0, fd, _, 0, rfl, hl, by simp, R0, e3, rfl⟩
  rcases fin with ⟨rfl, rest⟩ | ⟨⟨P, rfl⟩, all⟩
  · exact ⟨some h, .inl ⟨h, m, t, k, R, hh, rest, rfl⟩, ring_end_go hn e1 e2 run (by simp [resD])⟩
  · exact ⟨none, .inr ⟨_, _, t, k, R, all, rfl⟩, ring_end_go hn e1 e2 run (by simp [resD])⟩
end K00
/-! the law's own ring -/
namespace K00
open PySem PySem.Spec PyProof.Rows L2 GF
theorem max_all {m : List Int} (hm : 0 < m.length) : ∃ v, mMax [.list (inZ m)] = some (.int v) ∧ (1 < v ↔ ∃ x, x < m.length ∧ 2 ≤ cAt m x) := by
  cases m with
  | nil => exact absurd hm (by simp)
  | cons a r =>
    obtain ⟨m1, m2⟩ := maxI_mem a r
    refine ⟨maxI a r, mMax_eq, fun e => ?_, fun ⟨x, hx, e⟩ => ?_⟩
    · obtain ⟨x, hx, e2⟩ := cAt_mem.mp m1
      exact ⟨x, hx, by omega⟩
    · have a2 := m2 _ (cAt_mem.mpr ⟨x, hx, rfl⟩)
      omega
def fireL2 (n : Nat) (h : List Int) (p : Nat) : List Int := up (up (up h p (-2)) (lf n p) 1) (rt n p) 1
theorem fireL2_eq {n p : Nat} {h : List Int} (h3 : 3 ≤ n) (hl : h.length = n) (hp : p < n) : fireL2 n h p = fireL n h p := by
  refine cAt_ext (by unfold fireL2 fireL; simp) fun x hx => ?_
  rw [fireL_at h3 hl hp]
  unfold fireL2
  rw [up_at (by simp; rw [hl]; exact rt_lt h3 hp), up_at (by simp; rw [hl]; exact lf_lt h3 hp), up_at (by rw [hl]; exact hp)]
  unfold one
  split <;> split <;> split <;> omega
theorem at_lf {n p : Nat} {h : List Int} (h3 : 3 ≤ n) (hl : h.length = n) (hp : p < n) : atI (inZ h) ((p : Int) - 1) = some (.int (cAt h (lf n p))) ∧ ixN n ((p : Int) - 1) = some (lf n p) := by
  have e : ixN n ((p : Int) - 1) = some (lf n p) := by
    unfold lf
    split
    · exact ixN_neg (by omega) (by omega)
    · exact ixN_at (by omega) (by omega)
  refine ⟨?_, e⟩
  unfold atI
  rw [inZ_len, hl, e]
  exact inZ_at (by rw [hl]; exact lf_lt h3 hp)
/-- the last place with more than one grain -/
theorem last_full {n : Nat} {h : List Int} (hl : h.length = n) (hn : n ≤ 1000) (s : DS) (ρ0 ρ1 ρ3 ρ4 : Option Sl) (hx : ∃ x, x < n ∧ 2 ≤ cAt h x) : ∃ P : Nat, P < n ∧ 2 ≤ cAt h P ∧ ∃ ds,
    lcL (inZ (rangeI 0 n)) (hN 5) (dTest (dOp mGt (dOp mIx (dVar 2) (dVar 5)) (dC (.int 1)))) (dVar 5) [ρ0, ρ1, some (.im (.list (inZ h))), ρ3, ρ4, none] s = some (ds, s) ∧ atI ds (-1) = some (.int P) := by
  have e := lcL_pure (items := inZ (rangeI 0 n)) (h := hN 5) (t := dTest (dOp mGt (dOp mIx (dVar 2) (dVar 5)) (dC (.int 1)))) (f := dVar 5) (ρ := [ρ0, ρ1, some (.im (.list (inZ h))), ρ3, ρ4, none]) (s := s) (fun d => match d with | .int k => decide (1 < cAt h k.toNat) | _ => false) id (fun d hd => by
    obtain ⟨k, hk, rfl⟩ := List.mem_map.mp hd
    rw [range_mem] at hk
    obtain ⟨j, rfl⟩ : ∃ j : Nat, k = (j : Int) := ⟨k.toNat, by omega⟩
    have hj : j < h.length := by omega
    refine ⟨_, rfl, ?_, fun _ => rfl⟩
    simp [hj])
  have e2 : ((inZ (rangeI 0 n)).filter fun d => match d with | .int k => decide (1 < cAt h k.toNat) | _ => false) = inZ ((rangeI 0 n).filter fun k => decide (1 < cAt h k.toNat)) := range_filter _
  rw [e2, List.map_id] at e
  obtain ⟨x, hx1, hx2⟩ := hx
  have ne : ((rangeI 0 n).filter fun k => decide (1 < cAt h k.toNat)) ≠ [] := by
    refine List.ne_nil_of_mem (a := (x : Int)) (List.mem_filter.mpr ⟨range_mem.mpr ⟨by omega, by omega⟩, ?_⟩)
    simp; omega
  obtain ⟨L, v, eL⟩ : ∃ L v, ((rangeI 0 n).filter fun k => decide (1 < cAt h k.toNat)) = L ++ [v] := ⟨_, _, (List.dropLast_concat_getLast ne).symm⟩
  have hv : v ∈ ((rangeI 0 n).filter fun k => decide (1 < cAt h k.toNat)) := by rw [eL]; simp
  obtain ⟨v1, v2⟩ := List.mem_filter.mp hv
  rw [range_mem] at v1
  have v3 := of_decide_eq_true v2
  refine ⟨v.toNat, by omega, by omega, _, e, ?_⟩
  rw [eL, ← inZ_app, atI_last]
  congr 2; omega
theorem lring_step {n k : Nat} {s : DS} {chips : D} {h m : List Int} (h3 : 3 ≤ n) (hn : n ≤ 1000) (hl : h.length = n) (ml : m.length = n) (x4 : Option Sl) (hx : ∃ x, x < n ∧ 2 ≤ cAt h x) : ∃ P : Nat, P < n ∧ 2 ≤ cAt h P ∧
  d__law_ring_1 k [some (.im (.int n)), some (.im chips), some (.ml (inZ h)), some (.ml (inZ m)), x4, none] s = some (.nx [some (.im (.int n)), some (.im chips), some (.ml (inZ (fireL n h P))), some (.ml (inZ (up m P 1))), some (.im (.int P)), none] s) := by
  obtain ⟨P, hP, h2, ds, e1, e2⟩ := last_full hl hn s (some (.im (.int n))) (some (.im chips)) (some (.im (.list (inZ m)))) (x4.map frzS) hx
  refine ⟨P, hP, h2, ?_⟩
  rw [← fireL2_eq h3 hl hP]
  have r1 := rt_lt h3 hP
  have l1 := lf_lt h3 hP
  have n0 : n ≠ 0 := by omega
  obtain ⟨a1, a2⟩ := at_lf (h := up h P (-2)) h3 (by simp [hl]) hP
  have e0 : (rangeI 0 (n : Int)).map PyData.int = inZ (rangeI 0 n) := rfl
  have rl : (inZ (rangeI 0 (n : Int))).length ≤ 16777216 := by rw [inZ_len, range_len]; omega
  have rl2 : n ≤ 16777216 := by omega
  have b1 : n < 2 ^ 62 := by omega
  unfold d__law_ring_1
  unfold fireL2
  simp [e0, e1, e2, rl, rl2, b1, range_len, rt_fmod h3 hP, hl, ml, hP, r1, l1, n0, up_neg, up_pos, a1, a2]

theorem lring_go {n : Nat} {h0 h m : List Int} {d : D} {x4 : Option Sl} (hn : n ≤ 1000)
    (run : Run (fun k => dWhile k (dBwT (dAnd (dTest (dOp mGt (dCall mMax (dCons (dVar 2) dNil)) (dC (.int 1)))) (dTest (dOp mIn (dC (.int 0)) (dVar 3))))) (d__law_ring_1 k)) [some (.im (.int n)), some (.im (.list (inZ h0))), some (.ml (inZ h0)), some (.ml (inZ (List.replicate n 0))), none, none] ([], 0) (.nx [some (.im (.int n)), some (.im (.list (inZ h0))), some (.ml (inZ h)), some (.ml (inZ m)), x4, none] ([], 0)))
    (hr : dRet (dIfE (dTest (dOp mLt (dCall mMax (dCons (dVar 2) dNil)) (dC (.int 2)))) (dCall mTuple (dCons (dVar 2) dNil)) (dC .none)) [some (.im (.int n)), some (.im (.list (inZ h0))), some (.ml (inZ h)), some (.ml (inZ m)), x4, none] ([], 0) = some (.rt d ([], 0))) : m_lring [.int n, .list (inZ h0)] = some d := by
  refine tells_run mono_d__law_ring (s' := ([], 0)) ?_
  have s1 : dPar [2, 3] (xCons (xF (dCallF mList (dCons (dVar 1) dNil))) (xCons (xF (dOpF mRep (dFr (dLst (dCons (dC (.int 0)) dNil))) (dVar 0))) xNil)) [some (.im (.int n)), some (.im (.list (inZ h0))), none, none, none, none] ([], 0) = some (.nx [some (.im (.int n)), some (.im (.list (inZ h0))), some (.ml (inZ h0)), some (.ml (inZ (List.replicate n 0))), none, none] ([], 0)) := by
    simp [mRep_zero (show n ≤ 16777216 by omega), setAll]
  exact run_seq0 s1 (run_seqL run hr)
theorem lring_eq {n : Nat} {h0 : List Int} (h3 : 3 ≤ n) (hn : n ≤ 1000) (hl : h0.length = n) (hc : ∀ x, x < n → 0 ≤ cAt h0 x) : ∃ r, RingRes n h0 r ∧ m_lring [.int n, .list (inZ h0)] = some (resD r) := by
  have loop := run_while (G := d__law_ring_1) (t := dBwT (dAnd (dTest (dOp mGt (dCall mMax (dCons (dVar 2) dNil)) (dC (.int 1)))) (dTest (dOp mIn (dC (.int 0)) (dVar 3))))) mono_d__law_ring_1
    (fun μ ρ s => s = ([], 0) ∧ ∃ h m x4 t k, ρ = [some (.im (.int n)), some (.im (.list (inZ h0))), some (.ml (inZ h)), some (.ml (inZ m)), x4, none] ∧ h.length = n ∧ m.length = n ∧ RI n (cAt h0) (cAt h) (cAt m) t k ∧ μ = (bnd n (cAt h0) + 2 - 2 * k).toNat)
    (fun ρ s => s = ([], 0) ∧ ∃ h m x4 t k, ρ = [some (.im (.int n)), some (.im (.list (inZ h0))), some (.ml (inZ h)), some (.ml (inZ m)), x4, none] ∧ h.length = n ∧ RI n (cAt h0) (cAt h) (cAt m) t k ∧
      ((∀ x, x < n → cAt h x ≤ 1) ∨ ((∃ x, x < n ∧ 2 ≤ cAt h x) ∧ ∀ x, x < n → cAt m x ≠ 0)))
    (fun μ ρ s I => by
      obtain ⟨rfl, h, m, x4, t, k, rfl, hh, mm, R, rfl⟩ := I
      obtain ⟨v, ev, hv⟩ := max_all (m := h) (by omega)
      by_cases hz : 1 < v
      · obtain ⟨x, hx, hx2⟩ := hv.mp hz
        by_cases h0m : (0 : Int) ∈ m
        · obtain ⟨q, hq, hq0⟩ := cAt_mem.mp h0m
          have st := R.steps hc (by omega) hq0
          obtain ⟨P, hP, h2, e⟩ := lring_step (k := 0) (s := (([], 0) : DS)) (chips := .list (inZ h0)) h3 hn hh mm x4 ⟨x, by omega, hx2⟩
          refine .inr ⟨([], 0), _, _, by simp [ev, hz, mIn_inZ, h0m], ⟨0, e⟩, _, ?_, rfl, _, _, _, _, k + 1, rfl, by rw [fireL_len, hh], by simp [mm], R.fireL h3 hh mm hP h2, rfl⟩
          omega
        · exact .inl ⟨([], 0), by simp [ev, hz, mIn_inZ, h0m], rfl, h, m, x4, t, k, rfl, hh, R, .inr ⟨⟨x, by omega, hx2⟩, fun y hy e => h0m (cAt_mem.mpr ⟨y, by omega, e⟩)⟩⟩
      · exact .inl ⟨([], 0), by simp [ev, hz], rfl, h, m, x4, t, k, rfl, hh, R, .inl fun x hx => Int.not_lt.mp fun z => hz (hv.mpr ⟨x, by omega, z⟩)⟩)
  have R0 : RI n (cAt h0) (cAt h0) (cAt (List.replicate n 0)) (fun _ => 0) 0 := by
    have := RI.start hc
    rw [show (cAt (List.replicate n 0)) = fun _ => 0 from funext fun x => cAt_rep]
    exact this
  obtain ⟨ρ', s', run, rfl, h, m, x4, t, k, rfl, hh, R, fin⟩ := loop _ _ _ ⟨rfl, h0, List.replicate n 0, none, _, 0, rfl, hl, by simp, R0, rfl⟩
  obtain ⟨v, ev, hv⟩ := max_all (m := h) (by omega)
  rcases fin with rest | ⟨⟨x, hx, h2⟩, all⟩
  · have lt : v < 2 := by
      have : ¬ 1 < v := fun z => by
        obtain ⟨x, hx, h2⟩ := hv.mp z
        have := rest x (by omega)
        omega
      omega
    exact ⟨some h, .inl ⟨h, m, t, k, R, hh, rest, rfl⟩, lring_go hn run (by simp [resD, ev, lt])⟩
  · have lt : ¬ v < 2 := by
      have := hv.mpr ⟨x, by omega, h2⟩
      omega
    exact ⟨none, .inr ⟨_, _, t, k, R, all, rfl⟩, lring_go hn run (by simp [resD, ev, lt])⟩
theorem rings {n : Nat} {h0 : List Int} (h3 : 3 ≤ n) (hn : n ≤ 1000) (hl : h0.length = n) (hc : ∀ x, x < n → 0 ≤ cAt h0 x) : ∃ r, RingRes n h0 r ∧ m_lring [.int n, .list (inZ h0)] = some (resD r) ∧ m_ring_end [.int n, .tuple (inZ h0)] = some (resD r) := by
  obtain ⟨r, a, b⟩ := lring_eq h3 hn hl hc
  obtain ⟨r', a', b'⟩ := ring_end_eq h3 hn hl hc
  rw [a'.same h3 a] at b'
  exact ⟨r, a, b, b'⟩
theorem ok_res (r : Option (List Int)) : okD 1 (resD r) = true := by
  cases r with
  | none => rfl
  | some h => exact ok_inT h
end K00
/-! grains that go by pointers -/
namespace K00
open PySem PySem.Spec PyProof.Rows L2 GF
def walkP (taken : List Int) : Nat → ID → Int → Option (ID × Int)
  | 0, _, _ => none
  | f + 1, ps, x => if x ∈ taken then walkP taken f (putP ps x (-((getP ps x).getD 1))) (x + (getP ps x).getD 1) else some (ps, x)
def goP : Nat → Option (List Int × ID)
  | 0 => some ([], [])
  | k + 1 => (goP k).bind fun st => (walkP st.1 20000 st.2 0).map fun r => (st.1 ++ [r.2], r.1)
def sumL (T : List Int) (g : Int → Int) : Int := (T.map g).sum
theorem sumL_same {T : List Int} {g g' : Int → Int} {x : Int} (hx : x ∉ T) (h : ∀ y, y ≠ x → g' y = g y) : sumL T g' = sumL T g := by
  unfold sumL
  rw [List.map_congr_left fun y hy => h y fun e => hx (e ▸ hy)]
theorem sumL_one {g g' : Int → Int} {x : Int} (h : ∀ y, y ≠ x → g' y = g y) : ∀ {T : List Int}, T.Nodup → x ∈ T → sumL T g' = sumL T g + (g' x - g x)
  | [], _, hx => by cases hx
  | y :: T, hn, hx => by
    obtain ⟨n1, n2⟩ := List.nodup_cons.mp hn
    show g' y + sumL T g' = g y + sumL T g + _
    rcases List.mem_cons.mp hx with rfl | hx
    · rw [sumL_same n1 h]; omega
    · have ne : y ≠ x := fun e => n1 (e ▸ hx)
      rw [sumL_one h n2 hx, h y ne]; omega
theorem sumL_bnd {g : Int → Int} {B : Int} : ∀ {T : List Int}, (∀ y ∈ T, -B ≤ g y ∧ g y ≤ B) → -(B * T.length) ≤ sumL T g ∧ sumL T g ≤ B * T.length
  | [], _ => by unfold sumL; simp
  | y :: T, h => by
    have h1 := h y List.mem_cons_self
    have h2 := sumL_bnd (T := T) fun z hz => h z (List.mem_cons_of_mem _ hz)
    show -(B * ((T.length + 1 : Nat) : Int)) ≤ g y + sumL T g ∧ g y + sumL T g ≤ B * ((T.length + 1 : Nat) : Int)
    rw [Int.natCast_succ, Int.mul_add, Int.mul_one]
    omega
def ptr (ps : ID) (y : Int) : Int := (getP ps y).getD 1
def Pm (ps : ID) : Prop := ∀ y, ptr ps y = 1 ∨ ptr ps y = -1
theorem ptr_put {ps : ID} {x v y : Int} : ptr (putP ps x v) y = if y = x then v else ptr ps y := by
  unfold ptr
  rw [getP_put]
  split <;> rfl
theorem Pm.put {ps : ID} (h : Pm ps) (x : Int) : Pm (putP ps x (-(ptr ps x))) := fun y => by
  rw [ptr_put]
  split
  · have := h x; omega
  · exact h y
def Qp (T : List Int) (ps : ID) (x : Int) : Int := x * x + sumL T fun y => y * ptr ps y
theorem Qp_step {T : List Int} {ps : ID} {x : Int} (hn : T.Nodup) (hp : Pm ps) (hx : x ∈ T) : Qp T (putP ps x (-(ptr ps x))) (x + ptr ps x) = Qp T ps x + 1 := by
  unfold Qp
  rw [sumL_one (g := fun y => y * ptr ps y) (x := x) (fun y hy => by rw [ptr_put, if_neg hy]) hn hx, ptr_put, if_pos rfl]
  rcases hp x with e | e <;> rw [e] <;> grind
theorem sq_le {x : Int} {L : Nat} (h1 : -(L : Int) ≤ x) (h2 : x ≤ L) : x * x ≤ L * L := by
  by_cases hx : 0 ≤ x
  · exact Int.mul_le_mul h2 h2 hx (by omega)
  · have h : (-x) * (-x) ≤ (L : Int) * L := Int.mul_le_mul (by omega) (by omega) (by omega) (by omega)
    rw [Int.neg_mul_neg] at h
    exact h
theorem Qp_bnd {T : List Int} {ps : ID} {x : Int} {L : Nat} (hp : Pm ps) (hT : ∀ y ∈ T, -(L : Int) ≤ y ∧ y ≤ L) : -((L : Int) * T.length) ≤ Qp T ps x ∧ (x ∈ T → Qp T ps x ≤ L * L + L * T.length) := by
  have b := sumL_bnd (g := fun y => y * ptr ps y) (B := L) (T := T) fun y hy => by
    have := hT y hy
    rcases hp y with e | e <;> show _ ≤ y * ptr ps y ∧ y * ptr ps y ≤ _ <;> rw [e] <;> omega
  unfold Qp
  refine ⟨?_, fun hx => ?_⟩
  · have : 0 ≤ x * x := by
      rcases Int.le_total 0 x with h | h
      · exact Int.mul_nonneg h h
      · exact Int.mul_nonneg_of_nonpos_of_nonpos h h
    omega
  · have := hT x hx
    have := sq_le this.1 this.2
    omega
theorem walk_ends {T : List Int} {L : Nat} (hn : T.Nodup) (hT : ∀ y ∈ T, -(L : Int) ≤ y ∧ y ≤ L) : ∀ (f : Nat) (ps : ID) (x : Int), Pm ps → -(L + 1 : Int) ≤ x ∧ x ≤ L + 1 → ((L : Int) * L + L * T.length + 1 - Qp T ps x).toNat ≤ f → ∃ r, walkP T (f + 1) ps x = some r ∧ Pm r.1 ∧ r.2 ∉ T ∧ -(L + 1 : Int) ≤ r.2 ∧ r.2 ≤ L + 1
  | f, ps, x, hp, hx, hf => by
    by_cases hm : x ∈ T
    · have b := (Qp_bnd (x := x) hp hT).2 hm
      have st := Qp_step hn hp hm
      cases f with
      | zero => omega
      | succ f =>
        have hx' := hT x hm
        obtain ⟨r, e, k1, k2, k3⟩ := walk_ends hn hT f (putP ps x (-(ptr ps x))) (x + ptr ps x) (hp.put x) (by rcases hp x with e | e <;> rw [e] <;> omega) (by omega)
        refine ⟨r, ?_, k1, k2, k3⟩
        rw [walkP, if_pos hm]; exact e
    · refine ⟨(ps, x), ?_, hp, hm, hx⟩
      rw [walkP, if_neg hm]
theorem goP_inv : ∀ {k : Nat}, k ≤ 60 → ∃ r, goP k = some r ∧ r.1.Nodup ∧ r.1.length = k ∧ (∀ y ∈ r.1, -(k : Int) ≤ y ∧ y ≤ k) ∧ Pm r.2
  | 0, _ => ⟨([], []), rfl, .nil, rfl, fun y h => (by cases h), fun y => Or.inl rfl⟩
  | k + 1, hk => by
    obtain ⟨r, e, h1, h2, h3, h4⟩ := goP_inv (k := k) (by omega)
    have b := (Qp_bnd (x := 0) h4 h3).1
    have m1 : (k : Int) * k ≤ 60 * 60 := Int.mul_le_mul (by omega) (by omega) (by omega) (by omega)
    rw [h2] at b
    obtain ⟨q, e2, k1, k2, k3⟩ := walk_ends h1 h3 19999 r.2 0 h4 (by omega) (by rw [h2]; omega)
    refine ⟨(r.1 ++ [q.2], q.1), ?_, ?_, ?_, fun y hy => ?_, k1⟩
    · rw [goP, e]
      show (walkP r.1 20000 r.2 0).map _ = _
      rw [show walkP r.1 20000 r.2 0 = some q from e2]; rfl
    · rw [List.nodup_append]
      refine ⟨h1, by simp, fun a ha b hb => ?_⟩
      rw [List.mem_singleton.mp hb]
      exact fun z => k2 (z ▸ ha)
    · rw [List.length_append, h2]; rfl
    · rcases List.mem_append.mp hy with hy | hy
      · have := h3 y hy; omega
      · rw [List.mem_singleton.mp hy]; omega
theorem goP_some {k : Nat} (h : k ≤ 60) : ∃ r, goP k = some r := by
  obtain ⟨r, e, _⟩ := goP_inv h
  exact ⟨r, e⟩
theorem goP_len : ∀ {k : Nat} {r : List Int × ID}, goP k = some r → r.1.length = k
  | 0, r, h => by cases h; rfl
  | k + 1, r, h => by
    unfold goP at h
    obtain ⟨st, e1, h⟩ := Option.bind_eq_some_iff.mp h
    obtain ⟨q, e2, rfl⟩ := Option.map_eq_some_iff.mp h
    rw [List.length_append, goP_len e1]; rfl
/-- how many pointers there may be -/
theorem walk_keys {taken : List Int} : ∀ {f : Nat} {ps : ID} {x : Int} {r : ID × Int}, walkP taken f ps x = some r → r.1.length ≤ ps.length + f
  | 0, _, _, _, h => by cases h
  | f + 1, ps, x, r, h => by
    unfold walkP at h
    split at h
    · have := walk_keys h
      have := len_put ps x (-((getP ps x).getD 1))
      omega
    · cases h; show ps.length ≤ _; omega
theorem goP_keys : ∀ {k : Nat} {r : List Int × ID}, goP k = some r → r.2.length ≤ k * 20000
  | 0, r, h => by cases h; exact Nat.le_refl _
  | k + 1, r, h => by
    unfold goP at h
    obtain ⟨st, e1, h⟩ := Option.bind_eq_some_iff.mp h
    obtain ⟨q, e2, rfl⟩ := Option.map_eq_some_iff.mp h
    have := goP_keys e1
    have := walk_keys e2
    show q.1.length ≤ _
    omega
theorem ptr_while {taken : List Int} {x0 x3 : Option Sl} (s : DS) : ∀ (f : Nat) (ps : ID) (x : Int) (x5 : Option Sl) (r : ID × Int), ps.length + f < 16777216 → walkP taken f ps x = some r →
    ∃ y5, dWhile f (dBwT (dTest (dOp mIn (dVar 4) (dVar 1)))) (d_pointer_line_1 0) [x0, some (.ml (inZ taken)), some (.md (kP ps)), x3, some (.im (.int x)), x5] s = some (.nx [x0, some (.ml (inZ taken)), some (.md (kP r.1)), x3, some (.im (.int r.2)), y5] s)
  | 0, _, _, _, _, _, h => by cases h
  | f + 1, ps, x, x5, r, hl, h => by
    unfold walkP at h
    have lp := len_put ps x (-((getP ps x).getD 1))
    have l1 : ps.length < 16777216 := by omega
    by_cases hx : x ∈ taken
    · rw [if_pos hx] at h
      obtain ⟨y5, e⟩ := ptr_while s f _ _ (some (.im (.int ((getP ps x).getD 1)))) r (by omega) h
      refine ⟨y5, ?_⟩
      unfold dWhile
      have t : dBwT (dTest (dOp mIn (dVar 4) (dVar 1))) [x0, some (.ml (inZ taken)), some (.md (kP ps)), x3, some (.im (.int x)), x5] s = some (true, s) := by simp [mIn_inZ, hx]
      have b : d_pointer_line_1 0 [x0, some (.ml (inZ taken)), some (.md (kP ps)), x3, some (.im (.int x)), x5] s = some (.nx [x0, some (.ml (inZ taken)), some (.md (kP (putP ps x (-((getP ps x).getD 1))))), x3, some (.im (.int (x + (getP ps x).getD 1))), some (.im (.int ((getP ps x).getD 1)))] s) := by
        unfold d_pointer_line_1
        simp [l1]
      rw [t]
      show (d_pointer_line_1 0 _ s).bind _ = _
      rw [b]
      exact e
    · rw [if_neg hx] at h
      cases h
      refine ⟨x5, ?_⟩
      unfold dWhile
      have t : dBwT (dTest (dOp mIn (dVar 4) (dVar 1))) [x0, some (.ml (inZ taken)), some (.md (kP ps)), x3, some (.im (.int x)), x5] s = some (false, s) := by simp [mIn_inZ, hx]
      rw [t]; rfl
theorem pointer_line_eq {k : Nat} (hk : k ≤ 60) : ∃ r, goP k = some r ∧ m_pointer_line [.int k] = some (.list (inZ r.1)) := by
  obtain ⟨r, hr⟩ := goP_some hk
  refine ⟨r, hr, ?_⟩
  have loop := run_for (G := d_pointer_line_2) (hx := hN 3) (fs := dRng1 (dCons (dVar 0) dNil)) (ds := inZ (rangeI 0 k)) (ρ := [some (.im (.int k)), some (.ml []), some (.md []), none, none, none]) (s := (([], 0) : DS)) (s1 := ([], 0)) mono_d_pointer_line_2
    (fun j ρ s => s = ([], 0) ∧ j ≤ k ∧ ∃ r y3 y4 y5, goP j = some r ∧ ρ = [some (.im (.int k)), some (.ml (inZ r.1)), some (.md (kP r.2)), y3, y4, y5])
    (by have : k < 2 ^ 62 := by omega
        simp [this]; rfl)
    (fun j d ρ s hd I => by
      obtain ⟨rfl, hj, r, y3, y4, y5, hg, rfl⟩ := I
      have lt : j < (rangeI 0 k).length := by
        have := (List.getElem?_eq_some_iff.mp hd).1
        simpa using this
      rw [range_len] at lt
      have lt' : j + 1 ≤ k := by omega
      obtain ⟨r', hr'⟩ := goP_some (k := j + 1) (by omega)
      have hw := hr'
      unfold goP at hw
      obtain ⟨st, e1, hw⟩ := Option.bind_eq_some_iff.mp hw
      rw [hg] at e1; cases e1
      obtain ⟨q, e2, e3⟩ := Option.map_eq_some_iff.mp hw
      have l1 := goP_len hg
      have l2 := goP_keys hg
      obtain ⟨z5, ew⟩ := ptr_while (x0 := some (.im (.int k))) (x3 := some (.im d)) (([], 0) : DS) 20000 r.2 0 y5 q (by omega) e2
      refine ⟨[some (.im (.int k)), some (.ml (inZ r.1)), some (.md (kP r.2)), some (.im d), y4, y5], _, ([], 0), rfl, .inl ?_, rfl, lt', r', some (.im d), some (.im (.int q.2)), z5, hr', rfl⟩
      refine run_seq0 (ρ1 := [some (.im (.int k)), some (.ml (inZ r.1)), some (.md (kP r.2)), some (.im d), some (.im (.int 0)), y5]) (s1 := ([], 0)) (by simp) ?_
      refine run_seqL ⟨20000, ew⟩ ?_
      have l3 : r.1.length < 16777216 := by omega
      rw [← e3]
      simp [l3])
    ⟨rfl, Nat.zero_le _, ([], []), none, none, none, rfl, rfl⟩
  obtain ⟨ρ', s', run, rfl, hj, r', y3, y4, y5, hg, rfl⟩ := loop
  rw [inZ_len, range_len, show ((k : Int) - 0).toNat = k by omega, hr] at hg
  cases hg
  refine tells_run mono_d_pointer_line (s' := ([], 0)) ?_
  refine run_seq0 (ρ1 := [some (.im (.int k)), some (.ml []), none, none, none, none]) (s1 := ([], 0)) (by simp) ?_
  refine run_seq0 (ρ1 := [some (.im (.int k)), some (.ml []), some (.md []), none, none, none]) (s1 := ([], 0)) (by simp) ?_
  exact run_seqL run (by simp)

theorem lptr_while {taken : List Int} {x0 x1 : Option Sl} (s : DS) : ∀ (f : Nat) (ps : ID) (x : Int) (x5 : Option Sl) (r : ID × Int), ps.length + f < 16777216 → walkP taken f ps x = some r →
    ∃ y5, dWhile f (dBwT (dTest (dOp mIn (dVar 4) (dVar 2)))) (d__law_pointers_1 0) [x0, x1, some (.ml (inZ taken)), some (.md (kP ps)), some (.im (.int x)), x5] s = some (.nx [x0, x1, some (.ml (inZ taken)), some (.md (kP r.1)), some (.im (.int r.2)), y5] s)
  | 0, _, _, _, _, _, h => by cases h
  | f + 1, ps, x, x5, r, hl, h => by
    unfold walkP at h
    have lp := len_put ps x (-((getP ps x).getD 1))
    have l1 : ps.length < 16777216 := by omega
    by_cases hx : x ∈ taken
    · rw [if_pos hx] at h
      obtain ⟨y5, e⟩ := lptr_while s f _ _ (some (.im (.int ((getP ps x).getD 1)))) r (by omega) h
      refine ⟨y5, ?_⟩
      unfold dWhile
      have t : dBwT (dTest (dOp mIn (dVar 4) (dVar 2))) [x0, x1, some (.ml (inZ taken)), some (.md (kP ps)), some (.im (.int x)), x5] s = some (true, s) := by simp [mIn_inZ, hx]
      have b : d__law_pointers_1 0 [x0, x1, some (.ml (inZ taken)), some (.md (kP ps)), some (.im (.int x)), x5] s = some (.nx [x0, x1, some (.ml (inZ taken)), some (.md (kP (putP ps x (-((getP ps x).getD 1))))), some (.im (.int (x + (getP ps x).getD 1))), some (.im (.int ((getP ps x).getD 1)))] s) := by
        unfold d__law_pointers_1
        simp [l1]
      rw [t]
      show (d__law_pointers_1 0 _ s).bind _ = _
      rw [b]
      exact e
    · rw [if_neg hx] at h
      cases h
      refine ⟨x5, ?_⟩
      unfold dWhile
      have t : dBwT (dTest (dOp mIn (dVar 4) (dVar 2))) [x0, x1, some (.ml (inZ taken)), some (.md (kP ps)), some (.im (.int x)), x5] s = some (false, s) := by simp [mIn_inZ, hx]
      rw [t]; rfl
theorem lpointers_eq {k : Nat} (hk : k ≤ 60) : ∃ r, goP k = some r ∧ m_lpointers [.int k] = some (.list (inZ r.1)) := by
  obtain ⟨r, hr⟩ := goP_some hk
  refine ⟨r, hr, ?_⟩
  have loop := run_for (G := d__law_pointers_2) (hx := hN 1) (fs := dRng1 (dCons (dVar 0) dNil)) (ds := inZ (rangeI 0 k)) (ρ := [some (.im (.int k)), none, some (.ml []), some (.md []), none, none]) (s := (([], 0) : DS)) (s1 := ([], 0)) mono_d__law_pointers_2
    (fun j ρ s => s = ([], 0) ∧ j ≤ k ∧ ∃ r y1 y4 y5, goP j = some r ∧ ρ = [some (.im (.int k)), y1, some (.ml (inZ r.1)), some (.md (kP r.2)), y4, y5])
    (by have : k < 2 ^ 62 := by omega
        simp [this]; rfl)
    (fun j d ρ s hd I => by
      obtain ⟨rfl, hj, r, y1, y4, y5, hg, rfl⟩ := I
      have lt : j < (rangeI 0 k).length := by
        have := (List.getElem?_eq_some_iff.mp hd).1
        simpa using this
      rw [range_len] at lt
      have lt' : j + 1 ≤ k := by omega
      obtain ⟨r', hr'⟩ := goP_some (k := j + 1) (by omega)
      have hw := hr'
      unfold goP at hw
      obtain ⟨st, e1, hw⟩ := Option.bind_eq_some_iff.mp hw
      rw [hg] at e1; cases e1
      obtain ⟨q, e2, e3⟩ := Option.map_eq_some_iff.mp hw
      have l1 := goP_len hg
      have l2 := goP_keys hg
      obtain ⟨z5, ew⟩ := lptr_while (x0 := some (.im (.int k))) (x1 := some (.im d)) (([], 0) : DS) 20000 r.2 0 y5 q (by omega) e2
      refine ⟨[some (.im (.int k)), some (.im d), some (.ml (inZ r.1)), some (.md (kP r.2)), y4, y5], _, ([], 0), rfl, .inl ?_, rfl, lt', r', some (.im d), some (.im (.int q.2)), z5, hr', rfl⟩
      refine run_seq0 (ρ1 := [some (.im (.int k)), some (.im d), some (.ml (inZ r.1)), some (.md (kP r.2)), some (.im (.int 0)), y5]) (s1 := ([], 0)) (by simp) ?_
      refine run_seqL ⟨20000, ew⟩ ?_
      have l3 : r.1.length < 16777216 := by omega
      rw [← e3]
      simp [l3])
    ⟨rfl, Nat.zero_le _, ([], []), none, none, none, rfl, rfl⟩
  obtain ⟨ρ', s', run, rfl, hj, r', y3, y4, y5, hg, rfl⟩ := loop
  rw [inZ_len, range_len, show ((k : Int) - 0).toNat = k by omega, hr] at hg
  cases hg
  refine tells_run mono_d__law_pointers (s' := ([], 0)) ?_
  refine run_seq0 (ρ1 := [some (.im (.int k)), none, some (.ml []), some (.md []), none, none]) (s1 := ([], 0)) (by simp [setAll]) ?_
  exact run_seqL run (by simp)
theorem pointers {k : Nat} (hk : k ≤ 60) : ∃ r : List Int, m_pointer_line [.int k] = some (.list (inZ r)) ∧ m_lpointers [.int k] = some (.list (inZ r)) := by
  obtain ⟨r, e1, e2⟩ := pointer_line_eq hk
  obtain ⟨r', e1', e2'⟩ := lpointers_eq hk
  rw [e1] at e1'
  cases e1'
  exact ⟨r.1, e2, e2'⟩
theorem pointers_five : m_pointer_line [.int 5] = some (.list (inZ [0, 1, -1, 2, -2])) := by
  obtain ⟨r, e1, e2⟩ := pointer_line_eq (k := 5) (by decide)
  have e : (goP 5).map (·.1) = some [0, 1, -1, 2, -2] := by decide +kernel
  rw [e1] at e
  rw [← Option.some.inj e]
  exact e2
end K00
/-! piles on the line -/
namespace K00
open GF
structure LI (c0 c u : Int → Int) : Prop where
  cons : ∀ x, c x = c0 x - 2 * u x + u (x - 1) + u (x + 1)
  cn : ∀ x, 0 ≤ c x
  un : ∀ x, 0 ≤ u x
  least : ∀ v : Int → Int, (∀ x, c0 x - 2 * v x + v (x - 1) + v (x + 1) ≤ 1) → (∀ x, 0 ≤ v x) → ∀ x, u x ≤ v x
theorem LI.start {c0 : Int → Int} (h : ∀ x, 0 ≤ c0 x) : LI c0 c0 (fun _ => 0) := ⟨fun x => by omega, h, fun _ => by omega, fun v _ hv x => hv x⟩
theorem LI.move {c0 c u c' u' : Int → Int} {p m : Int} (L : LI c0 c u) (hm : 0 ≤ m) (h2 : 2 * m ≤ c p) (hc : ∀ x, c' x = c x - (if x = p then 2 * m else 0) + (if x = p - 1 then m else 0) + (if x = p + 1 then m else 0)) (hu : ∀ x, u' x = u x + if x = p then m else 0) : LI c0 c' u' := by
  refine ⟨fun x => ?_, fun x => ?_, fun x => ?_, fun v hv vn x => ?_⟩
  · rw [hc x, hu x, hu (x - 1), hu (x + 1), L.cons x]
    repeat' split
    all_goals omega
  · rw [hc x]
    have := L.cn x
    split
    · rename_i e; subst e; rw [if_neg (by omega), if_neg (by omega)]; omega
    · repeat' split
      all_goals omega
  · rw [hu x]
    have := L.un x
    split <;> omega
  · rw [hu x]
    have l := L.least v hv vn x
    split
    · rename_i e; subst e
      have a := hv x
      have b := L.cons x
      have l1 := L.least v hv vn (x - 1)
      have l2 := L.least v hv vn (x + 1)
      omega
    · omega
theorem LI.same {c0 c u c' u' : Int → Int} (L : LI c0 c u) (L' : LI c0 c' u') (h : ∀ x, c x ≤ 1) (h' : ∀ x, c' x ≤ 1) : ∀ x, c x = c' x ∧ u x = u' x := by
  have a := L.least u' (fun x => by have := L'.cons x; have := h' x; omega) L'.un
  have b := L'.least u (fun x => by have := L.cons x; have := h x; omega) L.un
  have e : ∀ x, u x = u' x := fun x => Int.le_antisymm (a x) (b x)
  intro x
  exact ⟨by rw [L.cons x, L'.cons x, e x, e (x - 1), e (x + 1)], e x⟩
/-- a book that brings every pile of ours to rest -/
def tri (t : Int) : Int := if 0 ≤ t then t * (t + 1) / 2 else 0
theorem tri_step {t : Int} (h : 0 ≤ t) : tri (t + 1) = tri t + (t + 1) := by
  unfold tri
  rw [if_pos h, if_pos (by omega)]
  have e : (t + 1) * (t + 1 + 1) = t * (t + 1) + 2 * (t + 1) := by grind
  rw [e]
  omega
theorem tri_nn (t : Int) : 0 ≤ tri t := by
  unfold tri
  split
  · have : 0 ≤ t * (t + 1) := Int.mul_nonneg (by omega) (by omega)
    omega
  · omega
def V (x : Int) : Int := if -10 ≤ x ∧ x ≤ 10 then 211485 - 30 * (x * x) - 15 * x.natAbs else tri (655 - x.natAbs)
theorem V_nn (x : Int) : 0 ≤ V x := by
  unfold V
  split
  · rename_i h
    have := sq_le (x := x) (L := 10) (by omega) (by omega)
    omega
  · exact tri_nn _
theorem V_out {x : Int} (h : x ≤ -655 ∨ 655 ≤ x) : V x = 0 := by
  unfold V
  rw [if_neg (by omega)]
  unfold tri
  split
  · rw [show (655 - (x.natAbs : Int)) = 0 by omega]; rfl
  · rfl
def Few (c0 : Int → Int) : Prop := ∀ x, 0 ≤ c0 x ∧ c0 x ≤ 90 ∧ (x ≠ 0 → c0 x ≤ 60) ∧ ((x < -10 ∨ 10 < x) → c0 x = 0)
theorem V_tail {x : Int} (h : 10 ≤ x) (h2 : x ≤ 655) : V x = tri (655 - x) := by
  unfold V
  split
  · have : x = 10 := by omega
    subst this
    decide +kernel
  · congr 1; omega
theorem V_neg (x : Int) : V (-x) = V x := by
  unfold V
  rw [Int.neg_mul_neg, Int.natAbs_neg]
  by_cases h : -10 ≤ x ∧ x ≤ 10
  · rw [if_pos h, if_pos (by omega)]
  · rw [if_neg h, if_neg (by omega)]
theorem V_ok {c0 : Int → Int} (h : Few c0) (x : Int) : c0 x - 2 * V x + V (x - 1) + V (x + 1) ≤ 1 := by
  obtain ⟨h1, h2, h2', h3⟩ := h x
  have key : ∀ y : Int, 0 ≤ y → (y = 0 → V (y - 1) + V (y + 1) - 2 * V y ≤ -90) ∧ (0 < y → y ≤ 10 → V (y - 1) + V (y + 1) - 2 * V y ≤ -60) ∧ (10 < y → V (y - 1) + V (y + 1) - 2 * V y ≤ 1) := fun y hy => by
    refine ⟨fun h0 => (by subst h0; decide +kernel), fun h0 h10 => ?_, fun h10 => ?_⟩
    · by_cases e : y = 10
      · subst e; decide +kernel
      · unfold V
        rw [if_pos (by omega), if_pos (by omega), if_pos (by omega)]
        have : (y - 1) * (y - 1) + (y + 1) * (y + 1) = 2 * (y * y) + 2 := by grind
        omega
    · by_cases h655 : y < 655
      · rw [V_tail (x := y - 1) (by omega) (by omega), V_tail (x := y) (by omega) (by omega), V_tail (x := y + 1) (by omega) (by omega)]
        have a := tri_step (t := 655 - (y + 1)) (by omega)
        have b := tri_step (t := 655 - y) (by omega)
        rw [show 655 - (y + 1) + 1 = 655 - y by omega] at a
        rw [show 655 - y + 1 = 655 - (y - 1) by omega] at b
        omega
      · rw [V_out (x := y) (by omega), V_out (x := y + 1) (by omega)]
        by_cases e : y = 655
        · subst e
          rw [V_tail (x := 655 - 1) (by omega) (by omega)]
          decide +kernel
        · rw [V_out (x := y - 1) (by omega)]; omega
  by_cases hx : 0 ≤ x
  · obtain ⟨k0, k1, k2⟩ := key x hx
    by_cases e0 : x = 0
    · have := k0 e0; omega
    · by_cases h10 : x ≤ 10
      · have := k1 (by omega) h10
        have := h2' e0
        omega
      · have := k2 (by omega)
        have := h3 (by omega)
        omega
  · obtain ⟨k0, k1, k2⟩ := key (-x) (by omega)
    rw [show -x - 1 = -(x + 1) by omega, show -x + 1 = -(x - 1) by omega, V_neg, V_neg, V_neg] at k1 k2
    by_cases h10 : -10 ≤ x
    · have := k1 (by omega) (by omega)
      have := h2' (by omega)
      omega
    · have := k2 (by omega)
      have := h3 (by omega)
      omega
/-- how much is still to come -/
def rest (u : Int → Int) : Int := sumN 1311 fun i => V ((i : Int) - 655) - u ((i : Int) - 655)
theorem LI.le {c0 c u : Int → Int} (h : Few c0) (L : LI c0 c u) (x : Int) : u x ≤ V x := L.least V (V_ok h) V_nn x
theorem LI.rest {c0 c u : Int → Int} (h : Few c0) (L : LI c0 c u) : 0 ≤ rest u := sumN_nonneg fun i _ => by have := L.le h ((i : Int) - 655); omega
theorem rest_move {u u' : Int → Int} {p m : Int} (hp : -655 ≤ p ∧ p ≤ 655) (hu : ∀ x, u' x = u x + if x = p then m else 0) : rest u' = rest u - m := by
  unfold rest
  have e : (p + 655).toNat < 1311 := by omega
  rw [show sumN 1311 (fun i => V ((i : Int) - 655) - u ((i : Int) - 655)) - m = sumN 1311 (fun i => (V ((i : Int) - 655) - u ((i : Int) - 655)) + (if i = (p + 655).toNat then -m else 0)) by rw [sumN_add, sumN_at e]; omega]
  refine sumN_congr fun i hi => ?_
  rw [hu]
  by_cases g : (i : Int) - 655 = p
  · rw [if_pos g, if_pos (by omega)]; omega
  · rw [if_neg g, if_neg (by omega)]; omega
/-! dicts -/
def gz (ps : ID) (x : Int) : Int := (getP ps x).getD 0
theorem gz_put {ps : ID} {x v y : Int} : gz (putP ps x v) y = if y = x then v else gz ps y := by
  unfold gz
  rw [getP_put]
  split <;> rfl
theorem gz_none {ps : ID} {x : Int} (h : x ∉ keysP ps) : gz ps x = 0 := by unfold gz; rw [getP_none.mpr h]; rfl
theorem gz_some {ps : ID} {x : Int} (h : x ∈ keysP ps) : getP ps x = some (gz ps x) := by
  obtain ⟨v, e⟩ := getP_some h
  unfold gz; rw [e]; rfl
theorem keys_mem {ps : ID} {x v y : Int} : y ∈ keysP (putP ps x v) ↔ y = x ∨ y ∈ keysP ps := by
  rw [keys_put]
  split
  · rename_i h
    exact ⟨.inr, fun z => z.elim (fun e => e ▸ h) id⟩
  · rw [List.mem_append, List.mem_singleton]
    exact Or.comm
theorem keys_nd {ps : ID} {x v : Int} (h : (keysP ps).Nodup) : (keysP (putP ps x v)).Nodup := by
  rw [keys_put]
  split
  · exact h
  · rename_i hx
    rw [List.nodup_append]
    refine ⟨h, by simp, fun a ha b hb => ?_⟩
    rw [List.mem_singleton.mp hb]
    exact fun z => hx (z ▸ ha)
theorem nd_len : ∀ (n : Nat) (a : Int) (l : List Int), l.Nodup → (∀ x ∈ l, a ≤ x ∧ x < a + n) → l.length ≤ n
  | 0, a, l, _, h => by
    cases l with
    | nil => exact Nat.le_refl _
    | cons x l => have := h x List.mem_cons_self; omega
  | n + 1, a, l, hn, h => by
    have ih := nd_len n a (l.erase (a + n)) (hn.erase _) fun x hx => by
      obtain ⟨h1, h2⟩ := (List.Nodup.mem_erase_iff hn).mp hx
      have := h x h2
      omega
    rw [List.length_erase] at ih
    split at ih <;> omega
def mv (h : ID) (p m : Int) : ID := putP (putP (putP h p (gz h p - 2 * m)) (p - 1) (gz h (p - 1) + m)) (p + 1) (gz h (p + 1) + m)
theorem mv_at {h : ID} {p m x : Int} : gz (mv h p m) x = gz h x - (if x = p then 2 * m else 0) + (if x = p - 1 then m else 0) + (if x = p + 1 then m else 0) := by
  unfold mv
  rw [gz_put, gz_put, gz_put]
  by_cases e1 : x = p + 1
  · subst e1; rw [if_pos rfl, if_pos rfl, if_neg (by omega), if_neg (by omega)]; omega
  · rw [if_neg e1, if_neg e1]
    by_cases e2 : x = p - 1
    · subst e2; rw [if_pos rfl, if_pos rfl, if_neg (by omega)]; omega
    · rw [if_neg e2, if_neg e2]
      by_cases e3 : x = p
      · subst e3; rw [if_pos rfl, if_pos rfl]; omega
      · rw [if_neg e3, if_neg e3]; omega
structure LS (c0 : Int → Int) (h b : ID) : Prop where
  li : LI c0 (gz h) (gz b)
  hk : ∀ x ∈ keysP h, -655 ≤ x ∧ x ≤ 655
  hn : (keysP h).Nodup
  bk : ∀ x, x ∈ keysP b ↔ 0 < gz b x
  bn : (keysP b).Nodup
theorem LS.move {c0 : Int → Int} (F : Few c0) {h b : ID} {p m : Int} (L : LS c0 h b) (hm : 1 ≤ m) (h2 : 2 * m ≤ gz h p) : LS c0 (mv h p m) (putP b p (gz b p + m)) ∧ rest (gz (putP b p (gz b p + m))) = rest (gz b) - m := by
  have hu : ∀ x, gz (putP b p (gz b p + m)) x = gz b x + if x = p then m else 0 := fun x => by
    rw [gz_put]
    split
    · rename_i e; rw [e]
    · omega
  have li := L.li.move (p := p) (m := m) (by omega) h2 (fun x => mv_at) hu
  have hp : -655 < p ∧ p < 655 := by
    have a := li.le F p
    rw [hu, if_pos rfl] at a
    have b0 := L.li.un p
    refine ⟨?_, ?_⟩
    · refine Int.not_le.mp fun z => ?_
      rw [V_out (.inl z)] at a; omega
    · refine Int.not_le.mp fun z => ?_
      rw [V_out (.inr z)] at a; omega
  refine ⟨⟨li, fun x hx => ?_, keys_nd (keys_nd (keys_nd L.hn)), fun x => ?_, keys_nd L.bn⟩, rest_move (by omega) hu⟩
  · unfold mv at hx
    rw [keys_mem, keys_mem, keys_mem] at hx
    rcases hx with e | e | e | e
    · omega
    · omega
    · omega
    · exact L.hk x e
  · rw [keys_mem, hu, L.bk]
    have := L.li.un x
    split <;> omega
theorem LS.len {c0 : Int → Int} (F : Few c0) {h b : ID} (L : LS c0 h b) : h.length ≤ 1311 ∧ b.length ≤ 1311 := by
  refine ⟨?_, ?_⟩
  · have := nd_len 1311 (-655) (keysP h) L.hn fun x hx => by have := L.hk x hx; omega
    unfold keysP at this
    simpa using this
  · have := nd_len 1311 (-655) (keysP b) L.bn fun x hx => by
      have a := (L.bk x).mp hx
      have c := L.li.le F x
      refine ⟨Int.not_lt.mp fun z => ?_, Int.not_le.mp fun z => ?_⟩
      · rw [V_out (.inl (by omega))] at c; omega
      · rw [V_out (.inr (by omega))] at c; omega
    unfold keysP at this
    simpa using this

/-! how often there may be moves -/
def En (c : Int → Int) : Int := sumN 1311 fun i => ((i : Int) - 655) * ((i : Int) - 655) * c ((i : Int) - 655)
def Nm (c : Int → Int) : Int := sumN 1311 fun i => c ((i : Int) - 655)
theorem En_le {c : Int → Int} (h : ∀ x, 0 ≤ c x) : 0 ≤ En c ∧ En c ≤ 429025 * Nm c := by
  have sq : ∀ i : Nat, i < 1311 → 0 ≤ ((i : Int) - 655) * ((i : Int) - 655) ∧ ((i : Int) - 655) * ((i : Int) - 655) ≤ 429025 := fun i hi => by
    refine ⟨?_, ?_⟩
    · rcases Int.le_total 0 ((i : Int) - 655) with z | z
      · exact Int.mul_nonneg z z
      · exact Int.mul_nonneg_of_nonpos_of_nonpos z z
    · have := sq_le (x := (i : Int) - 655) (L := 655) (by omega) (by omega)
      omega
  refine ⟨sumN_nonneg fun i hi => Int.mul_nonneg (sq i hi).1 (h _), ?_⟩
  have e : (429025 : Int) * Nm c = sumN 1311 fun i => 429025 * c ((i : Int) - 655) := by
    unfold Nm
    generalize 1311 = n
    induction n with
    | zero => rfl
    | succ n ih =>
      show 429025 * (sumN n _ + c ((n : Int) - 655)) = sumN n _ + 429025 * c ((n : Int) - 655)
      rw [← ih]; omega
  rw [e]
  exact sumN_le fun i hi => Int.mul_le_mul_of_nonneg_right (sq i hi).2 (h _)
theorem En_move {h : ID} {p m : Int} (hp : -655 < p ∧ p < 655) : En (gz (mv h p m)) = En (gz h) + 2 * m ∧ Nm (gz (mv h p m)) = Nm (gz h) := by
  have p0 : (p + 655).toNat < 1311 := by omega
  have p1 : (p - 1 + 655).toNat < 1311 := by omega
  have p2 : (p + 1 + 655).toNat < 1311 := by omega
  have q0 : (((p + 655).toNat : Nat) : Int) - 655 = p := by omega
  refine ⟨?_, ?_⟩
  · have e : En (gz (mv h p m)) = sumN 1311 fun i => ((i : Int) - 655) * ((i : Int) - 655) * gz h ((i : Int) - 655) + (if i = (p + 655).toNat then -2 * (p * p * m) else 0) + (if i = (p - 1 + 655).toNat then (p - 1) * (p - 1) * m else 0) + (if i = (p + 1 + 655).toNat then (p + 1) * (p + 1) * m else 0) := by
      refine sumN_congr fun i hi => ?_
      rw [mv_at]
      by_cases g0 : (i : Int) - 655 = p
      · rw [if_pos g0, if_neg (by omega), if_neg (by omega), if_pos (show i = (p + 655).toNat by omega), if_neg (by omega), if_neg (by omega), g0]; grind
      · rw [if_neg g0, if_neg (show ¬ i = (p + 655).toNat by omega)]
        by_cases g1 : (i : Int) - 655 = p - 1
        · rw [if_pos g1, if_neg (by omega), if_pos (show i = (p - 1 + 655).toNat by omega), if_neg (by omega), g1]; grind
        · rw [if_neg g1, if_neg (show ¬ i = (p - 1 + 655).toNat by omega)]
          by_cases g2 : (i : Int) - 655 = p + 1
          · rw [if_pos g2, if_pos (show i = (p + 1 + 655).toNat by omega), g2]; grind
          · rw [if_neg g2, if_neg (show ¬ i = (p + 1 + 655).toNat by omega)]; grind
    rw [e, sumN_add, sumN_add, sumN_add, sumN_at p0, sumN_at p1, sumN_at p2]
    show En (gz h) + _ + _ + _ = _
    grind
  · have e : Nm (gz (mv h p m)) = sumN 1311 fun i => gz h ((i : Int) - 655) + (if i = (p + 655).toNat then -2 * m else 0) + (if i = (p - 1 + 655).toNat then m else 0) + (if i = (p + 1 + 655).toNat then m else 0) := by
      refine sumN_congr fun i hi => ?_
      rw [mv_at]
      by_cases g0 : (i : Int) - 655 = p
      · rw [if_pos g0, if_neg (by omega), if_neg (by omega), if_pos (show i = (p + 655).toNat by omega), if_neg (by omega), if_neg (by omega)]; omega
      · rw [if_neg g0, if_neg (show ¬ i = (p + 655).toNat by omega)]
        by_cases g1 : (i : Int) - 655 = p - 1
        · rw [if_pos g1, if_neg (by omega), if_pos (show i = (p - 1 + 655).toNat by omega), if_neg (by omega)]; omega
        · rw [if_neg g1, if_neg (show ¬ i = (p - 1 + 655).toNat by omega)]
          by_cases g2 : (i : Int) - 655 = p + 1
          · rw [if_pos g2, if_pos (show i = (p + 1 + 655).toNat by omega)]; omega
          · rw [if_neg g2, if_neg (show ¬ i = (p + 1 + 655).toNat by omega)]; omega
    rw [e, sumN_add, sumN_add, sumN_add, sumN_at p0, sumN_at p1, sumN_at p2]
    show Nm (gz h) + _ + _ + _ = _
    omega
/-- who moves stands within -/
theorem LS.place {c0 : Int → Int} (F : Few c0) {h b : ID} {p m : Int} (L : LS c0 h b) (hm : 1 ≤ m) (h2 : 2 * m ≤ gz h p) : -655 < p ∧ p < 655 := by
  obtain ⟨L', _⟩ := L.move F hm h2
  have a := L'.li.le F p
  rw [gz_put, if_pos rfl] at a
  have b0 := L.li.un p
  refine ⟨?_, ?_⟩
  · refine Int.not_le.mp fun z => ?_
    rw [V_out (.inl z)] at a; omega
  · refine Int.not_le.mp fun z => ?_
    rw [V_out (.inr z)] at a; omega
end K00
/-! line_end -/
namespace K00
open PySem PySem.Spec PyProof.Rows L2 GF
theorem getP_gz {h : ID} {x : Int} : (getP h x).getD 0 = gz h x := rfl
theorem fdiv2 {u : Int} (h : 0 ≤ u) : 0 ≤ u.fdiv 2 ∧ 2 * u.fdiv 2 ≤ u ∧ u ≤ 2 * u.fdiv 2 + 1 := by
  rw [Int.fdiv_eq_ediv_of_nonneg _ (by decide)]
  omega
theorem getP_put1 {ps : ID} {x v : Int} : getP (putP ps x v) x = some v := by rw [getP_put, if_pos rfl]
/-- a stop of the loop -/
theorem line_step {h b : ID} {w : List Int} {p : Int} {x0 x4 x5 x6 x7 x8 : Option Sl} (s : DS) (hp : p ∈ keysP h) (hl : h.length ≤ 1311) (bl : b.length ≤ 1311) (wl : w.length ≤ 16000000) (c0 : 0 ≤ gz h p) :
    (gz h p ≤ 1 → ∃ y6, d_line_end_2 0 [x0, some (.md (kP h)), some (.md (kP b)), some (.ml (inZ (w ++ [p]))), x4, x5, x6, x7, x8] s = some (.nx [x0, some (.md (kP h)), some (.md (kP b)), some (.ml (inZ w)), x4, some (.im (.int p)), y6, x7, x8] s)) ∧
    (2 ≤ gz h p → ∃ m w2 y6 y7, 1 ≤ m ∧ 2 * m ≤ gz h p ∧ gz h p ≤ 2 * m + 1 ∧ d_line_end_2 0 [x0, some (.md (kP h)), some (.md (kP b)), some (.ml (inZ (w ++ [p]))), x4, x5, x6, x7, x8] s = some (.nx [x0, some (.md (kP (mv h p m))), some (.md (kP (putP b p (gz b p + m)))), some (.ml (inZ w2)), x4, some (.im (.int p)), y6, y7, x8] s) ∧
      w2.length ≤ w.length + 2 ∧ (∀ x ∈ w2, x ∈ w ∨ x = p - 1 ∨ x = p + 1) ∧ (∀ x ∈ w, x ∈ w2) ∧ (1 < gz (mv h p m) (p - 1) → p - 1 ∈ w2) ∧ (1 < gz (mv h p m) (p + 1) → p + 1 ∈ w2)) := by
  obtain ⟨d1, d2, d3⟩ := fdiv2 c0
  have hg := gz_some hp
  have l1 : h.length < 16777216 := by omega
  have l2 : b.length < 16777216 := by omega
  have l3 : w.length < 16777216 := by omega
  refine ⟨fun h1 => ?_, fun h2 => ?_⟩
  · have z : (gz h p).fdiv 2 = 0 := by omega
    refine ⟨some (.im (.int 0)), ?_⟩
    unfold d_line_end_2
    simp [x_lastL, x_dropL, hg, z]
  · generalize hm : (gz h p).fdiv 2 = m at *
    have m0 : 0 < m := by omega
    have k1 := len_put h p (gz h p - 2 * m)
    have k2 := len_put (putP h p (gz h p - 2 * m)) (p - 1) (gz h (p - 1) + m)
    have q1 : (putP h p (gz h p - 2 * m)).length < 16777216 := by omega
    have q2 : (putP (putP h p (gz h p - 2 * m)) (p - 1) (gz h (p - 1) + m)).length < 16777216 := by omega
    have e1 : (getP (putP h p (gz h p - 2 * m)) (p - 1)).getD 0 = gz h (p - 1) := by
      show gz _ _ = _
      rw [gz_put, if_neg (by omega)]
    have e2 : (getP (putP (putP h p (gz h p - 2 * m)) (p - 1) (gz h (p - 1) + m)) (p + 1)).getD 0 = gz h (p + 1) := by
      show gz _ _ = _
      rw [gz_put, if_neg (by omega), gz_put, if_neg (by omega)]
    have g1 : gz (mv h p m) (p - 1) = gz h (p - 1) + m := by rw [mv_at, if_neg (by omega), if_pos rfl, if_neg (by omega)]; omega
    have g2 : gz (mv h p m) (p + 1) = gz h (p + 1) + m := by rw [mv_at, if_neg (by omega), if_neg (by omega), if_pos rfl]; omega
    have e3 : (getP b p).getD 0 = gz b p := rfl
    have run : ∀ w2, w2 = (if 1 < gz h (p + 1) + m then (if 1 < gz h (p - 1) + m then w ++ [p - 1] else w) ++ [p + 1] else (if 1 < gz h (p - 1) + m then w ++ [p - 1] else w)) → d_line_end_2 0 [x0, some (.md (kP h)), some (.md (kP b)), some (.ml (inZ (w ++ [p]))), x4, x5, x6, x7, x8] s = some (.nx [x0, some (.md (kP (mv h p m))), some (.md (kP (putP b p (gz b p + m)))), some (.ml (inZ w2)), x4, some (.im (.int p)), some (.im (.int m)), some (.im (.int (p + 1))), x8] s) := fun w2 ew => by
      subst ew
      unfold d_line_end_2 d_line_end_1 mv
      by_cases c1 : 1 < gz h (p - 1) + m
      · by_cases c2 : 1 < gz h (p + 1) + m
        · simp [x_lastL, x_dropL, hg, hm, m0, l1, l2, q1, q2, e1, e2, e3, c1, c2, getP_put1, show w.length < 16777216 from l3, show w.length + 1 < 16777216 by omega]
        · simp [x_lastL, x_dropL, hg, hm, m0, l1, l2, q1, q2, e1, e2, e3, c1, c2, getP_put1, show w.length < 16777216 from l3, show w.length + 1 < 16777216 by omega]
      · by_cases c2 : 1 < gz h (p + 1) + m
        · simp [x_lastL, x_dropL, hg, hm, m0, l1, l2, q1, q2, e1, e2, e3, c1, c2, getP_put1, show w.length < 16777216 from l3, show w.length + 1 < 16777216 by omega]
        · simp [x_lastL, x_dropL, hg, hm, m0, l1, l2, q1, q2, e1, e2, e3, c1, c2, getP_put1, show w.length < 16777216 from l3, show w.length + 1 < 16777216 by omega]
    refine ⟨m, _, _, _, by omega, by omega, by omega, run _ rfl, ?_, ?_, ?_, ?_, ?_⟩
    · split <;> split <;> simp
    · intro x hx
      split at hx <;> split at hx <;> (try simp only [List.mem_append, List.mem_singleton] at hx) <;> grind
    · intro x hx
      split <;> split <;> simp [hx]
    · intro c1
      rw [g1] at c1
      rw [if_pos c1]
      split <;> simp
    · intro c2
      rw [g2] at c2
      rw [if_pos c2]
      simp
end K00
/-! line_end told -/
namespace K00
open PySem PySem.Spec PyProof.Rows L2 GF
theorem sortI_rise {l : List Int} (h : l.Nodup) : (sortI l).Pairwise (· < ·) := by
  have a := sortI_sorted l
  have b : (sortI l).Nodup := (sortI_perm l).nodup_iff.mpr h
  refine List.Pairwise.imp₂ ?_ a b
  intro x y p q
  omega
theorem sortI_mem {l : List Int} {x : Int} : x ∈ sortI l ↔ x ∈ l := (sortI_perm l).mem_iff
theorem sortP_keys {l : List Int} {f : Int → Int} (h : l.Nodup) : sortP (l.map fun x => (x, f x)) = (sortI l).map fun x => (x, f x) := by
  refine pairs_same ((sortP_perm _).trans ((sortI_perm l).symm.map _)) (sortP_sorted _) ?_
  rw [List.pairwise_map]
  refine (sortI_rise h).imp fun {x y} lt => ?_
  unfold leP
  rw [show SrtO.lexB (y, f y) (x, f x) = false from SrtO.lexB_no.mpr (by show ¬ (y < x ∨ (y = x ∧ f y < f x)); omega)]; rfl
/-- how piles on the line end -/
def LineRes (c0 : Int → Int) (E : List Int) (B : List (Int × Int)) : Prop := ∃ c u, LI c0 c u ∧ (∀ x, c x ≤ 1) ∧ E.Pairwise (· < ·) ∧ (∀ x, x ∈ E ↔ 0 < c x) ∧ ∃ K : List Int, K.Pairwise (· < ·) ∧ (∀ x, x ∈ K ↔ 0 < u x) ∧ B = K.map fun x => (x, u x)
theorem LineRes.same {c0 : Int → Int} {E E' : List Int} {B B' : List (Int × Int)} (a : LineRes c0 E B) (b : LineRes c0 E' B') : E = E' ∧ B = B' := by
  obtain ⟨c, u, L, r, e1, e2, K, k1, k2, rfl⟩ := a
  obtain ⟨c', u', L', r', e1', e2', K', k1', k2', rfl⟩ := b
  have q := L.same L' r r'
  refine ⟨rise_same e1 e1' fun x => by rw [e2, e2', (q x).1], ?_⟩
  rw [rise_same k1 k1' fun x => by rw [k2, k2', (q x).2]]
  exact List.map_congr_left fun x _ => by rw [(q x).2]
theorem LS.res {c0 : Int → Int} {h b : ID} (L : LS c0 h b) (r : ∀ x, gz h x ≤ 1) : LineRes c0 (sortI ((keysP h).filter fun x => decide (0 < (getP h x).getD 0))) ((sortI (keysP b)).map fun x => (x, gz b x)) := by
  refine ⟨gz h, gz b, L.li, r, sortI_rise (L.hn.filter _), fun x => ?_, sortI (keysP b), sortI_rise L.bn, fun x => ?_, rfl⟩
  · rw [sortI_mem, List.mem_filter]
    show _ ∧ decide (0 < gz h x) = true ↔ _
    rw [decide_eq_true_eq]
    refine ⟨fun z => z.2, fun z => ⟨?_, z⟩⟩
    refine Classical.byContradiction fun nk => ?_
    rw [gz_none nk] at z; omega
  · rw [sortI_mem, L.bk]
/-- what the piles are told as -/
structure Piles0 (ps : List (Int × Int)) : Prop where
  few : Few (gz (initP ps))
  keys : ∀ x ∈ keysP (initP ps), -10 ≤ x ∧ x ≤ 10
  nd : (keysP (initP ps)).Nodup
structure Piles (ps : List (Int × Int)) : Prop extends Piles0 ps where
  sum : Nm (gz (initP ps)) ≤ 60
theorem LS.start {ps : List (Int × Int)} (P : Piles0 ps) : LS (gz (initP ps)) (initP ps) [] := by
  refine ⟨?_, fun x hx => by have := P.keys x hx; omega, P.nd, fun x => ?_, .nil⟩
  · have := LI.start fun x => (P.few x).1
    exact this
  · show x ∈ [] ↔ (0 : Int) < 0
    simp
theorem lc_book {b : ID} {s : DS} {x0 x1 x3 x4 x6 x7 x8 : Option Sl} : lcL (inZ (keysP b)) (hN 5) tT (dTup (dCons (dVar 5) (dCons (dIxN 2 (dVar 5)) dNil))) [x0, x1, some (.mz (kP b)), x3, x4, none, x6, x7, x8] s = some (inP ((keysP b).map fun x => (x, gz b x)), s) := by
  have e := lcL_pure (items := inZ (keysP b)) (h := hN 5) (t := tT) (f := dTup (dCons (dVar 5) (dCons (dIxN 2 (dVar 5)) dNil))) (ρ := [x0, x1, some (.mz (kP b)), x3, x4, none, x6, x7, x8]) (s := s) (fun d => true) (fun d => match d with | .int x => GF.pairD (x, gz b x) | d => d) (fun d hd => by
    obtain ⟨x, hx, rfl⟩ := List.mem_map.mp hd
    refine ⟨_, rfl, rfl, fun _ => ?_⟩
    simp [gz_some hx, GF.pairD])
  rw [e, List.filter_eq_self.mpr fun _ _ => rfl]
  congr 2
  unfold inZ inP
  rw [List.map_map, List.map_map]
  rfl
theorem lc_here {h : ID} {k : Int} {s : DS} {x0 x2 x3 x4 x6 x7 x8 : Option Sl} : lcL (inZ (keysP h)) (hN 5) (dTest (dOp mGt (dIxN 1 (dVar 5)) (dC (.int k)))) (dVar 5) [x0, some (.mz (kP h)), x2, x3, x4, none, x6, x7, x8] s = some (inZ ((keysP h).filter fun x => decide (k < (getP h x).getD 0)), s) :=
  lc_more rfl fun x => ⟨_, rfl, rfl, by simp; cases getP h x <;> rfl⟩
theorem line_end_eq {ps : List (Int × Int)} (P : Piles ps) (hl : ps.length ≤ 1000) : ∃ E B, LineRes (gz (initP ps)) E B ∧ m_line_end [.list (inP ps)] = some (.tuple [.list (inZ E), .list (inP B)]) := by
  have n0 := En_le (c := gz (initP ps)) fun x => (P.few x).1
  have L0 := LS.start P.toPiles0
  have fz1 := fun (h : ID) (b : ID) (L : LS (gz (initP ps)) h b) => L.len P.few
  have loop := run_while (G := d_line_end_2) (t := dBwT (dTru (dVar 3))) mono_d_line_end_2
    (fun μ ρ s => s = ([], 0) ∧ ∃ h b w x5 x6 x7, ρ = [some (.im (.list (inP ps))), some (.md (kP h)), some (.md (kP b)), some (.ml (inZ w)), none, x5, x6, x7, none] ∧ LS (gz (initP ps)) h b ∧ Nm (gz h) = Nm (gz (initP ps)) ∧ 2 * (w.length : Int) ≤ En (gz h) + 2622 ∧
      (∀ x ∈ w, x ∈ keysP h) ∧ (∀ x, 1 < gz h x → x ∈ w) ∧ μ = 3 * (rest (gz b)).toNat + w.length)
    (fun ρ s => s = ([], 0) ∧ ∃ h b x5 x6 x7, ρ = [some (.im (.list (inP ps))), some (.md (kP h)), some (.md (kP b)), some (.ml []), none, x5, x6, x7, none] ∧ LS (gz (initP ps)) h b ∧ ∀ x, gz h x ≤ 1)
    (fun μ ρ s I => by
      obtain ⟨rfl, h, b, w, x5, x6, x7, rfl, L, nm, wl, wk, wa, rfl⟩ := I
      have en := En_le L.li.cn
      have psum := P.sum
      rcases List.eq_nil_or_concat w with rfl | ⟨w0, p, rfl⟩
      · refine .inl ⟨([], 0), by simp, rfl, h, b, x5, x6, x7, rfl, L, fun x => Int.not_lt.mp fun z => ?_⟩
        have := wa x z
        cases this
      · rw [List.concat_eq_append] at *
        have hp : p ∈ keysP h := wk p (by simp)
        rw [List.length_append, List.length_singleton] at wl
        obtain ⟨st1, st2⟩ := line_step (x0 := some (.im (.list (inP ps)))) (x4 := none) (x5 := x5) (x6 := x6) (x7 := x7) (x8 := none) (w := w0) (([], 0) : DS) hp (L.len P.few).1 (L.len P.few).2 (by omega) (L.li.cn p)
        have tt : dBwT (dTru (dVar 3)) [some (.im (.list (inP ps))), some (.md (kP h)), some (.md (kP b)), some (.ml (inZ (w0 ++ [p]))), none, x5, x6, x7, none] (([], 0) : DS) = some (true, ([], 0)) := by
          simp
        by_cases h2 : 2 ≤ gz h p
        · obtain ⟨m, w2, y6, y7, hm, hm2, hm3, e, l2, wi, wj, wp, wq⟩ := st2 h2
          obtain ⟨L', er⟩ := L.move P.few hm hm2
          have pl := L.place P.few hm hm2
          obtain ⟨en2, nm2⟩ := En_move (h := h) (m := m) pl
          have r1 := L'.li.rest P.few
          refine .inr ⟨([], 0), _, _, tt, ⟨0, e⟩, _, ?_, rfl, _, _, w2, some (.im (.int p)), y6, y7, rfl, L', by rw [nm2, nm], by rw [en2]; omega, fun x hx => ?_, fun x hx => ?_, rfl⟩
          · rw [List.length_append, List.length_singleton]
            omega
          · unfold mv
            rw [keys_mem, keys_mem, keys_mem]
            rcases wi x hx with z | z | z
            · exact .inr (.inr (.inr (wk x (by simp [z]))))
            · exact .inr (.inl z)
            · exact .inl z
          · by_cases z1 : x = p - 1
            · rw [z1] at hx ⊢; exact wp hx
            · by_cases z2 : x = p + 1
              · rw [z2] at hx ⊢; exact wq hx
              · rw [mv_at, if_neg z1, if_neg z2] at hx
                by_cases z3 : x = p
                · rw [if_pos z3, z3] at hx; omega
                · rw [if_neg z3] at hx
                  have := wa x (by omega)
                  rcases List.mem_append.mp this with z | z
                  · exact wj x z
                  · exact absurd (List.mem_singleton.mp z) z3
        · obtain ⟨y6, e⟩ := st1 (by omega)
          refine .inr ⟨([], 0), _, _, tt, ⟨0, e⟩, _, ?_, rfl, h, b, w0, some (.im (.int p)), y6, x7, rfl, L, nm, by omega, fun x hx => wk x (by simp [hx]), fun x hx => ?_, rfl⟩
          · rw [List.length_append, List.length_singleton]; omega
          · have := wa x hx
            rcases List.mem_append.mp this with z | z
            · exact z
            · rw [List.mem_singleton.mp z] at hx; omega)
  have hlen := (L0.len P.few).1
  have s1 : dAsg 1 (xDc [5, 8] (dItems (dVar 0)) (hT (hCons (hN 5) (hCons (hN 8) hNil))) tT (dVar 5) (dVar 8)) [some (.im (.list (inP ps))), none, none, none, none, none, none, none, none] (([], 0) : DS) = some (.nx [some (.im (.list (inP ps))), some (.md (kP (initP ps))), none, none, none, none, none, none, none] ([], 0)) := by
    have e := dc_init (fi := 5) (fj := 8) (ρ := [some (.im (.list (inP ps))), none, none, none, none, none, none, none, none]) (s := (([], 0) : DS)) (fun x y => ⟨_, rfl, rfl, rfl⟩) ps []
    have l2 : ps.length ≤ 16777216 := by omega
    rw [x_asg]
    unfold xDc
    simp at e
    simp [e, l2, initP]
  have kl : (keysP (initP ps)).length ≤ 16777216 := by unfold keysP; rw [List.length_map]; omega
  have s3 : dAsg 3 (xF (dCallF mSorted (dCons (dFr (dLock 1 (dLc [5] (dKeys 1) (hN 5) (dTest (dOp mGt (dIxN 1 (dVar 5)) (dC (.int 1)))) (dVar 5)))) dNil))) [some (.im (.list (inP ps))), some (.md (kP (initP ps))), some (.md []), none, none, none, none, none, none] (([], 0) : DS) = some (.nx [some (.im (.list (inP ps))), some (.md (kP (initP ps))), some (.md []), some (.ml (inZ (sortI ((keysP (initP ps)).filter fun x => decide (1 < (getP (initP ps) x).getD 0))))), none, none, none, none, none] ([], 0)) := by
    simp [kl, lc_here]
  have wlen : (sortI ((keysP (initP ps)).filter fun x => decide (1 < (getP (initP ps) x).getD 0))).length ≤ 1311 := by
    rw [(sortI_perm _).length_eq]
    refine Nat.le_trans (List.length_filter_le ..) ?_
    unfold keysP; rw [List.length_map]; exact hlen
  obtain ⟨ρ', s', run, rfl, h, b, x5, x6, x7, rfl, L, fin⟩ := loop _ _ _ ⟨rfl, initP ps, [], sortI ((keysP (initP ps)).filter fun x => decide (1 < (getP (initP ps) x).getD 0)), none, none, none, rfl, L0, rfl, by omega, fun x hx => by
      rw [sortI_mem, List.mem_filter] at hx; exact hx.1, fun x hx => by
      rw [sortI_mem, List.mem_filter]
      refine ⟨Classical.byContradiction fun nk => ?_, decide_eq_true hx⟩
      rw [gz_none nk] at hx; omega, rfl⟩
  refine ⟨_, _, L.res fin, ?_⟩
  have l1 := L.len P.few
  have kh : (keysP h).length ≤ 16777216 := by unfold keysP; rw [List.length_map]; omega
  have kb : (keysP b).length ≤ 16777216 := by unfold keysP; rw [List.length_map]; omega
  have s4 : dAsg 4 (xF (dCallF mSorted (dCons (dFr (dLock 1 (dLc [5] (dKeys 1) (hN 5) (dTest (dOp mGt (dIxN 1 (dVar 5)) (dC (.int 0)))) (dVar 5)))) dNil))) [some (.im (.list (inP ps))), some (.md (kP h)), some (.md (kP b)), some (.ml []), none, x5, x6, x7, none] (([], 0) : DS) = some (.nx [some (.im (.list (inP ps))), some (.md (kP h)), some (.md (kP b)), some (.ml []), some (.ml (inZ (sortI ((keysP h).filter fun x => decide (0 < (getP h x).getD 0))))), x5, x6, x7, none] ([], 0)) := by
    simp [kh, lc_here]
  refine tells_run mono_d_line_end (s' := ([], 0)) ?_
  refine run_seq0 s1 (run_seq0 (ρ1 := [some (.im (.list (inP ps))), some (.md (kP (initP ps))), some (.md []), none, none, none, none, none, none]) (s1 := ([], 0)) (by simp) (run_seq0 s3 ?_))
  refine run_seqL run ?_
  rw [x_seq, s4]
  simp [kb, lc_book, x_sortP, sortP_keys L.bn]
end K00
/-! the law's own line -/
namespace K00
open PySem PySem.Spec PyProof.Rows L2 GF
theorem lline_step {h b : ID} {p : Int} {x0 x1 x5 : Option Sl} (s : DS) (hp : p ∈ keysP h) (hl : h.length ≤ 1311) (bl : b.length ≤ 1311) :
    d__law_line_2 0 [x0, x1, some (.md (kP h)), some (.md (kP b)), some (.im (.int p)), x5] s = some (.nx [x0, x1, some (.md (kP (mv h p ((gz h p).fdiv 2)))), some (.md (kP (putP b p (gz b p + (gz h p).fdiv 2)))), some (.im (.int p)), some (.im (.int ((gz h p).fdiv 2)))] s) := by
  have hg := gz_some hp
  generalize hm : (gz h p).fdiv 2 = m
  have k1 := len_put h p (gz h p - 2 * m)
  have k2 := len_put (putP h p (gz h p - 2 * m)) (p - 1) (gz h (p - 1) + m)
  have l1 : h.length < 16777216 := by omega
  have l2 : b.length < 16777216 := by omega
  have q1 : (putP h p (gz h p - 2 * m)).length < 16777216 := by omega
  have q2 : (putP (putP h p (gz h p - 2 * m)) (p - 1) (gz h (p - 1) + m)).length < 16777216 := by omega
  have e1 : (getP (putP h p (gz h p - 2 * m)) (p - 1)).getD 0 = gz h (p - 1) := by
    show gz _ _ = _
    rw [gz_put, if_neg (by omega)]
  have e2 : (getP (putP h p (gz h p - 2 * m)) (p + 1)).getD 0 = gz h (p + 1) := by
    show gz _ _ = _
    rw [gz_put, if_neg (by omega)]
  have e3 : (getP b p).getD 0 = gz b p := rfl
  unfold d__law_line_2 mv
  simp [hg, hm, l1, l2, q1, q2, e1, e2, e3]
theorem lline_pass {c0 : Int → Int} (F0 : Few c0) {x0 x1 : Option Sl} (s : DS) : ∀ (F : List Int) (h b : ID) (x4 x5 : Option Sl), LS c0 h b → F.Nodup → (∀ q ∈ F, q ∈ keysP h ∧ 2 ≤ gz h q) →
    ∃ h' b' y4 y5, dForL (inZ F) (hN 4) (d__law_line_2 0) [x0, x1, some (.md (kP h)), some (.md (kP b)), x4, x5] s = some (.nx [x0, x1, some (.md (kP h')), some (.md (kP b')), y4, y5] s) ∧ LS c0 h' b' ∧ rest (gz b') ≤ rest (gz b) - F.length
  | [], h, b, x4, x5, L, _, _ => ⟨h, b, x4, x5, rfl, L, by simp⟩
  | p :: F, h, b, x4, x5, L, nd, hq => by
    obtain ⟨n1, n2⟩ := List.nodup_cons.mp nd
    obtain ⟨hp, h2⟩ := hq p List.mem_cons_self
    obtain ⟨d1, d2, d3⟩ := fdiv2 (L.li.cn p)
    obtain ⟨L', er⟩ := L.move F0 (p := p) (m := (gz h p).fdiv 2) (by omega) d2
    obtain ⟨h', b', y4, y5, e, L2, r2⟩ := lline_pass F0 s F _ _ (some (.im (.int p))) (some (.im (.int ((gz h p).fdiv 2)))) L' n2 fun q hqF => by
      obtain ⟨k1, k2⟩ := hq q (List.mem_cons_of_mem _ hqF)
      refine ⟨?_, ?_⟩
      · unfold mv
        rw [keys_mem, keys_mem, keys_mem]
        exact .inr (.inr (.inr k1))
      · rw [mv_at, if_neg fun (z : q = p) => n1 (z ▸ hqF)]
        split <;> split <;> omega
    refine ⟨h', b', y4, y5, ?_, L2, by rw [List.length_cons]; omega⟩
    have st := lline_step (x0 := x0) (x1 := x1) (x5 := x5) s hp (L.len F0).1 (L.len F0).2
    rw [inZ_cons, x_forC]
    show ((some [x0, x1, some (.md (kP h)), some (.md (kP b)), some (.im (.int p)), x5] : Option Ev).bind _) = _
    rw [Option.bind_some, st]
    exact e
theorem lline_init {x0 x1 x3 : Option Sl} (s : DS) : ∀ (ps : List (Int × Int)) (acc : ID) (x4 x5 : Option Sl), acc.length + ps.length < 16777216 → ∃ y4 y5, dForL (inP ps) (hT (hCons (hN 4) (hCons (hN 5) hNil))) (d__law_line_1 0) [x0, x1, some (.md (kP acc)), x3, x4, x5] s = some (.nx [x0, x1, some (.md (kP (ps.foldl (fun d p => putP d p.1 p.2) acc))), x3, y4, y5] s)
  | [], acc, x4, x5, _ => ⟨x4, x5, rfl⟩
  | p :: ps, acc, x4, x5, hl => by
    rw [List.length_cons] at hl
    have lp := len_put acc p.1 p.2
    obtain ⟨y4, y5, e⟩ := lline_init s ps (putP acc p.1 p.2) (some (.im (.int p.1))) (some (.im (.int p.2))) (by omega)
    refine ⟨y4, y5, ?_⟩
    have l1 : acc.length < 16777216 := by omega
    have st : d__law_line_1 0 [x0, x1, some (.md (kP acc)), x3, some (.im (.int p.1)), some (.im (.int p.2))] s = some (.nx [x0, x1, some (.md (kP (putP acc p.1 p.2))), x3, some (.im (.int p.1)), some (.im (.int p.2))] s) := by
      unfold d__law_line_1
      simp [l1]
    rw [show inP (p :: ps) = .tuple [.int p.1, .int p.2] :: inP ps from rfl, x_forC]
    show ((some [x0, x1, some (.md (kP acc)), x3, some (.im (.int p.1)), some (.im (.int p.2))] : Option Ev).bind _) = _
    rw [Option.bind_some, st]
    exact e
theorem lc_place {h : ID} (m : D → D → Option D) (k : Int) (b : Int → Bool) (hm : ∀ v, m (.int v) (.int k) = some (.bool (b v))) {s : DS} {x0 x1 x3 x5 : Option Sl} : lcL (inZ (sortI (keysP h))) (hN 4) (dTest (dOp m (dIxN 2 (dVar 4)) (dC (.int k)))) (dVar 4) [x0, x1, some (.md (kP h)), x3, none, x5] s = some (inZ ((sortI (keysP h)).filter fun x => b (gz h x)), s) := by
  have e := lcL_pure (items := inZ (sortI (keysP h))) (h := hN 4) (t := dTest (dOp m (dIxN 2 (dVar 4)) (dC (.int k)))) (f := dVar 4) (ρ := [x0, x1, some (.md (kP h)), x3, none, x5]) (s := s) (fun d => match d with | .int x => b (gz h x) | _ => false) id (fun d hd => by
    obtain ⟨x, hx, rfl⟩ := List.mem_map.mp hd
    refine ⟨_, rfl, ?_, fun _ => rfl⟩
    simp [gz_some (sortI_mem.mp hx), hm])
  rw [e, List.map_id]
  congr 2
  unfold inZ
  rw [List.filter_map]
  rfl
theorem lc_moved {b : ID} {s : DS} {x0 x1 x2 x5 : Option Sl} : lcL (inZ (sortI (keysP b))) (hN 4) tT (dTup (dCons (dVar 4) (dCons (dIxN 3 (dVar 4)) dNil))) [x0, x1, x2, some (.md (kP b)), none, x5] s = some (inP ((sortI (keysP b)).map fun x => (x, gz b x)), s) := by
  have e := lcL_pure (items := inZ (sortI (keysP b))) (h := hN 4) (t := tT) (f := dTup (dCons (dVar 4) (dCons (dIxN 3 (dVar 4)) dNil))) (ρ := [x0, x1, x2, some (.md (kP b)), none, x5]) (s := s) (fun d => true) (fun d => match d with | .int x => GF.pairD (x, gz b x) | d => d) (fun d hd => by
    obtain ⟨x, hx, rfl⟩ := List.mem_map.mp hd
    refine ⟨_, rfl, rfl, fun _ => ?_⟩
    simp [gz_some (sortI_mem.mp hx), GF.pairD])
  rw [e, List.filter_eq_self.mpr fun _ _ => rfl]
  congr 2
  unfold inZ inP
  rw [List.map_map, List.map_map]
  rfl
def fullP (h : ID) : List Int := (sortI (keysP h)).filter fun x => decide (1 < gz h x)
theorem lline_full {h : ID} {x0 x1 x3 x4 x5 : Option Sl} {s : DS} (hl : h.length ≤ 1311) : dAsg 1 (xF (dLc [4] (dItems (dFr (dSrtN 2))) (hN 4) (dTest (dOp mGt (dIxN 2 (dVar 4)) (dC (.int 1)))) (dVar 4))) [x0, x1, some (.md (kP h)), x3, x4, x5] s = some (.nx [x0, some (.ml (inZ (fullP h))), some (.md (kP h)), x3, x4, x5] s) := by
  have kl : (sortI (keysP h)).length ≤ 16777216 := by rw [(sortI_perm _).length_eq]; unfold keysP; rw [List.length_map]; omega
  have e : dSrtN 2 [x0, x1, some (.md (kP h)), x3, x4, x5] s = some (inZ (sortI (keysP h)), s) := srtN_kP rfl
  have e2 := lc_place (h := h) mGt 1 (fun v => decide (1 < v)) (fun v => rfl) (s := s) (x0 := x0) (x1 := x1) (x3 := x3) (x5 := x5)
  simp [e, kl, e2, fullP]
theorem lline_eq {ps : List (Int × Int)} (P : Piles0 ps) (hl : ps.length ≤ 1000) : ∃ E B, LineRes (gz (initP ps)) E B ∧ m_lline [.list (inP ps)] = some (.tuple [.list (inZ E), .list (inP B)]) := by
  have L0 := LS.start P
  have loop := run_while (G := d__law_line_3) (t := dBwT (dTest (dOp mNe (dVar 1) (dFr (dLst dNil))))) mono_d__law_line_3
    (fun μ ρ s => s = ([], 0) ∧ ∃ h b x4 x5, ρ = [some (.im (.list (inP ps))), some (.ml (inZ (fullP h))), some (.md (kP h)), some (.md (kP b)), x4, x5] ∧ LS (gz (initP ps)) h b ∧ μ = (rest (gz b)).toNat)
    (fun ρ s => s = ([], 0) ∧ ∃ h b x4 x5, ρ = [some (.im (.list (inP ps))), some (.ml []), some (.md (kP h)), some (.md (kP b)), x4, x5] ∧ LS (gz (initP ps)) h b ∧ ∀ x, gz h x ≤ 1)
    (fun μ ρ s I => by
      obtain ⟨rfl, h, b, x4, x5, rfl, L, rfl⟩ := I
      by_cases hF : fullP h = []
      · refine .inl ⟨([], 0), by simp [mNe_nil, hF, show mNe (.list []) (.list []) = some (.bool false) from mNe_nil []], rfl, h, b, x4, x5, by rw [hF]; rfl, L, fun x => Int.not_lt.mp fun z => ?_⟩
        have : x ∈ fullP h := by
          unfold fullP
          rw [List.mem_filter, sortI_mem]
          exact ⟨Classical.byContradiction fun nk => by rw [gz_none nk] at z; omega, decide_eq_true z⟩
        rw [hF] at this; cases this
      · obtain ⟨h', b', y4, y5, e, L', r'⟩ := lline_pass P.few (x0 := some (.im (.list (inP ps)))) (x1 := some (.im (.list (inZ (fullP h))))) (([], 0) : DS) (fullP h) h b x4 x5 L ((sortI_rise L.hn).imp (fun {a b} q => by omega) |>.filter _) fun q hq => by
          unfold fullP at hq
          rw [List.mem_filter, sortI_mem] at hq
          have := of_decide_eq_true hq.2
          exact ⟨hq.1, by omega⟩
        have pos : 0 < (fullP h).length := List.length_pos_iff.mpr hF
        have r0 := L'.li.rest P.few
        refine .inr ⟨([], 0), [some (.im (.list (inP ps))), some (.ml (inZ (fullP h'))), some (.md (kP h')), some (.md (kP b')), y4, y5], ([], 0), by simp [mNe_nil, hF], ⟨0, ?_⟩, _, ?_, rfl, h', b', y4, y5, rfl, L', rfl⟩
        · unfold d__law_line_3
          rw [x_seq, x_fz]
          have ff : dFor (dItems (dVar 1)) (hN 4) (d__law_line_2 0) (frz (fun i => i == 1) [some (.im (.list (inP ps))), some (.ml (inZ (fullP h))), some (.md (kP h)), some (.md (kP b)), x4, x5]) (([], 0) : DS) = some (.nx [some (.im (.list (inP ps))), some (.im (.list (inZ (fullP h)))), some (.md (kP h')), some (.md (kP b')), y4, y5] ([], 0)) := e
          rw [ff]
          exact lline_full (L'.len P.few).1
        · omega)
  obtain ⟨z4, z5, ei⟩ := lline_init (x0 := some (.im (.list (inP ps)))) (x1 := none) (x3 := some (.md [])) (([], 0) : DS) ps [] none none (by show 0 + ps.length < _; omega)
  obtain ⟨ρ', s', run, rfl, h, b, x4, x5, rfl, L, fin⟩ := loop _ [some (.im (.list (inP ps))), some (.ml (inZ (fullP (initP ps)))), some (.md (kP (initP ps))), some (.md (kP [])), z4, z5] _ ⟨rfl, initP ps, [], z4, z5, rfl, L0, rfl⟩
  refine ⟨(sortI (keysP h)).filter fun x => decide (gz h x = 1), (sortI (keysP b)).map fun x => (x, gz b x), ?_, ?_⟩
  · obtain ⟨c, u, q1, q2, q3, q4, q5⟩ := L.res fin
    refine ⟨gz h, gz b, L.li, fin, (sortI_rise L.hn).filter _, fun x => ?_, sortI (keysP b), sortI_rise L.bn, fun x => by rw [sortI_mem, L.bk], rfl⟩
    rw [List.mem_filter, sortI_mem, decide_eq_true_eq]
    have := fin x
    refine ⟨fun z => by omega, fun z => ⟨Classical.byContradiction fun nk => by rw [gz_none nk] at z; omega, by omega⟩⟩
  have l1 := L.len P.few
  have kh : (sortI (keysP h)).length ≤ 16777216 := by rw [(sortI_perm _).length_eq]; unfold keysP; rw [List.length_map]; omega
  have kb : (sortI (keysP b)).length ≤ 16777216 := by rw [(sortI_perm _).length_eq]; unfold keysP; rw [List.length_map]; omega
  refine tells_run mono_d__law_line (s' := ([], 0)) ?_
  refine run_seq0 (ρ1 := [some (.im (.list (inP ps))), none, some (.md []), some (.md []), none, none]) (s1 := ([], 0)) (by simp [setAll]) ?_
  refine run_seq (mono_for mono_d__law_line_1) (mono_seq (mono_c _) (mono_seq (mono_while mono_d__law_line_3) (mono_c _))) ⟨0, ei⟩ ?_
  refine run_seq0 (lline_full (L0.len P.few).1) (run_seqL run ?_)
  have f1 : ∀ (x0 x1 x4 x5 : Option Sl) (s : DS), dSrtN 2 [x0, x1, some (.md (kP h)), some (.md (kP b)), x4, x5] s = some (inZ (sortI (keysP h)), s) := fun _ _ _ _ _ => srtN_kP rfl
  have f2 : ∀ (x0 x1 x4 x5 : Option Sl) (s : DS), dSrtN 3 [x0, x1, some (.md (kP h)), some (.md (kP b)), x4, x5] s = some (inZ (sortI (keysP b)), s) := fun _ _ _ _ _ => srtN_kP rfl
  have e2 := fun (x0 x1 x3 x5 : Option Sl) (s : DS) => lc_place (h := h) mEq 1 (fun v => decide (v = 1)) (fun v => x_eqI v 1) (s := s) (x0 := x0) (x1 := x1) (x3 := x3) (x5 := x5)
  simp [f1, f2, kh, kb, e2, lc_moved]
end K00
/-! one pile: its end and its book -/
namespace K00
open PySem PySem.Spec PyProof.Rows L2 GF
/-- never below 0, bent upwards on the way, 0 from H on -/
theorem side {f : Nat → Int} {H : Nat} (h0 : ∀ i, 0 ≤ f i) (hz : ∀ i, H ≤ i → f i = 0) (hb : ∀ i, 1 ≤ i → i ≤ H → 2 * f i ≤ f (i - 1) + f (i + 1)) : (∀ i, f (i + 1) ≤ f i) ∧ (f 0 ≤ f 1 → ∀ i, f i = 0) := by
  have dn : ∀ j i, i + j = H → f (i + 1) ≤ f i := by
    intro j
    induction j with
    | zero => intro i e; rw [hz i (by omega), hz (i + 1) (by omega)]; omega
    | succ j ih =>
      intro i e
      have a := ih (i + 1) (by omega)
      have b := hb (i + 1) (by omega) (by omega)
      rw [Nat.add_sub_cancel] at b
      omega
  have dec : ∀ i, f (i + 1) ≤ f i := fun i => by
    by_cases hi : i ≤ H
    · exact dn (H - i) i (by omega)
    · rw [hz i (by omega), hz (i + 1) (by omega)]; omega
  refine ⟨dec, fun h01 => ?_⟩
  have up : ∀ i, f i ≤ f (i + 1) := by
    intro i
    induction i with
    | zero => exact h01
    | succ i ih =>
      by_cases hi : i + 1 ≤ H
      · have b := hb (i + 1) (by omega) hi
        rw [Nat.add_sub_cancel] at b
        omega
      · rw [hz (i + 1) (by omega), hz (i + 1 + 1) (by omega)]; omega
  have all : ∀ i, f 0 ≤ f i := by
    intro i
    induction i with
    | zero => omega
    | succ i ih => have := up i; omega
  have all2 : ∀ i, f i ≤ f 0 := by
    intro i
    induction i with
    | zero => omega
    | succ i ih => have := dec i; omega
  intro i
  have a := all H
  rw [hz H (by omega)] at a
  have b := all2 i
  have c := h0 i
  omega
def vp (H : Int) (x : Int) : Int := tri (H - x.natAbs)
theorem vp_neg (H x : Int) : vp H (-x) = vp H x := by unfold vp; rw [Int.natAbs_neg]
theorem tri_out {t : Int} (h : t ≤ 0) : tri t = 0 := by
  unfold tri
  split
  · have : t = 0 := by omega
    subst this; rfl
  · rfl
/-- how the book bends -/
theorem vp_bend {H : Int} (hH : 0 ≤ H) (x : Int) : vp H (x - 1) + vp H (x + 1) - 2 * vp H x = if x = 0 then -(2 * H) else if (x.natAbs : Int) ≤ H then 1 else 0 := by
  have key : ∀ y : Int, 0 < y → vp H (y - 1) + vp H (y + 1) - 2 * vp H y = if y ≤ H then 1 else 0 := fun y hy => by
    unfold vp
    rw [show ((y - 1).natAbs : Int) = y - 1 by omega, show ((y + 1).natAbs : Int) = y + 1 by omega, show (y.natAbs : Int) = y by omega]
    by_cases h1 : y ≤ H
    · rw [if_pos h1]
      have a := tri_step (t := H - y) (by omega)
      rw [show H - y + 1 = H - (y - 1) by omega] at a
      by_cases h2 : y + 1 ≤ H
      · have b := tri_step (t := H - (y + 1)) (by omega)
        rw [show H - (y + 1) + 1 = H - y by omega] at b
        omega
      · rw [tri_out (t := H - (y + 1)) (by omega)]
        rw [tri_out (t := H - y) (by omega)] at a ⊢
        omega
    · rw [if_neg h1, tri_out (t := H - (y - 1)) (by omega), tri_out (t := H - (y + 1)) (by omega), tri_out (t := H - y) (by omega)]; rfl
  by_cases h0 : x = 0
  · subst h0
    rw [if_pos rfl]
    unfold vp
    show tri (H - 1) + tri (H - 1) - 2 * tri (H - 0) = _
    by_cases h1 : 1 ≤ H
    · have a := tri_step (t := H - 1) (by omega)
      rw [show H - 1 + 1 = H - 0 by omega] at a
      omega
    · rw [tri_out (t := H - 1) (by omega), tri_out (t := H - 0) (by omega)]; omega
  · rw [if_neg h0]
    by_cases hx : 0 < x
    · rw [key x hx]
      by_cases h1 : x ≤ H
      · rw [if_pos h1, if_pos (by omega)]
      · rw [if_neg h1, if_neg (by omega)]
    · have := key (-x) (by omega)
      rw [show -x - 1 = -(x + 1) by omega, show -x + 1 = -(x - 1) by omega, vp_neg, vp_neg, vp_neg] at this
      rw [Int.add_comm (vp H (x - 1)), this]
      by_cases h1 : -x ≤ H
      · rw [if_pos h1, if_pos (by omega)]
      · rw [if_neg h1, if_neg (by omega)]
theorem one_pile {g H : Int} {c0 c u : Int → Int} (h0 : 0 ≤ H) (h1 : 2 * H ≤ g) (h2 : g ≤ 2 * H + 1) (hc0 : ∀ x, c0 x = if x = 0 then g else 0) (L : LI c0 c u) (r : ∀ x, c x ≤ 1) : ∀ x, u x = vp H x ∧ c x = if x = 0 then g - 2 * H else if (x.natAbs : Int) ≤ H then 1 else 0 := by
  have nn : ∀ x, 0 ≤ vp H x := fun x => tri_nn _
  have le := L.least (vp H) (fun x => by
    have := vp_bend h0 x
    rw [hc0]
    split <;> rename_i e
    · rw [if_pos e] at this; omega
    · rw [if_neg e] at this
      split at this <;> omega) nn
  have out : ∀ x : Int, H ≤ x.natAbs → vp H x = 0 := fun x hx => tri_out (by omega)
  have bend : ∀ x, c x = (if x = 0 then g - 2 * H else if (x.natAbs : Int) ≤ H then 1 else 0) + (2 * (vp H x - u x) - (vp H (x - 1) - u (x - 1)) - (vp H (x + 1) - u (x + 1))) := fun x => by
    have a := vp_bend h0 x
    have b := L.cons x
    rw [hc0] at b
    split <;> rename_i e
    · rw [if_pos e] at a b; omega
    · rw [if_neg e] at a b
      split <;> rename_i e2
      · rw [if_pos e2] at a; omega
      · rw [if_neg e2] at a; omega
  have R := side (f := fun i => vp H i - u i) (H := H.toNat) (fun i => by have := le i; show 0 ≤ vp H i - u i; omega) (fun i hi => by
      have a := out i (by omega)
      have b := le i
      have d := L.un i
      show vp H i - u i = 0
      omega) (fun i h1 h2 => by
      have a := bend i
      rw [if_neg (by omega), if_pos (by omega)] at a
      have b := r i
      show 2 * (vp H i - u i) ≤ (vp H ((i - 1 : Nat) : Int) - u ((i - 1 : Nat) : Int)) + (vp H ((i + 1 : Nat) : Int) - u ((i + 1 : Nat) : Int))
      rw [show ((i - 1 : Nat) : Int) = (i : Int) - 1 by omega, show ((i + 1 : Nat) : Int) = (i : Int) + 1 by omega]
      omega)
  have Lf := side (f := fun i => vp H (-(i : Int)) - u (-(i : Int))) (H := H.toNat) (fun i => by have := le (-(i : Int)); show 0 ≤ vp H (-(i : Int)) - u (-(i : Int)); omega) (fun i hi => by
      have a := out (-(i : Int)) (by omega)
      have b := le (-(i : Int))
      have d := L.un (-(i : Int))
      show vp H (-(i : Int)) - u (-(i : Int)) = 0
      omega) (fun i h1 h2 => by
      have a := bend (-(i : Int))
      rw [if_neg (by omega), if_pos (by omega)] at a
      have b := r (-(i : Int))
      show 2 * (vp H (-(i : Int)) - u (-(i : Int))) ≤ (vp H (-((i - 1 : Nat) : Int)) - u (-((i - 1 : Nat) : Int))) + (vp H (-((i + 1 : Nat) : Int)) - u (-((i + 1 : Nat) : Int)))
      rw [show -((i - 1 : Nat) : Int) = -(i : Int) + 1 by omega, show -((i + 1 : Nat) : Int) = -(i : Int) - 1 by omega]
      omega)
  have R1 : vp H 1 - u 1 ≤ vp H 0 - u 0 := R.1 0
  have L1 : vp H (-1) - u (-1) ≤ vp H 0 - u 0 := Lf.1 0
  have z := bend 0
  rw [if_pos rfl] at z
  have z1 := r 0
  have zz : (∀ i : Nat, vp H i - u i = 0) ∧ ∀ i : Nat, vp H (-(i : Int)) - u (-(i : Int)) = 0 := by
    rw [show (0 : Int) - 1 = -1 from rfl, show (0 : Int) + 1 = 1 from rfl] at z
    by_cases c1 : vp H 0 - u 0 ≤ vp H 1 - u 1
    · have a := R.2 c1
      have a0 : vp H 0 - u 0 = 0 := a 0
      have b1 : 0 ≤ vp H (-1) - u (-1) := by have := le (-1); omega
      exact ⟨a, Lf.2 (show vp H 0 - u 0 ≤ vp H (-1) - u (-1) by omega)⟩
    · have c2 : vp H 0 - u 0 ≤ vp H (-1) - u (-1) := by omega
      have a := Lf.2 c2
      have a0 : vp H 0 - u 0 = 0 := a 0
      have b1 : 0 ≤ vp H 1 - u 1 := by have := le 1; omega
      exact ⟨R.2 (show vp H 0 - u 0 ≤ vp H 1 - u 1 by omega), a⟩
  have w : ∀ x : Int, u x = vp H x := fun x => by
    by_cases hx : 0 ≤ x
    · have := zz.1 x.toNat
      rw [show ((x.toNat : Nat) : Int) = x by omega] at this
      omega
    · have := zz.2 (-x).toNat
      rw [show -(((-x).toNat : Nat) : Int) = x by omega] at this
      omega
  intro x
  refine ⟨w x, ?_⟩
  rw [bend x, w x, w (x - 1), w (x + 1)]
  omega
theorem range_rise (lo hi : Int) : (rangeI lo hi).Pairwise (· < ·) := by
  unfold rangeI
  rw [List.pairwise_map]
  refine List.pairwise_lt_range.imp fun {a b} h => ?_
  omega
theorem pile_res {g : Int} (hg : 0 ≤ g) {c0 : Int → Int} (hc0 : ∀ x, c0 x = if x = 0 then g else 0) {E : List Int} {B : List (Int × Int)} (h : LineRes c0 E B) :
    E = (rangeI (-(g.fdiv 2)) (g.fdiv 2 + 1)).filter (fun x => decide (x ≠ 0) || decide (g.fmod 2 = 1)) ∧ B = (rangeI (1 - g.fdiv 2) (g.fdiv 2)).map fun x => (x, tri (g.fdiv 2 - x.natAbs)) := by
  obtain ⟨c, u, L, r, e1, e2, K, k1, k2, rfl⟩ := h
  obtain ⟨d1, d2, d3⟩ := fdiv2 hg
  have md : g.fmod 2 = g - 2 * g.fdiv 2 := by have := Int.mul_fdiv_add_fmod g 2; omega
  rw [md]
  generalize g.fdiv 2 = H at *
  have q := one_pile d1 d2 d3 hc0 L r
  refine ⟨rise_same e1 ((range_rise _ _).filter _) fun x => ?_, ?_⟩
  · rw [e2, (q x).2, List.mem_filter, range_mem, Bool.or_eq_true, decide_eq_true_eq, decide_eq_true_eq]
    by_cases h0 : x = 0
    · rw [if_pos h0]; omega
    · rw [if_neg h0]; split <;> omega
  · rw [rise_same k1 (range_rise (1 - H) H) fun x => by
      rw [k2, (q x).1, range_mem]
      unfold vp tri
      split
      · rename_i h
        by_cases z : H - (x.natAbs : Int) = 0
        · rw [z]; omega
        · have : (H - (x.natAbs : Int)) * (H - x.natAbs + 1) ≥ 1 * 2 := Int.mul_le_mul (by omega) (by omega) (by omega) (by omega)
          omega
      · omega]
    exact List.map_congr_left fun x _ => by rw [(q x).1]; rfl
end K00
/-! the short defs -/
namespace K00
open PySem PySem.Spec PyProof.Rows L2 GF
theorem pile_end_eq {g : Int} (hg : 0 ≤ g) (h2 : g < 1000) : m_pile_end [.int g] = some (.list (inZ ((rangeI (-(g.fdiv 2)) (g.fdiv 2 + 1)).filter fun x => decide (x ≠ 0) || decide (g.fmod 2 = 1)))) := by
  obtain ⟨d1, d2, d3⟩ := fdiv2 hg
  generalize hH : g.fdiv 2 = H at *
  have e := lcL_pure (items := inZ (rangeI (-H) (H + 1))) (h := hN 2) (t := dOr (dTest (dOp mNe (dVar 2) (dC (.int 0)))) (dTest (dOp mEq (dOp mMod (dVar 0) (dC (.int 2))) (dC (.int 1))))) (f := dVar 2) (ρ := [some (.im (.int g)), some (.im (.int H)), none]) (s := (([], 0) : DS))
    (fun d => match d with | .int x => decide (x ≠ 0) || decide (g.fmod 2 = 1) | _ => false) id (fun d hd => by
      obtain ⟨x, hx, rfl⟩ := List.mem_map.mp hd
      refine ⟨_, rfl, ?_, fun _ => rfl⟩
      by_cases h0 : x = 0
      · simp [h0]
      · simp [h0])
  have e2 : ((inZ (rangeI (-H) (H + 1))).filter fun d => match d with | .int x => decide (x ≠ 0) || decide (g.fmod 2 = 1) | _ => false) = inZ ((rangeI (-H) (H + 1)).filter fun x => decide (x ≠ 0) || decide (g.fmod 2 = 1)) := range_filter _
  rw [e2, List.map_id] at e
  have n1 : (-H).natAbs < 2 ^ 62 ∧ (H + 1).natAbs < 2 ^ 62 := by omega
  have l1 : (rangeI (-H) (H + 1)).length ≤ 16777216 := by rw [range_len]; omega
  have e0 : (rangeI (-H) (H + 1)).map PyData.int = inZ (rangeI (-H) (H + 1)) := rfl
  refine tells_run mono_d_pile_end (s' := ([], 0)) ⟨0, ?_⟩
  unfold d_pile_end
  rw [x_seq]
  have s1 : dAsg 1 (xE (dOp mFdiv (dVar 0) (dC (.int 2)))) [some (.im (.int g)), none, none] (([], 0) : DS) = some (.nx [some (.im (.int g)), some (.im (.int H)), none] ([], 0)) := by simp [hH]
  show (dAsg 1 _ [some (.im (.int g)), none, none] ([], 0)).bind _ = _
  rw [s1]
  have s2 : dRng2 (dCons (dNeg (dVar 1)) (dCons (dOp mAdd (dVar 1) (dC (.int 1))) dNil)) [some (.im (.int g)), some (.im (.int H)), none] (([], 0) : DS) = some (inZ (rangeI (-H) (H + 1)), ([], 0)) := by
    rw [x_rng2]
    simp only [x_cons, x_neg, x_var, x_op, x_c, x_nil, x_add, List.getElem?_cons_zero, List.getElem?_cons_succ, Option.bind_some, Option.map_some]
    rw [if_pos n1]; rfl
  rw [Option.bind_some]
  show dRet _ _ _ = _
  rw [x_ret, x_fr, x_lc]
  show ((Option.map _ ((dRng2 (dCons (dNeg (dVar 1)) (dCons (dOp mAdd (dVar 1) (dC (.int 1))) dNil)) [some (.im (.int g)), some (.im (.int H)), none] (([], 0) : DS)).bind _)).map _) = _
  rw [s2, Option.bind_some]
  dsimp only
  rw [if_pos (by rw [inZ_len]; exact l1)]
  show Option.map _ (Option.map _ (lcL (inZ (rangeI (-H) (H + 1))) (hN 2) _ _ [some (.im (.int g)), some (.im (.int H)), none] ([], 0))) = _
  rw [e]; rfl
theorem pile_book_eq {g : Int} (hg : 0 ≤ g) (h2 : g < 1000) : m_pile_book [.int g] = some (.list (inP ((rangeI (1 - g.fdiv 2) (g.fdiv 2)).map fun x => (x, tri (g.fdiv 2 - x.natAbs))))) := by
  obtain ⟨d1, d2, d3⟩ := fdiv2 hg
  generalize hH : g.fdiv 2 = H at *
  have n1 : (1 - H).natAbs < 2 ^ 62 ∧ H.natAbs < 2 ^ 62 := by omega
  have loop := run_for (G := d_pile_book_1) (hx := hN 3) (fs := dRng2 (dCons (dOp mSub (dC (.int 1)) (dVar 1)) (dCons (dVar 1) dNil))) (ds := inZ (rangeI (1 - H) H)) (ρ := [some (.im (.int g)), some (.im (.int H)), some (.ml []), none, none]) (s := (([], 0) : DS)) (s1 := ([], 0)) mono_d_pile_book_1
    (fun j ρ s => s = ([], 0) ∧ ∃ y3 y4, ρ = [some (.im (.int g)), some (.im (.int H)), some (.ml (inP (((rangeI (1 - H) H).take j).map fun x => (x, tri (H - x.natAbs))))), y3, y4])
    (by
      rw [x_rng2]
      simp only [x_cons, x_var, x_op, x_c, x_nil, x_sub, List.getElem?_cons_zero, List.getElem?_cons_succ, Option.bind_some, Option.map_some]
      rw [if_pos n1]; rfl)
    (fun j d ρ s hd I => by
      obtain ⟨rfl, y3, y4, rfl⟩ := I
      have lt : j < (rangeI (1 - H) H).length := by
        have := (List.getElem?_eq_some_iff.mp hd).1
        simpa using this
      have lt2 := lt
      rw [range_len] at lt2
      have hx : (rangeI (1 - H) H)[j]? = some (1 - H + j) := range_get lt2
      have ed : d = .int (1 - H + j) := by
        unfold inZ at hd
        rw [List.getElem?_map, hx] at hd
        exact (Option.some.inj hd).symm
      subst ed
      generalize hy : (1 - H + (j : Int)) = y at *
      refine ⟨[some (.im (.int g)), some (.im (.int H)), some (.ml (inP (((rangeI (1 - H) H).take j).map fun x => (x, tri (H - x.natAbs))))), some (.im (.int y)), y4], _, ([], 0), rfl, .inl ⟨0, ?_⟩, rfl, some (.im (.int y)), some (.im (.int (H - y.natAbs))), rfl⟩
      have ab : (if y < 0 then -y else y) = (y.natAbs : Int) := by split <;> omega
      have tr : ((H - (y.natAbs : Int)) * (H - y.natAbs + 1)).fdiv 2 = tri (H - y.natAbs) := by
        unfold tri
        rw [if_pos (by omega), Int.fdiv_eq_ediv_of_nonneg _ (by decide)]
      have sm : (H - (y.natAbs : Int)).natAbs < 2 ^ 64 := by omega
      have mA : mAbs [.int y] = some (.int y.natAbs) := by
        show some (PyData.int (if y < 0 then -y else y)) = _
        rw [ab]
      have ll : (((rangeI (1 - H) H).take j).map fun x => (x, tri (H - x.natAbs))).length < 16777216 := by
        rw [List.length_map, List.length_take]; omega
      rw [List.take_add_one, hx]
      unfold d_pile_book_1
      have s1 : dAsg 4 (xE (dOp mSub (dVar 1) (dCall mAbs (dCons (dVar 3) dNil)))) [some (.im (.int g)), some (.im (.int H)), some (.ml (inP (((rangeI (1 - H) H).take j).map fun x => (x, tri (H - x.natAbs))))), some (.im (.int y)), y4] (([], 0) : DS) = some (.nx [some (.im (.int g)), some (.im (.int H)), some (.ml (inP (((rangeI (1 - H) H).take j).map fun x => (x, tri (H - x.natAbs))))), some (.im (.int y)), some (.im (.int (H - y.natAbs)))] ([], 0)) := by
        simp [mA]
      rw [x_seq, s1, Option.bind_some]
      show dApp 2 _ _ _ = _
      have mm : mMul (.int (H - y.natAbs)) (.int (H - y.natAbs + 1)) = some (.int ((H - y.natAbs) * (H - y.natAbs + 1))) := x_mul (.inl sm)
      have s2 : dTup (dCons (dVar 3) (dCons (dOp mFdiv (dOp mMul (dVar 4) (dOp mAdd (dVar 4) (dC (.int 1)))) (dC (.int 2))) dNil)) [some (.im (.int g)), some (.im (.int H)), some (.ml (inP (((rangeI (1 - H) H).take j).map fun x => (x, tri (H - x.natAbs))))), some (.im (.int y)), some (.im (.int (H - y.natAbs)))] (([], 0) : DS) = some (GF.pairD (y, tri (H - y.natAbs)), ([], 0)) := by
        simp [mm, tr, GF.pairD]
      rw [x_app, s2, Option.bind_some]
      dsimp only [List.getElem?_cons_zero, List.getElem?_cons_succ]
      rw [if_pos (by rw [inP_len]; exact ll)]
      unfold inP
      simp)
    ⟨rfl, none, none, by simp [inP]⟩
  obtain ⟨ρ', s', run, rfl, y3, y4, rfl⟩ := loop
  rw [inZ_len, List.take_length] at run
  refine tells_run mono_d_pile_book (s' := ([], 0)) ?_
  refine run_seq0 (ρ1 := [some (.im (.int g)), some (.im (.int H)), none, none, none]) (s1 := ([], 0)) (by simp [hH]) ?_
  refine run_seq0 (ρ1 := [some (.im (.int g)), some (.im (.int H)), some (.ml []), none, none]) (s1 := ([], 0)) (by simp) ?_
  exact run_seqL run (by simp)
/-- the squares of a list's ints, told by a comprehension -/
theorem lc_sq {i : Nat} {ρ : Ev} {s : DS} {E : List Int} (hE : ∀ x ∈ E, x.natAbs < 1000) (hρ : ∀ x : Int, ∃ ρ1, hN i (.int x) ρ = some ρ1 ∧ dVar i ρ1 s = some (.int x, s)) : lcL (inZ E) (hN i) tT (dOp mMul (dVar i) (dVar i)) ρ s = some (inZ (E.map fun x => x * x), s) := by
  have e := lcL_pure (items := inZ E) (h := hN i) (t := tT) (f := dOp mMul (dVar i) (dVar i)) (ρ := ρ) (s := s) (fun d => true) (fun d => match d with | .int x => .int (x * x) | d => d) (fun d hd => by
    obtain ⟨x, hx, rfl⟩ := List.mem_map.mp hd
    obtain ⟨ρ1, e1, e2⟩ := hρ x
    have := hE x hx
    refine ⟨ρ1, e1, rfl, fun _ => ?_⟩
    rw [x_op, e2, Option.bind_some, e2, Option.bind_some, x_mul (.inl (by omega))]; rfl)
  rw [e, List.filter_eq_self.mpr fun _ _ => rfl]
  congr 2
  unfold inZ
  rw [List.map_map, List.map_map]
  rfl
theorem mSum_eq (ns : List Int) : mSum [.list (inZ ns)] = some (.int ns.sum) := by
  show (intsOf (inZ ns)).map _ = _
  rw [x_ints]; rfl
theorem moment_eq {E : List Int} (hE : ∀ x ∈ E, x.natAbs < 1000) (hl : E.length ≤ 10000) : m_moment [.list (inZ E)] = some (.int (E.map fun x => x * x).sum) := by
  refine tells_run mono_d_moment (s' := ([], 0)) ⟨0, ?_⟩
  unfold d_moment
  have e := lc_sq (i := 1) (ρ := [some (.im (.list (inZ E))), none]) (s := (([], 0) : DS)) hE fun x => ⟨_, rfl, rfl⟩
  have l2 : E.length ≤ 16777216 := by omega
  simp [e, l2, mSum_eq]
/-- .. of the places that a line's end may have -/
theorem LineRes.bnd {c0 : Int → Int} (F : Few c0) {E : List Int} {B : List (Int × Int)} (h : LineRes c0 E B) : (∀ x ∈ E, x.natAbs < 1000) ∧ E.length ≤ 10000 := by
  obtain ⟨c, u, L, r, e1, e2, _⟩ := h
  have b : ∀ x ∈ E, -700 ≤ x ∧ x < 701 := fun x hx => by
    have a := (e2 x).mp hx
    have d := L.cons x
    refine Classical.byContradiction fun z => ?_
    have f := (F x).2.2.2 (by omega)
    have g1 := L.le F (x - 1)
    have g2 := L.le F (x + 1)
    have g3 := L.un x
    rw [V_out (by omega)] at g1 g2
    omega
  refine ⟨fun x hx => by have := b x hx; omega, ?_⟩
  have nd : E.Nodup := e1.imp fun {a b} q => by omega
  have := nd_len 1401 (-700) E nd fun x hx => by have := b x hx; omega
  omega
/-- one of a list's ints, drawn -/
theorem one_eq {ns : List Int} (h : 0 < ns.length) (h2 : ns.length < 1000) (s : DS) : ∃ v s', m_one [.list (inZ ns)] s = some (.int v, s') ∧ v ∈ ns := by
  have d := drawV_lt (m := ns.length) (by omega) s
  have e := m_draw_eq (m := ns.length) (by omega) (by omega) s
  obtain ⟨j, hj⟩ : ∃ j : Nat, (drawV ns.length s).1 = (j : Int) := ⟨(drawV ns.length s).1.toNat, by omega⟩
  have lt : j < ns.length := by omega
  refine ⟨cAt ns j, (drawV ns.length s).2, tellsS_run mono_d__law_one ⟨0, ?_⟩, cAt_mem.mpr ⟨j, lt, rfl⟩⟩
  unfold d__law_one
  simp [e, hj, lt]
end K00
/-! a turn of the law -/
namespace K00
open PySem PySem.Spec PyProof.Rows L2 GF
theorem draw_ex {m : Int} (h : 0 < m) (h2 : m < 1073741824) (s : DS) : ∃ (v : Nat) (s' : DS), m_draw [.int m] s = some (.int v, s') ∧ (v : Int) < m := by
  have d := drawV_lt h s
  refine ⟨(drawV m s).1.toNat, (drawV m s).2, ?_, by omega⟩
  rw [m_draw_eq h h2, show (((drawV m s).1.toNat : Nat) : Int) = (drawV m s).1 by omega]
/-- size = 3 + .. -/
theorem st1 {x0 x2 x3 x4 x5 x6 x7 x8 x9 x10 x11 x12 x13 x14 x15 x16 : Option Sl} (s : DS) : ∃ (n : Nat) (s' : DS), 3 ≤ n ∧ n ≤ 12 ∧
    dAsg 3 (xE (dOp mAdd (dC (.int 3)) (dCallS 1 m_draw (dCons (dC (.int 10)) dNil)))) [x0, some .st, x2, x3, x4, x5, x6, x7, x8, x9, x10, x11, x12, x13, x14, x15, x16] s = some (.nx [x0, some .st, x2, some (.im (.int n)), x4, x5, x6, x7, x8, x9, x10, x11, x12, x13, x14, x15, x16] s') := by
  obtain ⟨v, s', e, lt⟩ := draw_ex (m := 10) (by decide) (by decide) s
  refine ⟨3 + v, s', by omega, by omega, ?_⟩
  have c : (3 : Int) + (v : Int) = ((3 + v : Nat) : Int) := by omega
  simp only [x_asg, x_xE, x_op, x_c, x_callS, x_cons, x_nil, List.getElem?_cons_zero, List.getElem?_cons_succ, Option.bind_some, Option.map_some, e, x_add, c]
  rfl
/-- chips, many -/
theorem st2 {n : Nat} (h3 : 3 ≤ n) (hn : n ≤ 12) {x0 x2 x4 x5 x6 x7 x8 x9 x10 x11 x12 x13 x14 x15 x16 : Option Sl} (s : DS) : ∃ (k : Nat) (s' : DS), k ≤ 13 ∧
    dPar [14, 15] (xCons (xF (dOpF mRep (dFr (dLst (dCons (dC (.int 0)) dNil))) (dVar 3))) (xCons (xE (dCallS 1 m_one (dCons (dFr (dLst (dCons (dOp mSub (dVar 3) (dC (.int 1))) (dCons (dVar 3) (dCons (dOp mAdd (dVar 3) (dC (.int 1))) (dCons (dCallS 1 m_draw (dCons (dOp mAdd (dVar 3) (dC (.int 1))) dNil)) dNil)))))) dNil))) xNil)) [x0, some .st, x2, some (.im (.int n)), x4, x5, x6, x7, x8, x9, x10, x11, x12, x13, x14, x15, x16] s = some (.nx [x0, some .st, x2, some (.im (.int n)), x4, x5, x6, x7, x8, x9, x10, x11, x12, x13, some (.ml (inZ (List.replicate n 0))), some (.im (.int k)), x16] s') := by
  obtain ⟨v, s1, e, lt⟩ := draw_ex (m := (n : Int) + 1) (by omega) (by omega) s
  obtain ⟨w, s2, e2, mw⟩ := one_eq (ns := [(n : Int) - 1, n, n + 1, v]) (by simp) (by simp) s1
  have hw : 0 ≤ w ∧ w ≤ 13 := by
    simp only [List.mem_cons, List.not_mem_nil, or_false] at mw
    omega
  refine ⟨w.toNat, s2, by omega, ?_⟩
  have r := mRep_zero (show n ≤ 16777216 by omega)
  have ew : ((w.toNat : Nat) : Int) = w := by omega
  rw [inZ_cons, inZ_cons, inZ_cons, inZ_cons, inZ_nil] at e2
  simp [e, e2, r, setAll, ew]
/-- a list of drawn ints -/
theorem lc_draws {own : Nat} {f : Ex} {ρ : Ev} {s : DS} (lo hi : Int) (hρ : ∀ d : D, ∃ ρ1, hN own d ρ = some ρ1 ∧ ∀ s, ∃ (v : Int) (s' : DS), f ρ1 s = some (.int v, s') ∧ lo ≤ v ∧ v < hi) (items : List D) : ∃ (ns : List Int) (s' : DS), lcL items (hN own) tT f ρ s = some (inZ ns, s') ∧ ns.length = items.length ∧ ∀ x ∈ ns, lo ≤ x ∧ x < hi := by
  obtain ⟨ds, s', e, l, p⟩ := lcL_draw (h := hN own) (f := f) (ρ := ρ) (fun d => ∃ v : Int, d = .int v ∧ lo ≤ v ∧ v < hi) (items := items) (s := s) fun d _ => by
    obtain ⟨ρ1, e1, e2⟩ := hρ d
    refine ⟨ρ1, e1, fun s => ?_⟩
    obtain ⟨v, s', e3, e4⟩ := e2 s
    exact ⟨.int v, s', e3, v, rfl, e4⟩
  have : ∃ ns : List Int, ds = inZ ns ∧ ∀ x ∈ ns, lo ≤ x ∧ x < hi := by
    clear e l
    induction ds with
    | nil => exact ⟨[], rfl, fun x h => by cases h⟩
    | cons d ds ih =>
      obtain ⟨ns, rfl, h⟩ := ih fun d hd => p d (List.mem_cons_of_mem _ hd)
      obtain ⟨v, rfl, hv⟩ := p d List.mem_cons_self
      refine ⟨v :: ns, rfl, fun x hx => ?_⟩
      rcases List.mem_cons.mp hx with rfl | hx
      · exact hv
      · exact h x hx
  obtain ⟨ns, rfl, h⟩ := this
  exact ⟨ns, s', e, by simpa using l, h⟩
/-- spots -/
theorem st3 {n : Nat} (h3 : 3 ≤ n) (hn : n ≤ 12) {x0 x2 x4 x5 x6 x7 x8 x9 x10 x11 x12 x13 x14 x15 x16 : Option Sl} (s : DS) : ∃ (sp : List Int) (s' : DS), sp.length ≤ 10 ∧ (∀ x ∈ sp, 0 ≤ x ∧ x < n) ∧
    dAsg 4 (xF (dLc [5] (dRng1 (dCons (dOp mAdd (dC (.int 1)) (dCallS 1 m_draw (dCons (dC (.int 4)) dNil))) dNil)) (hN 5) tT (dCallS 1 m_draw (dCons (dVar 3) dNil)))) [x0, some .st, x2, some (.im (.int n)), x4, x5, x6, x7, x8, x9, x10, x11, x12, x13, x14, x15, x16] s = some (.nx [x0, some .st, x2, some (.im (.int n)), some (.ml (inZ sp)), x5, x6, x7, x8, x9, x10, x11, x12, x13, x14, x15, x16] s') := by
  obtain ⟨v, s1, e, lt⟩ := draw_ex (m := 4) (by decide) (by decide) s
  obtain ⟨sp, s2, e2, l2, m2⟩ := lc_draws (own := 5) (f := dCallS 1 m_draw (dCons (dVar 3) dNil)) (ρ := [x0, some .st, x2, some (.im (.int n)), x4, none, x6, x7, x8, x9, x10, x11, x12, x13, x14, x15, x16]) (s := s1) 0 n (fun d => ⟨_, rfl, fun s => by
    obtain ⟨v, s', e, lt⟩ := draw_ex (m := (n : Int)) (by omega) (by omega) s
    exact ⟨v, s', by simp [e], by omega, lt⟩⟩) ((rangeI 0 (1 + v)).map PyData.int)
  have l3 : (rangeI 0 (1 + (v : Int))).length ≤ 16777216 := by rw [range_len]; omega
  rw [List.length_map, range_len] at l2
  have a1 : (1 + (v : Int)).natAbs < 2 ^ 62 := by omega
  refine ⟨sp, s2, by omega, m2, ?_⟩
  simp [e, a1, l3, e2]
/-- grains are laid -/
theorem st4 {n k : Nat} (h3 : 3 ≤ n) (hn : n ≤ 12) (hk : k ≤ 13) {sp : List Int} (ls : sp.length ≤ 10) (hs : ∀ x ∈ sp, 0 ≤ x ∧ x < n) {x0 x2 x5 x6 x7 x8 x9 x10 x11 x12 x13 x16 : Option Sl} (s : DS) : ∃ (h : List Int) (y5 : Option Sl) (s' : DS), h.length = n ∧ (∀ x, x < n → 0 ≤ cAt h x) ∧ sumN n (cAt h) = k ∧
    Run (fun m => dFor (dRng1 (dCons (dVar 15) dNil)) (hN 5) (d_law_1 m)) [x0, some .st, x2, some (.im (.int n)), some (.ml (inZ sp)), x5, x6, x7, x8, x9, x10, x11, x12, x13, some (.ml (inZ (List.replicate n 0))), some (.im (.int k)), x16] s (.nx [x0, some .st, x2, some (.im (.int n)), some (.ml (inZ sp)), y5, x6, x7, x8, x9, x10, x11, x12, x13, some (.ml (inZ h)), some (.im (.int k)), x16] s') := by
  have loop := run_for (G := d_law_1) (hx := hN 5) (fs := dRng1 (dCons (dVar 15) dNil)) (ds := inZ (rangeI 0 k)) (ρ := [x0, some .st, x2, some (.im (.int n)), some (.ml (inZ sp)), x5, x6, x7, x8, x9, x10, x11, x12, x13, some (.ml (inZ (List.replicate n 0))), some (.im (.int k)), x16]) (s := s) (s1 := s) mono_d_law_1
    (fun j ρ s => ∃ h y5, ρ = [x0, some .st, x2, some (.im (.int n)), some (.ml (inZ sp)), y5, x6, x7, x8, x9, x10, x11, x12, x13, some (.ml (inZ h)), some (.im (.int k)), x16] ∧ h.length = n ∧ (∀ x, x < n → 0 ≤ cAt h x) ∧ sumN n (cAt h) = j)
    (by have : k < 2 ^ 62 := by omega
        simp [this]; rfl)
    (fun j d ρ s hd I => by
      obtain ⟨h, y5, rfl, hl, hc, hsum⟩ := I
      obtain ⟨v, s1, e, lt⟩ := draw_ex (m := (n : Int)) (by omega) (by omega) s
      obtain ⟨w, s2, e2, mw⟩ := one_eq (ns := sp ++ [(v : Int)]) (by simp) (by simp; omega) s1
      have hw : 0 ≤ w ∧ w < n := by
        rcases List.mem_append.mp mw with z | z
        · exact hs w z
        · rw [List.mem_singleton.mp z]; omega
      obtain ⟨W, rfl⟩ : ∃ W : Nat, w = (W : Int) := ⟨w.toNat, by omega⟩
      have ltW : W < h.length := by omega
      refine ⟨_, [x0, some .st, x2, some (.im (.int n)), some (.ml (inZ sp)), some (.im d), x6, x7, x8, x9, x10, x11, x12, x13, some (.ml (inZ (up h W 1))), some (.im (.int k)), x16], s2, rfl, .inl ⟨0, ?_⟩, up h W 1, some (.im d), rfl, by simp [hl], fun x hx => ?_, ?_⟩
      · have l4 : sp.length + 1 ≤ 16777216 := by omega
        have cat : mCat (.list (inZ sp)) (.list [.int v]) = some (inZ (sp ++ [(v : Int)])) := by
          unfold mCat
          dsimp only
          rw [if_pos (by rw [inZ_len]; exact l4), inZ_app]
        unfold d_law_1
        simp [e, e2, cat, ltW, up_pos]
      · rw [up_at ltW]
        have := hc x hx
        split <;> omega
      · rw [show sumN n (cAt (up h W 1)) = sumN n (fun x => cAt h x + if x = W then 1 else 0) from sumN_congr fun x _ => up_at ltW, sumN_add, sumN_at (by omega), hsum]
        omega)
    ⟨List.replicate n 0, x5, rfl, by simp, fun x _ => by rw [cAt_rep]; omega, by rw [show sumN n (cAt (List.replicate n 0)) = sumN n (fun _ => 0) from sumN_congr fun x _ => cAt_rep, sumN_zero]; rfl⟩
  obtain ⟨ρ', s', run, h, y5, rfl, hl, hc, hsum⟩ := loop
  rw [inZ_len, range_len] at hsum
  exact ⟨h, y5, s', hl, hc, by omega, run⟩
/-- the ring's answers -/
theorem st56 {n k : Nat} (h3 : 3 ≤ n) (hn : n ≤ 12) {h : List Int} (hl : h.length = n) (hc : ∀ x, x < n → 0 ≤ cAt h x) (hsum : sumN n (cAt h) = k) {x0 x2 x4 x5 x6 x7 x8 x9 x10 x11 x12 x13 x16 : Option Sl} (s : DS) : ∃ due : D,
    dAsg 6 (xE (dBw (dCall m_lring (dCons (dVar 3) (dCons (dVar 14) dNil))))) [x0, some .st, x2, some (.im (.int n)), x4, x5, x6, x7, x8, x9, x10, x11, x12, x13, some (.ml (inZ h)), some (.im (.int k)), x16] s = some (.nx [x0, some .st, x2, some (.im (.int n)), x4, x5, some (.im due), x7, x8, x9, x10, x11, x12, x13, some (.ml (inZ h)), some (.im (.int k)), x16] s) ∧
    dIf (dBwT (dOr (dTest (dOp mNe (dCall m_ring_end (dCons (dVar 3) (dCons (dCall mTuple (dCons (dVar 14) dNil)) dNil))) (dVar 6))) (dOr (dAnd (dTest (dOp mIs (dVar 6) (dC .none))) (dTest (dOp mLt (dVar 15) (dVar 3)))) (dAnd (dTest (dOp mIsNot (dVar 6) (dC .none))) (dTest (dOp mGt (dVar 15) (dVar 3))))))) (dRet (dC (.bool false))) dSkip [x0, some .st, x2, some (.im (.int n)), x4, x5, some (.im due), x7, x8, x9, x10, x11, x12, x13, some (.ml (inZ h)), some (.im (.int k)), x16] s = some (.nx [x0, some .st, x2, some (.im (.int n)), x4, x5, some (.im due), x7, x8, x9, x10, x11, x12, x13, some (.ml (inZ h)), some (.im (.int k)), x16] s) := by
  obtain ⟨r, R, e1, e2⟩ := rings h3 (by omega) hl hc
  have ne := mNe_self (k := 1) (by decide) (ok_res r)
  cases r with
  | none =>
    have := R.none h3
    have c : ¬ (k : Int) < n := by omega
    have c2 : ¬ k < n := by omega
    refine ⟨.none, ?_, ?_⟩
    · simp [e1, resD]
    · rw [show resD none = PyData.none from rfl] at ne e2
      simp [e2, ne, c2]
  | some g =>
    have := R.some
    have c2 : ¬ n < k := by omega
    have nl : noLsts (inZ g) = true := by unfold inZ; exact noLsts_ints g
    refine ⟨.tuple (inZ g), ?_, ?_⟩
    · simp [e1, resD, nl]
    · rw [show resD (some g) = .tuple (inZ g) from rfl] at ne e2
      simp [e2, ne, c2]
/-- the pointers' answers -/
theorem st789 {x0 x2 x3 x4 x5 x6 x7 x8 x9 x10 x11 x12 x13 x14 x15 x16 : Option Sl} (s : DS) : ∃ (y7 y8 : Option Sl) (s' : DS), ∃ (m : Nat) (row : D), y7 = some (.im (.int m)) ∧ y8 = some (.im row) ∧
    dAsg 7 (xE (dCallS 1 m_draw (dCons (dC (.int 61)) dNil))) [x0, some .st, x2, x3, x4, x5, x6, x7, x8, x9, x10, x11, x12, x13, x14, x15, x16] s = some (.nx [x0, some .st, x2, x3, x4, x5, x6, y7, x8, x9, x10, x11, x12, x13, x14, x15, x16] s') ∧
    dAsg 8 (xE (dCall m_pointer_line (dCons (dVar 7) dNil))) [x0, some .st, x2, x3, x4, x5, x6, y7, x8, x9, x10, x11, x12, x13, x14, x15, x16] s' = some (.nx [x0, some .st, x2, x3, x4, x5, x6, y7, y8, x9, x10, x11, x12, x13, x14, x15, x16] s') ∧
    dIf (dTest (dOp mNe (dVar 8) (dCall m_lpointers (dCons (dVar 7) dNil)))) (dRet (dC (.bool false))) dSkip [x0, some .st, x2, x3, x4, x5, x6, y7, y8, x9, x10, x11, x12, x13, x14, x15, x16] s' = some (.nx [x0, some .st, x2, x3, x4, x5, x6, y7, y8, x9, x10, x11, x12, x13, x14, x15, x16] s') := by
  obtain ⟨v, s', e, lt⟩ := draw_ex (m := 61) (by decide) (by decide) s
  obtain ⟨r, e1, e2⟩ := pointers (k := v) (by omega)
  have ne := mNe_self (k := 1) (by decide) (ok_inZ (k := 0) r)
  exact ⟨_, _, s', v, .list (inZ r), rfl, rfl, by simp [e], by simp [e1], by simp [e2, ne]⟩
end K00
/-! a turn of the law: piles -/
namespace K00
open PySem PySem.Spec PyProof.Rows L2 GF
theorem init_app : ∀ (ps acc : List (Int × Int)), ((acc ++ ps).map (·.1)).Nodup → ps.foldl (fun d p => putP d p.1 p.2) acc = acc ++ ps
  | [], acc, _ => by simp
  | p :: ps, acc, h => by
    have e : putP acc p.1 p.2 = acc ++ [p] := by
      unfold putP
      rw [if_neg fun z => ?_]
      obtain ⟨q, hq, e⟩ := List.any_eq_true.mp z
      rw [List.map_append, List.nodup_append] at h
      exact h.2.2 q.1 (List.mem_map.mpr ⟨q, hq, rfl⟩) p.1 (by simp) (of_decide_eq_true e)
    rw [List.foldl_cons, e, init_app ps (acc ++ [p]) (by simpa using h)]
    simp
theorem init_eq {ps : List (Int × Int)} (h : (ps.map (·.1)).Nodup) : initP ps = ps := by
  have := init_app ps [] (by simpa using h)
  simpa [initP] using this
theorem gz_cons {p : Int × Int} {ps : ID} {x : Int} : gz (p :: ps) x = if x = p.1 then p.2 else gz ps x := by
  unfold gz getP
  rw [List.find?_cons]
  by_cases e : p.1 = x
  · rw [decide_eq_true e, if_pos e.symm]; rfl
  · rw [decide_eq_false e, if_neg fun z => e z.symm]
theorem Nm_sum : ∀ {ps : ID}, (ps.map (·.1)).Nodup → (∀ p ∈ ps, -10 ≤ p.1 ∧ p.1 ≤ 10) → Nm (gz ps) = (ps.map (·.2)).sum
  | [], _, _ => by
    show sumN 1311 (fun _ => 0) = 0
    exact sumN_zero
  | p :: ps, nd, h => by
    obtain ⟨n1, n2⟩ := List.nodup_cons.mp nd
    have b := h p List.mem_cons_self
    have ih := Nm_sum n2 fun q hq => h q (List.mem_cons_of_mem _ hq)
    have z : gz ps p.1 = 0 := gz_none n1
    show sumN 1311 (fun i => gz (p :: ps) ((i : Int) - 655)) = p.2 + (ps.map (·.2)).sum
    rw [← ih, sumN_congr (g := fun i => gz ps ((i : Int) - 655) + if i = (p.1 + 655).toNat then p.2 else 0) fun i hi => ?_, sumN_add, sumN_at (by omega)]
    · show Nm (gz ps) + p.2 = _
      omega
    · rw [gz_cons]
      by_cases e : (i : Int) - 655 = p.1
      · rw [if_pos e, if_pos (by omega), e, z]; omega
      · rw [if_neg e, if_neg (by omega)]; omega
theorem gz_mem : ∀ {ps : ID} {x : Int}, gz ps x = 0 ∨ ∃ p ∈ ps, p.1 = x ∧ gz ps x = p.2
  | [], x => .inl rfl
  | p :: ps, x => by
    rw [gz_cons]
    by_cases e : x = p.1
    · rw [if_pos e]
      exact .inr ⟨p, List.mem_cons_self, e.symm, rfl⟩
    · rw [if_neg e]
      rcases gz_mem (ps := ps) (x := x) with h | ⟨q, h1, h2, h3⟩
      · exact .inl h
      · exact .inr ⟨q, List.mem_cons_of_mem _ h1, h2, h3⟩
theorem sum_le {b : Int} : ∀ {l : List Int}, (∀ x ∈ l, x ≤ b) → l.sum ≤ l.length * b
  | [], _ => by simp
  | x :: l, h => by
    have := sum_le (l := l) fun y hy => h y (List.mem_cons_of_mem _ hy)
    have := h x List.mem_cons_self
    rw [List.sum_cons, List.length_cons, Int.natCast_succ, Int.add_mul, Int.one_mul]
    omega
theorem piles_ok {ps : List (Int × Int)} {b : Int} (nd : (ps.map (·.1)).Nodup) (h : ∀ p ∈ ps, (-10 ≤ p.1 ∧ p.1 ≤ 10) ∧ 0 ≤ p.2 ∧ p.2 ≤ b) (hb : b ≤ 60) (hs : ps.length * b ≤ 60) : Piles ps := by
  refine ⟨⟨fun x => ?_, fun x hx => ?_, ?_⟩, ?_⟩
  · rw [init_eq nd]
    rcases gz_mem (ps := ps) (x := x) with e | ⟨p, hp, e1, e2⟩
    · rw [e]; omega
    · have := h p hp; omega
  · rw [init_eq nd] at hx
    obtain ⟨p, hp, rfl⟩ := List.mem_map.mp hx
    exact (h p hp).1
  · rw [init_eq nd]; exact nd
  · rw [init_eq nd, Nm_sum nd fun p hp => (h p hp).1]
    have := sum_le (l := ps.map (·.2)) (b := b) fun x hx => by
      obtain ⟨p, hp, rfl⟩ := List.mem_map.mp hx
      exact (h p hp).2.2
    rw [List.length_map] at this
    omega
theorem insU_len (x : Int) : ∀ l : List Int, (insU x l).length ≤ l.length + 1
  | [] => by unfold insU; simp
  | y :: r => by
    unfold insU
    have := insU_len x r
    split
    · simp
    · split <;> simp <;> omega
theorem sortU_len : ∀ l : List Int, (sortU l).length ≤ l.length
  | [] => Nat.le_refl _
  | x :: r => by
    unfold sortU
    have := insU_len x (sortU r)
    have := sortU_len r
    rw [List.length_cons]; omega
/-- places -/
theorem st10 {x0 x2 x3 x4 x5 x6 x7 x8 x9 x10 x11 x12 x13 x14 x15 x16 : Option Sl} (s : DS) : ∃ (pl : List Int) (s' : DS), pl.Nodup ∧ 0 < pl.length ∧ pl.length ≤ 5 ∧ (∀ x ∈ pl, -10 ≤ x ∧ x ≤ 10) ∧
    dAsg 9 (xF (dSrtSet (dLc [5] (dRng1 (dCons (dOp mAdd (dC (.int 1)) (dCallS 1 m_draw (dCons (dC (.int 5)) dNil))) dNil)) (hN 5) tT (dOp mSub (dCallS 1 m_draw (dCons (dC (.int 21)) dNil)) (dC (.int 10)))))) [x0, some .st, x2, x3, x4, x5, x6, x7, x8, x9, x10, x11, x12, x13, x14, x15, x16] s = some (.nx [x0, some .st, x2, x3, x4, x5, x6, x7, x8, some (.ml (inZ pl)), x10, x11, x12, x13, x14, x15, x16] s') := by
  obtain ⟨v, s1, e, lt⟩ := draw_ex (m := 5) (by decide) (by decide) s
  obtain ⟨sp, s2, e2, l2, m2⟩ := lc_draws (own := 5) (f := dOp mSub (dCallS 1 m_draw (dCons (dC (.int 21)) dNil)) (dC (.int 10))) (ρ := [x0, some .st, x2, x3, x4, none, x6, x7, x8, x9, x10, x11, x12, x13, x14, x15, x16]) (s := s1) (-10) 11 (fun d => ⟨_, rfl, fun s => by
    obtain ⟨v, s', e, lt⟩ := draw_ex (m := 21) (by decide) (by decide) s
    exact ⟨v - 10, s', by simp [e], by omega, by omega⟩⟩) ((rangeI 0 (1 + v)).map PyData.int)
  have l3 : (rangeI 0 (1 + (v : Int))).length ≤ 16777216 := by rw [range_len]; omega
  rw [List.length_map, range_len] at l2
  have a1 : (1 + (v : Int)).natAbs < 2 ^ 62 := by omega
  have l4 : sp.length < 64 := by omega
  have nd : (sortU sp).Nodup := sortU_rise.imp fun {a b} q => by omega
  have pos : 0 < (sortU sp).length := by
    cases sp with
    | nil => simp at l2; omega
    | cons x r => exact List.length_pos_of_mem (mem_sortU.mpr (List.mem_cons_self (a := x) (l := r)))
  have le := sortU_len sp
  have f : dSrtSet (dLc [5] (dRng1 (dCons (dOp mAdd (dC (.int 1)) (dCallS 1 m_draw (dCons (dC (.int 5)) dNil))) dNil)) (hN 5) tT (dOp mSub (dCallS 1 m_draw (dCons (dC (.int 21)) dNil)) (dC (.int 10)))) [x0, some .st, x2, x3, x4, x5, x6, x7, x8, x9, x10, x11, x12, x13, x14, x15, x16] s = some (inZ (sortU sp), s2) := by
    unfold dSrtSet
    have e3 : dLc [5] (dRng1 (dCons (dOp mAdd (dC (.int 1)) (dCallS 1 m_draw (dCons (dC (.int 5)) dNil))) dNil)) (hN 5) tT (dOp mSub (dCallS 1 m_draw (dCons (dC (.int 21)) dNil)) (dC (.int 10))) [x0, some .st, x2, x3, x4, x5, x6, x7, x8, x9, x10, x11, x12, x13, x14, x15, x16] s = some (inZ sp, s2) := by
      simp [e, a1, l3, e2]
    rw [e3, Option.bind_some, x_ints, Option.bind_some, if_pos l4]; rfl
  refine ⟨sortU sp, s2, nd, pos, by omega, fun x hx => ?_, ?_⟩
  · have := m2 x (mem_sortU.mp hx); omega
  · rw [x_asg, x_xF, f]; rfl
/-- the piles at the places -/
theorem lc_piles {ρ : Int → Ev} {f : Ex} {ρ0 : Ev} {b : Int} (hh : ∀ x : Int, hN 16 (.int x) ρ0 = some (ρ x)) (hf : ∀ (x : Int) (s : DS), ∃ (v : Int) (s' : DS), f (ρ x) s = some (GF.pairD (x, v), s') ∧ 0 ≤ v ∧ v ≤ b) : ∀ (pl : List Int) (s : DS), ∃ (ps : List (Int × Int)) (s' : DS), lcL (inZ pl) (hN 16) tT f ρ0 s = some (inP ps, s') ∧ ps.map (·.1) = pl ∧ ∀ p ∈ ps, 0 ≤ p.2 ∧ p.2 ≤ b
  | [], s => ⟨[], s, rfl, rfl, fun p h => by cases h⟩
  | x :: pl, s => by
    obtain ⟨v, s1, e, h1, h2⟩ := hf x s
    obtain ⟨ps, s2, e2, e3, e4⟩ := lc_piles hh hf pl s1
    refine ⟨(x, v) :: ps, s2, ?_, by rw [List.map_cons, e3], fun p hp => ?_⟩
    · show (hN 16 (.int x) ρ0).bind _ = _
      rw [hh]
      show (f (ρ x) s).bind _ = _
      rw [e]
      show (lcL (inZ pl) (hN 16) tT f ρ0 s1).map _ = _
      rw [e2]; rfl
    · rcases List.mem_cons.mp hp with rfl | hp
      · exact ⟨h1, h2⟩
      · exact e4 p hp
theorem st11 {pl : List Int} (nd : pl.Nodup) (hp : 0 < pl.length) (hl : pl.length ≤ 5) (hb : ∀ x ∈ pl, -10 ≤ x ∧ x ≤ 10) {x0 x2 x3 x4 x5 x6 x7 x8 x10 x11 x12 x13 x14 x15 x16 : Option Sl} (s : DS) : ∃ (ps : List (Int × Int)) (s' : DS), Piles ps ∧ ps.length ≤ 5 ∧
    dAsg 10 (xF (dLc [16] (dBwF (dItems (dVar 9))) (hN 16) tT (dBw (dTup (dCons (dVar 16) (dCons (dCallS 1 m_draw (dCons (dOp mAdd (dCall mInt (dCons (dOp mFdiv (dC (.int 60)) (dCall mLen (dCons (dVar 9) dNil))) dNil)) (dC (.int 1))) dNil)) dNil)))))) [x0, some .st, x2, x3, x4, x5, x6, x7, x8, some (.ml (inZ pl)), x10, x11, x12, x13, x14, x15, x16] s = some (.nx [x0, some .st, x2, x3, x4, x5, x6, x7, x8, some (.ml (inZ pl)), some (.ml (inP ps)), x11, x12, x13, x14, x15, x16] s') := by
  have fd : (60 : Int).fdiv pl.length = 60 / pl.length := by rw [Int.fdiv_eq_ediv_of_nonneg _ (by omega)]
  have q0 : 0 ≤ (60 : Int) / pl.length := Int.ediv_nonneg (by decide) (by omega)
  have q1 : (60 : Int) / pl.length ≤ 60 := Int.ediv_le_self _ (by decide)
  have q2 : (pl.length : Int) * (60 / pl.length) ≤ 60 := by have := Int.mul_ediv_add_emod 60 pl.length; have := Int.emod_nonneg 60 (show (pl.length : Int) ≠ 0 by omega); omega
  have mf : mFdiv (.int 60) (.int pl.length) = some (.int (60 / pl.length)) := by rw [x_fdiv (by omega) (by omega), fd]
  obtain ⟨ps, s', e, em, hps⟩ := lc_piles (b := 60 / pl.length) (ρ0 := [x0, some .st, x2, x3, x4, x5, x6, x7, x8, some (.ml (inZ pl)), x10, x11, x12, x13, x14, x15, none]) (ρ := fun x => [x0, some .st, x2, x3, x4, x5, x6, x7, x8, some (.ml (inZ pl)), x10, x11, x12, x13, x14, x15, some (.im (.int x))])
    (f := dBw (dTup (dCons (dVar 16) (dCons (dCallS 1 m_draw (dCons (dOp mAdd (dCall mInt (dCons (dOp mFdiv (dC (.int 60)) (dCall mLen (dCons (dVar 9) dNil))) dNil)) (dC (.int 1))) dNil)) dNil)))) (fun x => rfl) (fun x s => by
      obtain ⟨v, s', e, lt⟩ := draw_ex (m := (60 : Int) / pl.length + 1) (by omega) (by omega) s
      refine ⟨v, s', ?_, by omega, by omega⟩
      simp [mf, e, GF.pairD]) pl s
  have nd2 : (ps.map (·.1)).Nodup := by rw [em]; exact nd
  have ll : ps.length = pl.length := by rw [← em, List.length_map]
  refine ⟨ps, s', piles_ok (b := 60 / pl.length) nd2 (fun p h => ⟨hb _ (em ▸ List.mem_map.mpr ⟨p, h, rfl⟩), (hps p h).1, (hps p h).2⟩) q1 (by rw [ll]; exact q2), by omega, ?_⟩
  have nl : noLsts (inZ pl) = true := by unfold inZ; exact noLsts_ints pl
  have l2 : pl.length ≤ 16777216 := by omega
  rw [x_asg, x_xF, x_lc]
  have bw : dBwF (dItems (dVar 9)) [x0, some .st, x2, x3, x4, x5, x6, x7, x8, some (.ml (inZ pl)), x10, x11, x12, x13, x14, x15, x16] s = some (inZ pl, s) := by simp [nl]
  rw [bw, Option.bind_some]
  dsimp only
  rw [if_pos (by rw [inZ_len]; exact l2)]
  show ((Option.map _ (lcL (inZ pl) (hN 16) tT _ [x0, some .st, x2, x3, x4, x5, x6, x7, x8, some (.ml (inZ pl)), x10, x11, x12, x13, x14, x15, none] s)).bind _) = _
  rw [e]; rfl
end K00
/-! the law's turn, the law -/
namespace K00
open PySem PySem.Spec PyProof.Rows L2 GF
theorem lists_same {E : List Int} {B : List (Int × Int)} : mNe (.tuple [.list (inZ E), .list (inP B)]) (.tuple [.list (inZ E), .list (inP B)]) = some (.bool false) := by
  refine mNe_self (k := 3) (by decide) ?_
  unfold okD okDs okDs okDs
  rw [show okD 2 (.list (inZ E)) = true from ok_inZ E, show okD 2 (.list (inP B)) = true by unfold okD; exact okDs_inP B]; rfl
/-- the line's answers -/
theorem st1213 {ps : List (Int × Int)} (P : Piles ps) (hl : ps.length ≤ 5) {x0 x2 x3 x4 x5 x6 x7 x8 x9 x11 x12 x13 x14 x15 x16 : Option Sl} (s : DS) : ∃ told : D,
    dAsg 11 (xE (dCall m_line_end (dCons (dFr (dBwF (dCallF mList (dCons (dVar 10) dNil)))) dNil))) [x0, some .st, x2, x3, x4, x5, x6, x7, x8, x9, some (.ml (inP ps)), x11, x12, x13, x14, x15, x16] s = some (.nx [x0, some .st, x2, x3, x4, x5, x6, x7, x8, x9, some (.ml (inP ps)), some (.im told), x12, x13, x14, x15, x16] s) ∧
    dIf (dBwT (dOr (dTest (dOp mNe (dVar 11) (dCall m_lline (dCons (dVar 10) dNil)))) (dTest (dOp mNe (dCall m_moment (dCons (dFr (dCallF mList (dCons (dOp mIx (dVar 11) (dC (.int 0))) dNil))) dNil)) (dCall mSum (dCons (dFr (dLc [16] (dItems (dOp mIx (dVar 11) (dC (.int 0)))) (hN 16) tT (dOp mMul (dVar 16) (dVar 16)))) dNil)))))) (dRet (dC (.bool false))) dSkip [x0, some .st, x2, x3, x4, x5, x6, x7, x8, x9, some (.ml (inP ps)), some (.im told), x12, x13, x14, x15, x16] s = some (.nx [x0, some .st, x2, x3, x4, x5, x6, x7, x8, x9, some (.ml (inP ps)), some (.im told), x12, x13, x14, x15, x16] s) := by
  obtain ⟨E, B, R, e1⟩ := line_end_eq P (by omega)
  obtain ⟨E', B', R', e2⟩ := lline_eq P.toPiles0 (by omega)
  obtain ⟨rfl, rfl⟩ := R.same R'
  obtain ⟨b1, b2⟩ := R.bnd P.few
  have nl : noLsts (inP ps) = true := noLsts_inP ps
  have mo := moment_eq b1 b2
  have l2 : E.length ≤ 16777216 := by omega
  have at0 : atI [PyData.list (inZ E), PyData.list (inP B)] 0 = some (.list (inZ E)) := atI_nat (j := 0) rfl
  refine ⟨.tuple [.list (inZ E), .list (inP B)], by simp [nl, e1], ?_⟩
  have sq := fun (x1 x10 : Option Sl) => lc_sq (i := 16) (ρ := [x0.map frzS, x1, x2.map frzS, x3.map frzS, x4.map frzS, x5.map frzS, x6.map frzS, x7.map frzS, x8.map frzS, x9.map frzS, x10, some (.im (.tuple [.list (inZ E), .list (inP B)])), x12.map frzS, x13.map frzS, x14.map frzS, x15.map frzS, none]) (s := s) b1 fun x => ⟨_, rfl, rfl⟩
  simp [e2, lists_same, at0, mo, l2, sq, mSum_eq]
theorem few_one {g : Int} (h0 : 0 ≤ g) (h1 : g < 80) : Piles0 [(0, g)] ∧ ∀ x, gz (initP [(0, g)]) x = if x = 0 then g else 0 := by
  have e : initP [(0, g)] = [(0, g)] := init_eq (by simp)
  have z : ∀ x, gz (initP [(0, g)]) x = if x = 0 then g else 0 := fun x => by
    rw [e, gz_cons]; rfl
  refine ⟨⟨fun x => ?_, fun x hx => ?_, ?_⟩, z⟩
  · rw [z]; split <;> omega
  · rw [e] at hx
    have : x = 0 := by simpa [keysP] using hx
    omega
  · rw [e]; simp [keysP]
theorem st1416 {x0 x2 x3 x4 x5 x6 x7 x8 x9 x10 x11 x12 x13 x14 x15 x16 : Option Sl} (s : DS) : ∃ (y12 y13 : Option Sl) (s' : DS),
    dAsg 12 (xE (dCallS 1 m_draw (dCons (dC (.int 80)) dNil))) [x0, some .st, x2, x3, x4, x5, x6, x7, x8, x9, x10, x11, x12, x13, x14, x15, x16] s = some (.nx [x0, some .st, x2, x3, x4, x5, x6, x7, x8, x9, x10, x11, y12, x13, x14, x15, x16] s') ∧
    dAsg 13 (xE (dCall m_lline (dCons (dFr (dLst (dCons (dTup (dCons (dC (.int 0)) (dCons (dVar 12) dNil))) dNil))) dNil))) [x0, some .st, x2, x3, x4, x5, x6, x7, x8, x9, x10, x11, y12, x13, x14, x15, x16] s' = some (.nx [x0, some .st, x2, x3, x4, x5, x6, x7, x8, x9, x10, x11, y12, y13, x14, x15, x16] s') ∧
    dIf (dOr (dTest (dOp mNe (dFr (dCallF mList (dCons (dCall m_pile_end (dCons (dVar 12) dNil)) dNil))) (dOp mIx (dVar 13) (dC (.int 0))))) (dTest (dOp mNe (dFr (dCallF mList (dCons (dCall m_pile_book (dCons (dVar 12) dNil)) dNil))) (dOp mIx (dVar 13) (dC (.int 1)))))) (dRet (dC (.bool false))) dSkip [x0, some .st, x2, x3, x4, x5, x6, x7, x8, x9, x10, x11, y12, y13, x14, x15, x16] s' = some (.nx [x0, some .st, x2, x3, x4, x5, x6, x7, x8, x9, x10, x11, y12, y13, x14, x15, x16] s') := by
  obtain ⟨v, s', e, lt⟩ := draw_ex (m := 80) (by decide) (by decide) s
  obtain ⟨P, z⟩ := few_one (g := v) (by omega) (by omega)
  obtain ⟨E, B, R, e2⟩ := lline_eq P (by simp)
  obtain ⟨rE, rB⟩ := pile_res (by omega) z R
  have p1 := pile_end_eq (g := v) (by omega) (by omega)
  have p2 := pile_book_eq (g := v) (by omega) (by omega)
  rw [← rE] at p1
  rw [← rB] at p2
  have at0 : atI [PyData.list (inZ E), PyData.list (inP B)] 0 = some (.list (inZ E)) := atI_nat (j := 0) rfl
  have at1 : atI [PyData.list (inZ E), PyData.list (inP B)] 1 = some (.list (inP B)) := atI_nat (j := 1) rfl
  have n1 : mNe (.list (inZ E)) (.list (inZ E)) = some (.bool false) := mNe_self (k := 1) (by decide) (ok_inZ E)
  have n2 : mNe (.list (inP B)) (.list (inP B)) = some (.bool false) := mNe_self (k := 2) (by decide) (by unfold okD; exact okDs_inP B)
  rw [show inP [(0, (v : Int))] = [.tuple [.int 0, .int v]] from rfl] at e2
  exact ⟨some (.im (.int v)), some (.im (.tuple [.list (inZ E), .list (inP B)])), s', by simp [e], by simp [e2], by simp [p1, p2, at0, at1, n1, n2]⟩
/-- a turn -/
theorem turn {x0 x2 x3 x4 x5 x6 x7 x8 x9 x10 x11 x12 x13 x14 x15 x16 : Option Sl} (s : DS) : ∃ y3 y4 y5 y6 y7 y8 y9 y10 y11 y12 y13 y14 y15 y16 s', Run d_law_2 [x0, some .st, x2, x3, x4, x5, x6, x7, x8, x9, x10, x11, x12, x13, x14, x15, x16] s (.nx [x0, some .st, x2, y3, y4, y5, y6, y7, y8, y9, y10, y11, y12, y13, y14, y15, y16] s') := by
  obtain ⟨n, s1, h3, hn, e1⟩ := st1 (x0 := x0) (x2 := x2) (x3 := x3) (x4 := x4) (x5 := x5) (x6 := x6) (x7 := x7) (x8 := x8) (x9 := x9) (x10 := x10) (x11 := x11) (x12 := x12) (x13 := x13) (x14 := x14) (x15 := x15) (x16 := x16) s
  obtain ⟨k, s2, hk, e2⟩ := st2 h3 hn (x0 := x0) (x2 := x2) (x4 := x4) (x5 := x5) (x6 := x6) (x7 := x7) (x8 := x8) (x9 := x9) (x10 := x10) (x11 := x11) (x12 := x12) (x13 := x13) (x14 := x14) (x15 := x15) (x16 := x16) s1
  obtain ⟨sp, s3, l3, m3, e3⟩ := st3 h3 hn (x0 := x0) (x2 := x2) (x4 := x4) (x5 := x5) (x6 := x6) (x7 := x7) (x8 := x8) (x9 := x9) (x10 := x10) (x11 := x11) (x12 := x12) (x13 := x13) (x14 := some (.ml (inZ (List.replicate n 0)))) (x15 := some (.im (.int k))) (x16 := x16) s2
  obtain ⟨h, y5, s4, hl, hc, hs, e4⟩ := st4 h3 hn hk l3 m3 (x0 := x0) (x2 := x2) (x5 := x5) (x6 := x6) (x7 := x7) (x8 := x8) (x9 := x9) (x10 := x10) (x11 := x11) (x12 := x12) (x13 := x13) (x16 := x16) s3
  obtain ⟨due, e5, e6⟩ := st56 h3 hn hl hc hs (x0 := x0) (x2 := x2) (x4 := some (.ml (inZ sp))) (x5 := y5) (x6 := x6) (x7 := x7) (x8 := x8) (x9 := x9) (x10 := x10) (x11 := x11) (x12 := x12) (x13 := x13) (x16 := x16) s4
  obtain ⟨y7, y8, s5, _, _, _, _, e7, e8, e9⟩ := st789 (x0 := x0) (x2 := x2) (x3 := some (.im (.int n))) (x4 := some (.ml (inZ sp))) (x5 := y5) (x6 := some (.im due)) (x7 := x7) (x8 := x8) (x9 := x9) (x10 := x10) (x11 := x11) (x12 := x12) (x13 := x13) (x14 := some (.ml (inZ h))) (x15 := some (.im (.int k))) (x16 := x16) s4
  obtain ⟨pl, s6, p1, p2, p3, p4, e10⟩ := st10 (x0 := x0) (x2 := x2) (x3 := some (.im (.int n))) (x4 := some (.ml (inZ sp))) (x5 := y5) (x6 := some (.im due)) (x7 := y7) (x8 := y8) (x9 := x9) (x10 := x10) (x11 := x11) (x12 := x12) (x13 := x13) (x14 := some (.ml (inZ h))) (x15 := some (.im (.int k))) (x16 := x16) s5
  obtain ⟨ps, s7, P, pl5, e11⟩ := st11 p1 p2 p3 p4 (x0 := x0) (x2 := x2) (x3 := some (.im (.int n))) (x4 := some (.ml (inZ sp))) (x5 := y5) (x6 := some (.im due)) (x7 := y7) (x8 := y8) (x10 := x10) (x11 := x11) (x12 := x12) (x13 := x13) (x14 := some (.ml (inZ h))) (x15 := some (.im (.int k))) (x16 := x16) s6
  obtain ⟨told, e12, e13⟩ := st1213 P pl5 (x0 := x0) (x2 := x2) (x3 := some (.im (.int n))) (x4 := some (.ml (inZ sp))) (x5 := y5) (x6 := some (.im due)) (x7 := y7) (x8 := y8) (x9 := some (.ml (inZ pl))) (x11 := x11) (x12 := x12) (x13 := x13) (x14 := some (.ml (inZ h))) (x15 := some (.im (.int k))) (x16 := x16) s7
  obtain ⟨y12, y13, s8, e14, e15, e16⟩ := st1416 (x0 := x0) (x2 := x2) (x3 := some (.im (.int n))) (x4 := some (.ml (inZ sp))) (x5 := y5) (x6 := some (.im due)) (x7 := y7) (x8 := y8) (x9 := some (.ml (inZ pl))) (x10 := some (.ml (inP ps))) (x11 := some (.im told)) (x12 := x12) (x13 := x13) (x14 := some (.ml (inZ h))) (x15 := some (.im (.int k))) (x16 := x16) s7
  refine ⟨some (.im (.int n)), some (.ml (inZ sp)), y5, some (.im due), y7, y8, some (.ml (inZ pl)), some (.ml (inP ps)), some (.im told), y12, y13, some (.ml (inZ h)), some (.im (.int k)), x16, s8, run_seq0 e1 (run_seq0 e2 (run_seq0 e3 (run_seq (mono_for mono_d_law_1) (mono_c _) e4 ?_)))⟩
  exact run_c (by
    rw [x_seq, e5, Option.bind_some]
    dsimp only
    rw [x_seq, e6, Option.bind_some]
    dsimp only
    rw [x_seq, e7, Option.bind_some]
    dsimp only
    rw [x_seq, e8, Option.bind_some]
    dsimp only
    rw [x_seq, e9, Option.bind_some]
    dsimp only
    rw [x_seq, e10, Option.bind_some]
    dsimp only
    rw [x_seq, e11, Option.bind_some]
    dsimp only
    rw [x_seq, e12, Option.bind_some]
    dsimp only
    rw [x_seq, e13, Option.bind_some]
    dsimp only
    rw [x_seq, e14, Option.bind_some]
    dsimp only
    rw [x_seq, e15, Option.bind_some]
    exact e16)
/-! the last row -/
theorem ring_200 : m_ring_end [.int 3, .tuple [.int 2, .int 0, .int 0]] = some (.tuple [.int 0, .int 1, .int 1]) := by
  obtain ⟨r, R, e⟩ := ring_end_eq (n := 3) (h0 := [2, 0, 0]) (by decide) (by decide) rfl (fun x hx => by
    match x, hx with
    | 0, _ => decide
    | 1, _ => decide
    | 2, _ => decide)
  have R0 : RI 3 (cAt [2, 0, 0]) (cAt [2, 0, 0]) (cAt (List.replicate 3 0)) (fun _ => 0) 0 := by
    have := RI.start (n := 3) (c0 := cAt [2, 0, 0]) (fun x hx => by
      match x, hx with
      | 0, _ => decide
      | 1, _ => decide
      | 2, _ => decide)
    rw [show (cAt (List.replicate 3 0)) = fun _ => 0 from funext fun x => cAt_rep]
    exact this
  have R1 := RI.fireL (n := 3) (h := [2, 0, 0]) (m := List.replicate 3 0) (p := 0) (by decide) rfl rfl (by decide) (by decide) R0
  have : RingRes 3 [2, 0, 0] (some [0, 1, 1]) := .inl ⟨_, _, _, _, R1, rfl, fun x hx => by
      match x, hx with
      | 0, _ => decide
      | 1, _ => decide
      | 2, _ => decide, rfl⟩
  rw [R.same (by decide) this] at e
  exact e
theorem ring_111 : m_ring_end [.int 3, .tuple [.int 1, .int 1, .int 1]] = some (.tuple [.int 1, .int 1, .int 1]) := by
  obtain ⟨r, R, e⟩ := ring_end_eq (n := 3) (h0 := [1, 1, 1]) (by decide) (by decide) rfl (fun x hx => by
    match x, hx with
    | 0, _ => decide
    | 1, _ => decide
    | 2, _ => decide)
  have R0 : RI 3 (cAt [1, 1, 1]) (cAt [1, 1, 1]) (cAt (List.replicate 3 0)) (fun _ => 0) 0 := by
    have := RI.start (n := 3) (c0 := cAt [1, 1, 1]) (fun x hx => by
      match x, hx with
      | 0, _ => decide
      | 1, _ => decide
      | 2, _ => decide)
    rw [show (cAt (List.replicate 3 0)) = fun _ => 0 from funext fun x => cAt_rep]
    exact this
  have : RingRes 3 [1, 1, 1] (some [1, 1, 1]) := .inl ⟨_, _, _, _, R0, rfl, fun x hx => by
      match x, hx with
      | 0, _ => decide
      | 1, _ => decide
      | 2, _ => decide, rfl⟩
  rw [R.same (by decide) this] at e
  exact e
theorem plain_law : Plain := by
  intro s
  have loop := run_for (G := d_law_2) (hx := hN 2) (fs := dRng1 (dCons (dC (.int 6)) dNil)) (ds := inZ (rangeI 0 6)) (ρ := none :: some .st :: List.replicate 15 none) (s := s) (s1 := s) mono_d_law_2
    (fun j ρ s => ∃ x2 x3 x4 x5 x6 x7 x8 x9 x10 x11 x12 x13 x14 x15 x16, ρ = [none, some .st, x2, x3, x4, x5, x6, x7, x8, x9, x10, x11, x12, x13, x14, x15, x16])
    (by rfl)
    (fun j d ρ s hd I => by
      obtain ⟨x2, x3, x4, x5, x6, x7, x8, x9, x10, x11, x12, x13, x14, x15, x16, rfl⟩ := I
      obtain ⟨y3, y4, y5, y6, y7, y8, y9, y10, y11, y12, y13, y14, y15, y16, s', e⟩ := turn (x0 := none) (x2 := some (.im d)) (x3 := x3) (x4 := x4) (x5 := x5) (x6 := x6) (x7 := x7) (x8 := x8) (x9 := x9) (x10 := x10) (x11 := x11) (x12 := x12) (x13 := x13) (x14 := x14) (x15 := x15) (x16 := x16) s
      exact ⟨_, _, s', rfl, .inl e, _, _, _, _, _, _, _, _, _, _, _, _, _, _, _, rfl⟩)
    ⟨_, _, _, _, _, _, _, _, _, _, _, _, _, _, _, rfl⟩
  obtain ⟨ρ', s', run, x2, x3, x4, x5, x6, x7, x8, x9, x10, x11, x12, x13, x14, x15, x16, rfl⟩ := loop
  have q1 := mEq_self (k := 1) (by decide) (d := .tuple [.int 0, .int 1, .int 1]) rfl
  have q2 := mEq_self (k := 1) (by decide) (d := .tuple [.int 1, .int 1, .int 1]) rfl
  have q3 := mEq_self (k := 1) (by decide) (d := .list [.int 0, .int 1, .int (-1), .int 2, .int (-2)]) rfl
  have p5 : m_pointer_line [.int 5] = some (.list [.int 0, .int 1, .int (-1), .int 2, .int (-2)]) := pointers_five
  obtain ⟨n, e⟩ := run_seqL (G' := dRet (dAndV (dOp mEq (dCall m_ring_end (dCons (dC (.int 3)) (dCons (dTup (dCons (dC (.int 2)) (dCons (dC (.int 0)) (dCons (dC (.int 0)) dNil)))) dNil))) (dTup (dCons (dC (.int 0)) (dCons (dC (.int 1)) (dCons (dC (.int 1)) dNil))))) (dAndV (dOp mEq (dCall m_ring_end (dCons (dC (.int 3)) (dCons (dTup (dCons (dC (.int 1)) (dCons (dC (.int 1)) (dCons (dC (.int 1)) dNil)))) dNil))) (dTup (dCons (dC (.int 1)) (dCons (dC (.int 1)) (dCons (dC (.int 1)) dNil))))) (dOp mEq (dCall m_pointer_line (dCons (dC (.int 5)) dNil)) (dFr (dLst (dCons (dC (.int 0)) (dCons (dC (.int 1)) (dCons (dNeg (dC (.int 1))) (dCons (dC (.int 2)) (dCons (dNeg (dC (.int 2))) dNil)))))))))))
    (o := .rt (.bool true) s') run (by simp [ring_200, ring_111, p5, q1, q2, q3])
  exact ⟨n, s', e⟩
end K00
open PySem PySem.W PyProof.Rows
set_option maxHeartbeats 0 in
theorem PySem.Challenge.cw_grainsfall_k00_whole_ring_ends_and_point_holds : PySem.Challenge.rw_grainsfall_k00_whole_ring_ends_and_point.Holds := by
  w_on; o_law; k_head; (case hw => w_witness2)
  k_fill
  refine L2.walk_of (l := PySem.Challenge.rw_grainsfall_k00_whole_ring_ends_and_point) (n := 63) (k := 3) (x := "script") (CX := fun _ => L2.CX0) (sp := fun w => GF.spLaw _) rfl (by decide) rfl ⟨rfl, by decide, by decide⟩ (fun w h Y => PySem.W.kIn_of Y) ?F (fun _ _ a ns hl _ hS => ⟨a, ns, rfl, hS, hl, fun _ => rfl⟩) (fun _ _ _ _ _ h => h)
  case F =>
    intro w mg fa h KX G hmg
    refine' K00.all_mk K00.plain_law KX G hmg ?a0 ?l0 ?c0 ?k0 ?a1 ?l1 ?c1 ?k1 ?a2 ?l2 ?c2 ?k2 ?a3 ?l3 ?c3 ?k3 ?a4 ?l4 ?c4 ?k4 ?a5 ?l5 ?c5 ?k5 ?a6 ?l6 ?c6 ?k6 ?a7 ?l7 ?c7 ?k7 ?a8 ?l8 ?c8 ?k8 ?a9 ?l9 ?c9 ?k9 ?a10 ?l10 ?c10 ?k10 ?a11 ?l11 ?c11 ?k11 ?a12 ?l12 ?c12 ?k12 ?a13 ?l13 ?c13 ?k13 ?y_abs ?y_enumerate ?y_int ?y_len ?y_list ?y_max ?y_min ?y_range ?y_set ?y_sorted ?y_sum ?y_tuple
    (case a0 => k_is); (case l0 => k_is); (case c0 => k_is); (case k0 => k_is); (case a1 => k_is); (case l1 => k_is); (case c1 => k_is); (case k1 => k_is); (case a2 => k_is); (case l2 => k_is); (case c2 => k_is); (case k2 => k_is); (case a3 => k_is); (case l3 => k_is); (case c3 => k_is); (case k3 => k_is); (case a4 => k_is); (case l4 => k_is); (case c4 => k_is); (case k4 => k_is); (case a5 => k_is); (case l5 => k_is); (case c5 => k_is); (case k5 => k_is); (case a6 => k_is); (case l6 => k_is); (case c6 => k_is); (case k6 => k_is); (case a7 => k_is); (case l7 => k_is); (case c7 => k_is); (case k7 => k_is); (case a8 => k_is); (case l8 => k_is); (case c8 => k_is); (case k8 => k_is); (case a9 => k_is); (case l9 => k_is); (case c9 => k_is); (case k9 => k_is); (case a10 => k_is); (case l10 => k_is); (case c10 => k_is); (case k10 => k_is); (case a11 => k_is); (case l11 => k_is); (case c11 => k_is); (case k11 => k_is); (case a12 => k_is); (case l12 => k_is); (case c12 => k_is); (case k12 => k_is); (case a13 => k_is); (case l13 => k_is); (case c13 => k_is); (case k13 => k_is); (case y_abs => k_is); (case y_enumerate => k_is); (case y_int => k_is); (case y_len => k_is); (case y_list => k_is); (case y_max => k_is); (case y_min => k_is); (case y_range => k_is); (case y_set => k_is); (case y_sorted => k_is); (case y_sum => k_is); (case y_tuple => k_is)
