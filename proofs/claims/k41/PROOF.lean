import PyProof.Rows.All
import Wide.All
import OpenK.AllK
import Wide.FinOn
import HandS.ForMost
import HandS.Wide
import HandS.WideBits
import HandS.IsInst
import HandS.Words
import HandS.WordsExc
import HandS.Defaults
import HandS.Comp
import HandS.Deep
import HandS.NoneIn
import HandS.Head0
import HandS.Head1
import HandS.Head2
import HandS.HeadEnd
import HandS.HeadHook1
import HandS.HeadHook2
import PySem.Challenge.RW_restdraw_k41_hands
set_option Elab.async false
set_option linter.all false
set_option autoImplicit false
set_option exponentiation.threshold 100000
set_option maxRecDepth 100000
set_option maxHeartbeats 4000000
/-! DL1: mirrors' monad, environments of slots, what is owned -/
namespace DL
open PySem PySem.Spec L2
/-- data, without places; scr: the script -/
inductive D where
  | none
  | bool (b : Bool)
  | int (i : Int)
  | str (s : Str)
  | list (xs : List D)
  | tuple (xs : List D)
  | dict (kvs : List (D × D))
  | scr (ns : List Int)

/-! ### the mirrors' monad -/
structure Exn where
  cls : String
  fld : Option D
inductive R (α : Type) where
  | ok (a : α)
  | err (e : Exn)
  | bad
namespace R
def bind {α β : Type} : R α → (α → R β) → R β
  | .ok a, f => f a
  | .err e, _ => .err e
  | .bad, _ => .bad
def post {α : Type} (m : R α) (φ : α → Prop) (ψ : Exn → Prop) : Prop := match m with
  | .ok a => φ a
  | .err e => ψ e
  | .bad => False
theorem post_bind {α β : Type} {m : R α} {f : α → R β} {φ : β → Prop} {ψ : Exn → Prop} : (m.bind f).post φ ψ ↔ m.post (fun a => (f a).post φ ψ) ψ := by
  cases m <;> exact Iff.rfl
theorem post_mono {α : Type} {m : R α} {φ φ' : α → Prop} {ψ : Exn → Prop} (h : m.post φ ψ) (k : ∀ a, φ a → φ' a) : m.post φ' ψ := by
  cases m with
  | ok a => exact k a h
  | err e => exact h
  | bad => exact h
/-- go on where it holds -/
def guard (c : Prop) [Decidable c] : R Unit := if c then .ok () else .bad
theorem post_guard {c : Prop} [Decidable c] {φ : Unit → Prop} {ψ : Exn → Prop} (h : (guard c).post φ ψ) : c ∧ φ () := by
  unfold guard at h
  by_cases hc : c
  · rw [if_pos hc] at h
    exact ⟨hc, h⟩
  · rw [if_neg hc] at h
    exact h.elim
/-- what must be there -/
def some {α : Type} : Option α → R α
  | .some a => .ok a
  | .none => .bad
theorem post_some {α : Type} {o : Option α} {φ : α → Prop} {ψ : Exn → Prop} (h : (some o).post φ ψ) : ∃ a, o = .some a ∧ φ a := by
  cases o with
  | none => exact h.elim
  | some a => exact ⟨a, rfl, h⟩
end R

/-! ### heaps that grow -/
def Ex (H H' : Hp) : Prop := ∀ a o, H a = some o → H' a = some o
theorem Ex.refl (H : Hp) : Ex H H := fun _ _ h => h
theorem Ex.trans {H H1 H2 : Hp} (a : Ex H H1) (b : Ex H1 H2) : Ex H H2 := fun x o h => b x o (a x o h)
theorem Ex.new {H : Hp} {p : Addr} {o : HO} (h : H p = none) : Ex H (upd H p o) := fun a u e => by
  rw [upd_ne (ne_of_none e h)]
  exact e
theorem Ex.upd {H H' : Hp} (e : Ex H H') (p : Addr) (o : HO) : Ex (upd H p o) (upd H' p o) := fun a u h => by
  by_cases ha : a = p
  · subst ha
    rw [upd_same] at h ⊢
    exact h
  · rw [upd_ne ha] at h ⊢
    exact e a u h
theorem Ex.rd {H H' : Hp} {a : Addr} {u : HO} (e : Ex H H') (h : Rd H a u) : Rd H' a u := by
  rcases h with h | ⟨o, h⟩
  · exact Or.inl (e a _ h)
  · exact Or.inr ⟨o, e a _ h⟩
theorem Ex.l {K : PySem.W.Frag} {H H' : Hp} {a : Addr} {xs : List V} (e : Ex H H') (h : SqL K H a xs) : SqL K H' a xs := by
  rcases h with h | h
  · exact Or.inl (e.rd h)
  · exact Or.inr h
theorem Ex.t {K : PySem.W.Frag} {H H' : Hp} {a : Addr} {xs : List V} (e : Ex H H') (h : SqT K H a xs) : SqT K H' a xs := by
  rcases h with h | h
  · exact Or.inl (e.rd h)
  · exact Or.inr h
theorem Ex.back {H H' : Hp} {p : Addr} (e : Ex H H') (h : H' p = none) : H p = none := by
  cases h1 : H p with
  | none => rfl
  | some o =>
    rw [e p o h1] at h
    cases h

/-! ### data in the heap (as Dp, and dicts) -/
mutual
inductive Rp (K : PySem.W.Frag) (G : Hp) : V → D → Prop
  | non : Rp K G .non .none
  | bl (b : Bool) : Rp K G (.bl b) (.bool b)
  | int (i : Int) : Rp K G (.int i) (.int i)
  | str (x : Str) : Rp K G (.str x) (.str x)
  | lst {a : Addr} {xs : List V} {ds : List D} : Rd G a (.lst xs) → RpAll K G xs ds → Rp K G (.ref a) (.list ds)
  | tup {a : Addr} {xs : List V} {ds : List D} : SqT K G a xs → RpAll K G xs ds → Rp K G (.ref a) (.tuple ds)
  | scr {a : Addr} {ns : List Int} : SqL K G a (ns.map V.int) → Rp K G (.ref a) (.scr ns)
  | dK {a : Addr} {kvs : List (Key × V)} {ds : List (D × D)} : G a = some (.dK kvs) → RpK K G kvs ds → Rp K G (.ref a) (.dict ds)
  | dT {a : Addr} {kvs : List (List Key × V)} {ds : List (D × D)} : G a = some (.dT kvs) → RpT K G kvs ds → Rp K G (.ref a) (.dict ds)
inductive RpAll (K : PySem.W.Frag) (G : Hp) : List V → List D → Prop
  | nil : RpAll K G [] []
  | cons {v : V} {vs : List V} {d : D} {ds : List D} : Rp K G v d → RpAll K G vs ds → RpAll K G (v :: vs) (d :: ds)
inductive RpK (K : PySem.W.Frag) (G : Hp) : List (Key × V) → List (D × D) → Prop
  | nil : RpK K G [] []
  | cons {k : Key} {v : V} {r : List (Key × V)} {d : D} {ds : List (D × D)} : Rp K G v d → RpK K G r ds → RpK K G ((k, v) :: r) ((match k with | .inl i => D.int i | .inr x => D.str x, d) :: ds)
inductive RpT (K : PySem.W.Frag) (G : Hp) : List (List Key × V) → List (D × D) → Prop
  | nil : RpT K G [] []
  | cons {k : List Key} {v : V} {r : List (List Key × V)} {d : D} {ds : List (D × D)} : Rp K G v d → RpT K G r ds → RpT K G ((k, v) :: r) ((D.tuple (k.map fun k => match k with | .inl i => D.int i | .inr x => D.str x), d) :: ds)
end
mutual
theorem Rp.ex {K : PySem.W.Frag} {G G' : Hp} (e : Ex G G') : ∀ {v : V} {d : D}, Rp K G v d → Rp K G' v d
  | _, _, .non => .non
  | _, _, .bl b => .bl b
  | _, _, .int i => .int i
  | _, _, .str x => .str x
  | _, _, .lst h r => .lst (e.rd h) (RpAll.ex e r)
  | _, _, .tup h r => .tup (e.t h) (RpAll.ex e r)
  | _, _, .scr h => .scr (e.l h)
  | _, _, .dK h r => .dK (e _ _ h) (RpK.ex e r)
  | _, _, .dT h r => .dT (e _ _ h) (RpT.ex e r)
theorem RpAll.ex {K : PySem.W.Frag} {G G' : Hp} (e : Ex G G') : ∀ {v : List V} {d : List D}, RpAll K G v d → RpAll K G' v d
  | _, _, .nil => .nil
  | _, _, .cons h r => .cons (Rp.ex e h) (RpAll.ex e r)
theorem RpK.ex {K : PySem.W.Frag} {G G' : Hp} (e : Ex G G') : ∀ {v : List (Key × V)} {d : List (D × D)}, RpK K G v d → RpK K G' v d
  | _, _, .nil => .nil
  | _, _, .cons h r => .cons (Rp.ex e h) (RpK.ex e r)
theorem RpT.ex {K : PySem.W.Frag} {G G' : Hp} (e : Ex G G') : ∀ {v : List (List Key × V)} {d : List (D × D)}, RpT K G v d → RpT K G' v d
  | _, _, .nil => .nil
  | _, _, .cons h r => .cons (Rp.ex e h) (RpT.ex e r)
end
section
variable {K : PySem.W.Frag} {G : Hp}
theorem Rp.int_inv {v : V} {i : Int} (h : Rp K G v (.int i)) : v = .int i := by
  cases h
  rfl
theorem Rp.bl_inv {v : V} {b : Bool} (h : Rp K G v (.bool b)) : v = .bl b := by
  cases h
  rfl
theorem Rp.str_inv {v : V} {b : Str} (h : Rp K G v (.str b)) : v = .str b := by
  cases h
  rfl
theorem Rp.non_inv {v : V} (h : Rp K G v .none) : v = .non := by
  cases h
  rfl
theorem Rp.lst_inv {v : V} {ds : List D} (h : Rp K G v (.list ds)) : ∃ a xs, v = .ref a ∧ Rd G a (.lst xs) ∧ RpAll K G xs ds := by
  cases h with
  | lst h r => exact ⟨_, _, rfl, h, r⟩
theorem Rp.tup_inv {v : V} {ds : List D} (h : Rp K G v (.tuple ds)) : ∃ a xs, v = .ref a ∧ SqT K G a xs ∧ RpAll K G xs ds := by
  cases h with
  | tup h r => exact ⟨_, _, rfl, h, r⟩
theorem RpAll.len : ∀ {vs : List V} {ds : List D}, RpAll K G vs ds → vs.length = ds.length
  | _, _, .nil => rfl
  | _, _, .cons _ r => by rw [List.length_cons, List.length_cons, RpAll.len r]
theorem RpAll.get : ∀ {vs : List V} {ds : List D} {i : Nat} {d : D}, RpAll K G vs ds → ds[i]? = some d → ∃ v, vs[i]? = some v ∧ Rp K G v d
  | _, _, _, _, .nil, e => by simp at e
  | _, _, 0, _, .cons h _, e => by
    simp at e
    subst e
    exact ⟨_, rfl, h⟩
  | _, _, i + 1, _, .cons _ r, e => by
    obtain ⟨v, h1, h2⟩ := RpAll.get (i := i) r (by simpa using e)
    exact ⟨v, by simpa using h1, h2⟩
theorem RpAll.getV : ∀ {vs : List V} {ds : List D} {i : Nat} {v : V}, RpAll K G vs ds → vs[i]? = some v → ∃ d, ds[i]? = some d ∧ Rp K G v d
  | _, _, _, _, .nil, e => by simp at e
  | _, _, 0, _, .cons h _, e => by
    simp at e
    subst e
    exact ⟨_, rfl, h⟩
  | _, _, i + 1, _, .cons _ r, e => by
    obtain ⟨v, h1, h2⟩ := RpAll.getV (i := i) r (by simpa using e)
    exact ⟨v, by simpa using h1, h2⟩
theorem RpAll.append : ∀ {vs ws : List V} {ds es : List D}, RpAll K G vs ds → RpAll K G ws es → RpAll K G (vs ++ ws) (ds ++ es)
  | _, _, _, _, .nil, s => s
  | _, _, _, _, .cons h r, s => .cons h (RpAll.append r s)
theorem RpAll.take : ∀ {vs : List V} {ds : List D} (n : Nat), RpAll K G vs ds → RpAll K G (vs.take n) (ds.take n)
  | _, _, 0, _ => by
    rw [List.take_zero, List.take_zero]
    exact .nil
  | _, _, _ + 1, .nil => .nil
  | _, _, n + 1, .cons h r => .cons h (RpAll.take n r)
theorem RpAll.drop : ∀ {vs : List V} {ds : List D} (n : Nat), RpAll K G vs ds → RpAll K G (vs.drop n) (ds.drop n)
  | _, _, 0, r => r
  | _, _, _ + 1, .nil => .nil
  | _, _, n + 1, .cons _ r => RpAll.drop n r
theorem RpAll.ints : ∀ {vs : List V} {ns : List Int}, RpAll K G vs (ns.map D.int) → vs = ns.map V.int
  | _, [], .nil => rfl
  | _, n :: ns, .cons h r => by
    rw [List.map_cons, ← RpAll.ints r, Rp.int_inv h]
theorem RpAll.of_ints : ∀ (ns : List Int), RpAll K G (ns.map V.int) (ns.map D.int)
  | [] => .nil
  | n :: ns => .cons (.int n) (RpAll.of_ints ns)
theorem RpAll.bools : ∀ {vs : List V} {ns : List Bool}, RpAll K G vs (ns.map D.bool) → vs = ns.map V.bl
  | _, [], .nil => rfl
  | _, n :: ns, .cons h r => by
    rw [List.map_cons, ← RpAll.bools r, Rp.bl_inv h]
end
/-! ### what is owned: a tree of lists, at places of their own -/
inductive OT where
  | dat (d : D)
  | lst (os : List OT)
mutual
inductive Own (K : PySem.W.Frag) (G H : Hp) : V → OT → List Addr → Prop
  | dat {v : V} {d : D} : Rp K G v d → Own K G H v (.dat d) []
  | lst {a : Addr} {vs : List V} {os : List OT} {A : List Addr} : H a = some (.lst vs) → OwnAll K G H vs os A → Own K G H (.ref a) (.lst os) (a :: A)
inductive OwnAll (K : PySem.W.Frag) (G H : Hp) : List V → List OT → List Addr → Prop
  | nil : OwnAll K G H [] [] []
  | cons {v : V} {vs : List V} {o : OT} {os : List OT} {A A' : List Addr} : Own K G H v o A → OwnAll K G H vs os A' → OwnAll K G H (v :: vs) (o :: os) (A ++ A')
end
mutual
/-- what is owned stays where its places and the data do -/
theorem Own.ex {K : PySem.W.Frag} {G G' H H' : Hp} (e : Ex G G') : ∀ {v : V} {o : OT} {A : List Addr}, Own K G H v o A → (∀ a ∈ A, ∀ u, H a = some u → H' a = some u) → Own K G' H' v o A
  | _, _, _, .dat h, _ => .dat (h.ex e)
  | _, _, _, .lst h r, k => .lst (k _ (List.mem_cons_self) _ h) (OwnAll.ex e r fun a m => k a (List.mem_cons_of_mem _ m))
theorem OwnAll.ex {K : PySem.W.Frag} {G G' H H' : Hp} (e : Ex G G') : ∀ {v : List V} {o : List OT} {A : List Addr}, OwnAll K G H v o A → (∀ a ∈ A, ∀ u, H a = some u → H' a = some u) → OwnAll K G' H' v o A
  | _, _, _, .nil, _ => .nil
  | _, _, _, .cons h r, k => .cons (Own.ex e h fun a m => k a (List.mem_append_left _ m)) (OwnAll.ex e r fun a m => k a (List.mem_append_right _ m))
end
mutual
def OT.toD : OT → D
  | .dat d => d
  | .lst os => .list (OT.toDs os)
def OT.toDs : List OT → List D
  | [] => []
  | o :: os => o.toD :: OT.toDs os
end
mutual
/-- it stands in the heap -/
theorem Own.there {K : PySem.W.Frag} {G H : Hp} : ∀ {v : V} {o : OT} {A : List Addr}, Own K G H v o A → ∀ a ∈ A, ∃ u, H a = some u
  | _, _, _, .dat _, _, m => nomatch m
  | _, _, _, .lst h r, a, m => by
    rcases List.mem_cons.mp m with rfl | m
    · exact ⟨_, h⟩
    · exact OwnAll.there r a m
theorem OwnAll.there {K : PySem.W.Frag} {G H : Hp} : ∀ {v : List V} {o : List OT} {A : List Addr}, OwnAll K G H v o A → ∀ a ∈ A, ∃ u, H a = some u
  | _, _, _, .nil, _, m => nomatch m
  | _, _, _, .cons h r, a, m => by
    rcases List.mem_append.mp m with m | m
    · exact Own.there h a m
    · exact OwnAll.there r a m
end
mutual
/-- owned things, made data -/
theorem Own.rp {K : PySem.W.Frag} {G G' H : Hp} (e : Ex G G') : ∀ {v : V} {o : OT} {A : List Addr}, Own K G H v o A → (∀ a ∈ A, ∀ u, H a = some u → G' a = some u) → Rp K G' v o.toD
  | _, _, _, .dat h, _ => by
    rw [OT.toD]
    exact h.ex e
  | _, _, _, .lst h r, k => by
    rw [OT.toD]
    exact .lst (Or.inl (k _ (List.mem_cons_self) _ h)) (OwnAll.rp e r fun a m => k a (List.mem_cons_of_mem _ m))
theorem OwnAll.rp {K : PySem.W.Frag} {G G' H : Hp} (e : Ex G G') : ∀ {v : List V} {o : List OT} {A : List Addr}, OwnAll K G H v o A → (∀ a ∈ A, ∀ u, H a = some u → G' a = some u) → RpAll K G' v (OT.toDs o)
  | _, _, _, .nil, _ => by
    rw [OT.toDs]
    exact .nil
  | _, _, _, .cons h r, k => by
    rw [OT.toDs]
    exact .cons (Own.rp e h fun a m => k a (List.mem_append_left _ m)) (OwnAll.rp e r fun a m => k a (List.mem_append_right _ m))
end
end DL

/-! DL2: environments -/
namespace DL
open PySem PySem.Spec L2

inductive Slot where
  | non
  | val (d : D)
  | own (l : Nat) (o : OT)
  | ali (j : Nat) (path : List Nat)

structure Base where
  H0 : Hp
  G0 : Hp
  Mo : Nat → List Addr
  m0 : Mo 0 = []
  pv : Nat → Option V
  rs : Exn → Prop

structure Anc (B : Base) (G H : Hp) : Prop where
  keep : ∀ a o, (∀ l, a ∉ B.Mo l) → B.H0 a = some o → H a = some o
  there : ∀ a l, a ∈ B.Mo l → H a ≠ none
  gsub : Ex B.G0 G
  gnew : ∀ a, B.H0 a ≠ none → B.G0 a = none → G a = none
  sub : Ex G H
theorem Anc.fresh {B : Base} {G H : Hp} (h : Anc B G H) {p : Addr} (hp : H p = none) : B.H0 p = none := by
  cases e : B.H0 p with
  | none => rfl
  | some o =>
    by_cases hm : ∃ l, p ∈ B.Mo l
    · obtain ⟨l, hm⟩ := hm
      exact absurd hp (h.there p l hm)
    · rw [h.keep p o (fun l m => hm ⟨l, m⟩) e] at hp
      cases hp
theorem Anc.new {B : Base} {G H : Hp} (h : Anc B G H) {p : Addr} (hp : H p = none) (o : HO) : Anc B (upd G p o) (upd H p o) := by
  have h0 := h.fresh hp
  refine ⟨fun a u hm e => ?_, fun a l hm => ?_, h.gsub.trans (Ex.new (h.sub.back hp)), fun a e1 e2 => ?_, h.sub.upd p o⟩
  · rw [upd_ne (ne_of_none (h.keep a u hm e) hp)]
    exact h.keep a u hm e
  · by_cases ha : a = p
    · subst ha
      rw [upd_same]
      exact fun z => nomatch z
    · rw [upd_ne ha]
      exact h.there a l hm
  · have ha : a ≠ p := fun z => by
      subst z
      exact e1 h0
    rw [upd_ne ha]
    exact h.gnew a e1 e2
/-- a change of what is nobody's data: the caller's own argument, or new here -/
theorem Anc.put {B : Base} {G H : Hp} (h : Anc B G H) {p : Addr} (hG : G p = none) (hp : (∃ l, p ∈ B.Mo l) ∨ B.H0 p = none) (o : HO) : Anc B G (upd H p o) := by
  refine ⟨fun a u hm e => ?_, fun a l hm => ?_, h.gsub, h.gnew, fun a u e => ?_⟩
  · have ha : a ≠ p := fun z => by
      subst z
      rcases hp with ⟨l, hp⟩ | hp
      · exact hm l hp
      · rw [hp] at e
        cases e
    rw [upd_ne ha]
    exact h.keep a u hm e
  · by_cases ha : a = p
    · subst ha
      rw [upd_same]
      exact fun z => nomatch z
    · rw [upd_ne ha]
      exact h.there a l hm
  · rw [upd_ne (ne_of_none e hG)]
    exact h.sub a u e
/-- what is new here is made data -/
theorem Anc.frz {B : Base} {G H : Hp} (h : Anc B G H) {A : List Addr} (hA : ∀ a ∈ A, G a = none ∧ B.H0 a = none) : Anc B (fun a => if a ∈ A then H a else G a) H := by
  refine ⟨h.keep, h.there, fun a u e => ?_, fun a e1 e2 => ?_, fun a u e => ?_⟩
  · by_cases ha : a ∈ A
    · have z := (hA a ha).1.symm.trans (h.gsub a u e)
      cases z
    · show (if a ∈ A then H a else G a) = _
      rw [if_neg ha]
      exact h.gsub a u e
  · show (if a ∈ A then H a else G a) = _
    by_cases ha : a ∈ A
    · exact absurd (hA a ha).2 e1
    · rw [if_neg ha]
      exact h.gnew a e1 e2
  · have e : (if a ∈ A then H a else G a) = some u := e
    by_cases ha : a ∈ A
    · rw [if_pos ha] at e
      exact e
    · rw [if_neg ha] at e
      exact h.sub a u e

/-- a value and its slot, with the places it owns -/
inductive Cell (K : PySem.W.Frag) (B : Base) (G H : Hp) : Option V → Slot → List Addr → Prop
  | non {x : Option V} : Cell K B G H x .non []
  | val {v : V} {d : D} : Rp K G v d → Cell K B G H (some v) (.val d) []
  | own {v : V} {l : Nat} {o : OT} {A : List Addr} : Own K G H v o A → (∀ a ∈ A, a ∈ B.Mo l ∨ B.H0 a = none) → (l = 0 ∨ B.pv l = some v) → Cell K B G H (some v) (.own l o) A
  | ali {x : Option V} {j : Nat} {p : List Nat} : Cell K B G H x (.ali j p) []
inductive Cells (K : PySem.W.Frag) (B : Base) (G H : Hp) : List (Option V) → List Slot → List Addr → Prop
  | nil : Cells K B G H [] [] []
  | cons {x : Option V} {s : Slot} {A : List Addr} {σ : St} {ρ : List Slot} {A' : List Addr} : Cell K B G H x s A → Cells K B G H σ ρ A' → Cells K B G H (x :: σ) (s :: ρ) (A ++ A')
section
variable {K : PySem.W.Frag} {B : Base} {G G' H H' : Hp}
theorem Cell.ex {x : Option V} {s : Slot} {A : List Addr} (h : Cell K B G H x s A) (e : Ex G G') (k : ∀ a ∈ A, ∀ u, H a = some u → H' a = some u) : Cell K B G' H' x s A := by
  cases h with
  | non => exact .non
  | val h => exact .val (h.ex e)
  | own h l z => exact .own (h.ex e k) l z
  | ali => exact .ali
theorem Cells.ex {σ : St} {ρ : List Slot} {A : List Addr} (h : Cells K B G H σ ρ A) (e : Ex G G') (k : ∀ a ∈ A, ∀ u, H a = some u → H' a = some u) : Cells K B G' H' σ ρ A := by
  induction h with
  | nil => exact .nil
  | cons c r ih => exact .cons (c.ex e fun a m => k a (List.mem_append_left _ m)) (ih fun a m => k a (List.mem_append_right _ m))
theorem Cell.there {x : Option V} {s : Slot} {A : List Addr} (h : Cell K B G H x s A) : ∀ a ∈ A, ∃ u, H a = some u := by
  cases h with
  | non => exact fun _ m => nomatch m
  | val h => exact fun _ m => nomatch m
  | own h l _ => exact h.there
  | ali => exact fun _ m => nomatch m
theorem Cells.there {σ : St} {ρ : List Slot} {A : List Addr} (h : Cells K B G H σ ρ A) : ∀ a ∈ A, ∃ u, H a = some u := by
  induction h with
  | nil => exact fun _ m => nomatch m
  | cons c r ih =>
    intro a m
    rcases List.mem_append.mp m with m | m
    · exact c.there a m
    · exact ih a m
theorem Cells.len {σ : St} {ρ : List Slot} {A : List Addr} (h : Cells K B G H σ ρ A) : σ.length = ρ.length := by
  induction h with
  | nil => rfl
  | cons c r ih => rw [List.length_cons, List.length_cons, ih]
/-- one cell of them, the rest apart -/
theorem Cells.get {σ : St} {ρ : List Slot} {A : List Addr} (h : Cells K B G H σ ρ A) : ∀ {i : Nat} {s : Slot}, ρ[i]? = some s → ∃ x A1, σ[i]? = some x ∧ Cell K B G H x s A1 ∧ A1.Sublist A := by
  induction h with
  | nil => exact fun e => nomatch e
  | cons c r ih =>
    intro i s e
    cases i with
    | zero =>
      simp at e
      subst e
      exact ⟨_, _, rfl, c, List.sublist_append_left _ _⟩
    | succ i =>
      obtain ⟨x, A1, h1, h2, h3⟩ := ih (i := i) (s := s) (by simpa using e)
      exact ⟨x, A1, by simpa using h1, h2, h3.trans (List.sublist_append_right _ _)⟩
/-- a cell put in the place of one of them -/
theorem Cells.set {σ : St} {ρ : List Slot} {A : List Addr} (h : Cells K B G H σ ρ A) {x : Option V} {s : Slot} {A1 : List Addr} (c : Cell K B G H x s A1) : ∀ {i : Nat}, i < ρ.length → ∃ A' C, Cells K B G H (σ.set i x) (ρ.set i s) A' ∧ A'.Perm (A1 ++ C) ∧ C.Sublist A := by
  induction h with
  | nil => exact fun e => absurd e (Nat.not_lt_zero _)
  | @cons x0 s0 A0 σ ρ A' c0 r ih =>
    intro i hi
    cases i with
    | zero => exact ⟨A1 ++ A', A', .cons c r, List.Perm.refl _, List.sublist_append_right _ _⟩
    | succ i =>
      obtain ⟨A2, C, h1, h2, h3⟩ := ih (i := i) (by simpa using hi)
      refine ⟨A0 ++ A2, A0 ++ C, .cons c0 h1, ?_, h3.append_left _⟩
      have e1 : (A0 ++ A2).Perm (A0 ++ (A1 ++ C)) := h2.append_left _
      have e2 : (A0 ++ (A1 ++ C)).Perm (A1 ++ (A0 ++ C)) := by
        rw [← List.append_assoc, ← List.append_assoc]
        exact List.perm_append_comm.append_right C
      exact e1.trans e2
/-- two cells: apart -/
theorem Cells.swap2 {σ : St} {ρ : List Slot} {A : List Addr} {x y : Option V} {s t : Slot} (h : Cells K B G H (x :: y :: σ) (s :: t :: ρ) A) : ∃ A', Cells K B G H (y :: x :: σ) (t :: s :: ρ) A' ∧ A'.Perm A := by
  cases h with
  | cons c r =>
    cases r with
    | cons d r =>
      refine ⟨_, .cons d (.cons c r), ?_⟩
      rw [← List.append_assoc, ← List.append_assoc]
      exact List.perm_append_comm.append_right _
end
/-- slots forgotten: each is as it was or nothing is known -/
def forgot : List Slot → List Bool → List Slot
  | [], _ => []
  | s :: ρ, [] => s :: ρ
  | s :: ρ, b :: bs => (if b then s else .non) :: forgot ρ bs
theorem Cells.forgot {K : PySem.W.Frag} {B : Base} {G H : Hp} : ∀ {σ : St} {ρ : List Slot} {A : List Addr} (bs : List Bool), Cells K B G H σ ρ A → ∃ A', Cells K B G H σ (forgot ρ bs) A' ∧ A'.Sublist A
  | _, _, _, _, .nil => ⟨[], .nil, List.Sublist.refl _⟩
  | _, _, _, [], .cons c r => ⟨_, .cons c r, List.Sublist.refl _⟩
  | _, _, _, true :: bs, .cons c r => by
    obtain ⟨A', h1, h2⟩ := Cells.forgot bs r
    exact ⟨_, .cons c h1, h2.append_left _⟩
  | _, _, _, false :: bs, .cons c r => by
    obtain ⟨A', h1, h2⟩ := Cells.forgot bs r
    exact ⟨_, .cons (s := .non) .non h1, h2.trans (List.sublist_append_right _ _)⟩
theorem forgot_len : ∀ (ρ : List Slot) (bs : List Bool), (forgot ρ bs).length = ρ.length
  | [], _ => rfl
  | _ :: _, [] => rfl
  | _ :: ρ, b :: bs => by rw [forgot, List.length_cons, List.length_cons, forgot_len ρ bs]
theorem forgot_get : ∀ (ρ : List Slot) (bs : List Bool) (i : Nat) (s : Slot), (forgot ρ bs)[i]? = some s → s = .non ∨ ρ[i]? = some s
  | [], _, _, _, e => nomatch e
  | _ :: _, [], _, _, e => .inr e
  | s0 :: ρ, b :: bs, 0, s, e => by
    cases b with
    | true => exact .inr e
    | false =>
      simp [forgot] at e
      exact .inl e.symm
  | s0 :: ρ, b :: bs, i + 1, s, e => by
    have e : (forgot ρ bs)[i]? = some s := by simpa [forgot] using e
    rcases forgot_get ρ bs i s e with h | h
    · exact .inl h
    · exact .inr (by simpa using h)

/-- going down from a value along places of lists -/
def At (H : Hp) : V → List Nat → V → Prop
  | v, [], w => v = w
  | v, k :: ks, w => ∃ a vs u, v = .ref a ∧ H a = some (.lst vs) ∧ vs[k]? = some u ∧ At H u ks w
theorem At.ex {H H' : Hp} (e : Ex H H') : ∀ {p : List Nat} {v w : V}, At H v p w → At H' v p w
  | [], _, _, h => h
  | _ :: _, _, _, ⟨a, vs, u, h1, h2, h3, h4⟩ => ⟨a, vs, u, h1, e _ _ h2, h3, At.ex e h4⟩

structure En (K : PySem.W.Frag) (B : Base) (G H : Hp) (σ : St) (ρ : List Slot) (ex : List (V × Slot)) : Prop where
  anc : Anc B G H
  own : ∃ A, Cells K B G H (ex.map (fun p => some p.1) ++ σ) (ex.map (·.2) ++ ρ) A ∧ A.Nodup ∧ ∀ a ∈ A, G a = none
  len : σ.length = ρ.length
  ali : ∀ (i j : Nat) (p : List Nat), ρ[i]? = some (Slot.ali j p) → ∃ v w, σ[i]? = some (some v) ∧ σ[j]? = some (some w) ∧ At H w p v
def noAli (j : Nat) : List Slot → Bool
  | [] => true
  | .ali i _ :: r => i != j && noAli j r
  | _ :: r => noAli j r
theorem noAli_get {j : Nat} : ∀ {ρ : List Slot}, noAli j ρ = true → ∀ {i k : Nat} {p : List Nat}, ρ[i]? = some (.ali k p) → k ≠ j
  | [], _, _, _, _, e => nomatch e
  | s :: ρ, h, 0, k, p, e => by
    simp at e
    subst e
    simp [noAli] at h
    exact h.1
  | s :: ρ, h, i + 1, k, p, e => by
    have h' : noAli j ρ = true := by
      cases s <;> simp [noAli] at h
      · exact h
      · exact h
      · exact h
      · exact h.2
    exact noAli_get h' (i := i) (by simpa using e)
section
variable {K : PySem.W.Frag} {B : Base} {G G' H H' : Hp} {σ : St} {ρ : List Slot} {ex : List (V × Slot)}
theorem En.fresh (E : En K B G H σ ρ ex) {p : Addr} (hp : H p = none) : B.H0 p = none := E.anc.fresh hp
theorem En.sub (E : En K B G H σ ρ ex) : Ex G H := E.anc.sub
theorem En.get (E : En K B G H σ ρ ex) {i : Nat} {d : D} (h : ρ[i]? = some (.val d)) : ∃ v, σ[i]? = some (some v) ∧ Rp K G v d := by
  obtain ⟨A, c, _, _⟩ := E.own
  obtain ⟨x, A1, h1, h2, _⟩ := c.get (i := ex.length + i) (s := .val d) (by
    rw [List.getElem?_append_right (by simp), List.length_map]
    simpa using h)
  rw [List.getElem?_append_right (by simp), List.length_map] at h1
  cases h2 with
  | val r => exact ⟨_, by simpa using h1, r⟩
/-- the top temp -/
theorem En.top {v : V} {d : D} (E : En K B G H σ ρ ((v, .val d) :: ex)) : Rp K G v d := by
  obtain ⟨A, c, _, _⟩ := E.own
  cases c with
  | cons c r =>
    cases c with
    | val h => exact h
theorem En.pop {x : V × Slot} (E : En K B G H σ ρ (x :: ex)) : En K B G H σ ρ ex := by
  obtain ⟨A, c, n, f⟩ := E.own
  cases c with
  | cons c r => exact ⟨E.anc, ⟨_, r, (List.nodup_append.mp n).2.1, fun a m => f a (List.mem_append_right _ m)⟩, E.len, E.ali⟩
theorem En.push {v : V} {d : D} (E : En K B G H σ ρ ex) (h : Rp K G v d) : En K B G H σ ρ ((v, .val d) :: ex) := by
  obtain ⟨A, c, n, f⟩ := E.own
  exact ⟨E.anc, ⟨[] ++ A, .cons (.val h) c, n, f⟩, E.len, E.ali⟩
/-- temps of data may come and go -/
theorem En.swap {x y : V × Slot} (E : En K B G H σ ρ (x :: y :: ex)) : En K B G H σ ρ (y :: x :: ex) := by
  obtain ⟨A, c, n, f⟩ := E.own
  obtain ⟨A', c', p⟩ := c.swap2
  exact ⟨E.anc, ⟨A', c', p.nodup_iff.mpr n, fun a m => f a (p.mem_iff.mp m)⟩, E.len, E.ali⟩
/-- a new thing that never changes -/
theorem En.new (E : En K B G H σ ρ ex) {p : Addr} (hp : H p = none) (o : HO) : En K B (upd G p o) (upd H p o) σ ρ ex := by
  obtain ⟨A, c, n, f⟩ := E.own
  have hG := E.sub.back hp
  refine ⟨E.anc.new hp o, ⟨A, c.ex (Ex.new hG) fun a m u e => Ex.new hp a u e, n, fun a m => ?_⟩, E.len, fun i j q e => ?_⟩
  · obtain ⟨u, hu⟩ := c.there a m
    rw [upd_ne (ne_of_none hu hp)]
    exact f a m
  · obtain ⟨v, w, h1, h2, h3⟩ := E.ali i j q e
    exact ⟨v, w, h1, h2, h3.ex (Ex.new hp)⟩
/-- a new list of data, owned -/
theorem En.newL (E : En K B G H σ ρ ex) {p : Addr} (hp : H p = none) {vs : List V} {ds : List D} (r : RpAll K G vs ds) : En K B G (upd H p (.lst vs)) σ ρ ((.ref p, .own 0 (.lst (ds.map OT.dat))) :: ex) := by
  obtain ⟨A, c, n, f⟩ := E.own
  have hG := E.sub.back hp
  have h0 := E.fresh hp
  have ra : ∀ {vs : List V} {ds : List D}, RpAll K G vs ds → OwnAll K G (upd H p (.lst vs)) vs (ds.map OT.dat) [] := fun {vs ds} r => by
    have gen : ∀ (H' : Hp) {vs : List V} {ds : List D}, RpAll K G vs ds → OwnAll K G H' vs (ds.map OT.dat) [] := fun H' {vs ds} r => by
      induction ds generalizing vs with
      | nil =>
        cases r
        exact .nil
      | cons d ds ih =>
        cases r with
        | cons h r => exact .cons (A := []) (.dat h) (ih r)
    exact gen _ r
  have hn : p ∉ A := fun m => by
    obtain ⟨u, hu⟩ := c.there p m
    rw [hu] at hp
    cases hp
  refine ⟨E.anc.put hG (.inr h0) _, ⟨p :: ([] ++ A), .cons (A := [p]) (.own (.lst upd_same (ra r)) (fun a m => by
      rw [List.mem_singleton.mp m]
      exact .inr h0) (.inl rfl)) (c.ex (Ex.refl G) fun a m u e => by
      rw [upd_ne (ne_of_none e hp)]
      exact e), ?_, fun a m => ?_⟩, E.len, fun i j q e => ?_⟩
  · exact List.nodup_cons.mpr ⟨hn, n⟩
  · rcases List.mem_cons.mp m with rfl | m
    · exact hG
    · exact f a m
  · obtain ⟨v, w, h1, h2, h3⟩ := E.ali i j q e
    exact ⟨v, w, h1, h2, h3.ex (Ex.new hp)⟩
/-- what is owned here becomes data -/
theorem En.frz {v : V} {o : OT} (E : En K B G H σ ρ ((v, .own 0 o) :: ex)) : ∃ G', Ex G G' ∧ En K B G' H σ ρ ((v, .val o.toD) :: ex) := by
  obtain ⟨A, c, n, f⟩ := E.own
  cases c with
  | @cons _ _ A1 _ _ A2 c r =>
    cases c with
    | own h l _ =>
      have n1 := List.nodup_append.mp n
      have hA : ∀ a ∈ A1, G a = none ∧ B.H0 a = none := fun a m => ⟨f a (List.mem_append_left _ m), (l a m).resolve_left (by rw [B.m0]; exact fun z => nomatch z)⟩
      have eG : Ex G fun a => if a ∈ A1 then H a else G a := fun a u e => by
        show (if a ∈ A1 then H a else G a) = _
        by_cases ha : a ∈ A1
        · rw [(hA a ha).1] at e
          cases e
        · rw [if_neg ha]
          exact e
      refine ⟨_, eG, E.anc.frz hA, ⟨[] ++ A2, .cons (.val (h.rp eG fun a m u e => by
          show (if a ∈ A1 then H a else G a) = _
          rw [if_pos m]
          exact e)) (r.ex eG fun _ _ _ e => e), n1.2.1, fun a m => ?_⟩, E.len, E.ali⟩
      have ha : a ∉ A1 := fun z => n1.2.2 a z a m rfl
      show (if a ∈ A1 then H a else G a) = _
      rw [if_neg ha]
      exact f a (List.mem_append_right _ m)
/-- the top temp goes into slot i -/
theorem En.set {v : V} {s : Slot} (E : En K B G H σ ρ [(v, s)]) {i : Nat} (hi : i < ρ.length) (hs : ∀ j p, s ≠ .ali j p) (ha : noAli i ρ = true) : En K B G H (σ.set i (some v)) (ρ.set i s) [] := by
  obtain ⟨A, c, n, f⟩ := E.own
  cases c with
  | @cons _ _ A1 _ _ A2 c r =>
    obtain ⟨A', C, h1, h2, h3⟩ := Cells.set r c hi
    have sub : (A1 ++ C).Sublist (A1 ++ A2) := h3.append_left A1
    refine ⟨E.anc, ⟨A', h1, h2.nodup_iff.mpr (sub.nodup n), fun a m => f a (sub.subset (h2.mem_iff.mp m))⟩, by rw [List.length_set, List.length_set]; exact E.len, fun k j p e => ?_⟩
    by_cases hk : i = k
    · subst hk
      rw [List.getElem?_set_self hi] at e
      cases e
      exact absurd rfl (hs j p)
    · rw [List.getElem?_set_ne hk] at e
      obtain ⟨v', w, q1, q2, q3⟩ := E.ali k j p e
      have hj := noAli_get ha e
      exact ⟨v', w, by rw [List.getElem?_set_ne hk]; exact q1, by rw [List.getElem?_set_ne (Ne.symm hj)]; exact q2, q3⟩
theorem En.forgot (E : En K B G H σ ρ []) (bs : List Bool) : En K B G H σ (forgot ρ bs) [] := by
  obtain ⟨A, c, n, f⟩ := E.own
  obtain ⟨A', h1, h2⟩ := Cells.forgot bs c
  refine ⟨E.anc, ⟨A', h1, h2.nodup n, fun a m => f a (h2.subset m)⟩, by rw [forgot_len]; exact E.len, fun i j p e => ?_⟩
  rcases forgot_get ρ bs i _ e with z | z
  · cases z
  · exact E.ali i j p z
end

/-! ### cells taken out and put back -/
section
variable {K : PySem.W.Frag} {B : Base} {G G' H H' : Hp}
theorem Cells.take1 {σ : L2.St} {ρ : List Slot} {A : List Addr} (h : Cells K B G H σ ρ A) : ∀ {i : Nat} {l : Nat} {o : OT}, ρ[i]? = some (.own l o) →
    ∃ v A1 A2, σ[i]? = some (some v) ∧ Own K G H v o A1 ∧ ((∀ a ∈ A1, a ∈ B.Mo l ∨ B.H0 a = none) ∧ (l = 0 ∨ B.pv l = some v)) ∧ Cells K B G H σ (ρ.set i .non) A2 ∧ A.Perm (A1 ++ A2) := by
  induction h with
  | nil => exact fun e => nomatch e
  | @cons x0 s0 A0 σ ρ A' c0 r ih =>
    intro i l o e
    cases i with
    | zero =>
      simp at e
      subst e
      cases c0 with
      | own hO hl hv => exact ⟨_, A0, [] ++ A', rfl, hO, ⟨hl, hv⟩, .cons (.non) r, List.Perm.refl _⟩
    | succ i =>
      obtain ⟨v, A1, A2, h1, h2, h3, h4, h5⟩ := ih (i := i) (l := l) (o := o) (by simpa using e)
      refine ⟨v, A1, A0 ++ A2, by simpa using h1, h2, h3, .cons c0 h4, ?_⟩
      have e1 : (A0 ++ A').Perm (A0 ++ (A1 ++ A2)) := h5.append_left _
      have e2 : (A0 ++ (A1 ++ A2)).Perm (A1 ++ (A0 ++ A2)) := by
        rw [← List.append_assoc, ← List.append_assoc]
        exact List.perm_append_comm.append_right A2
      exact e1.trans e2
theorem Cells.put1 {σ : L2.St} {ρ : List Slot} {A : List Addr} (h : Cells K B G H σ ρ A) : ∀ {i : Nat} {l : Nat} {o : OT} {v : V} {A1 : List Addr}, ρ[i]? = some .non → σ[i]? = some (some v) → Own K G H v o A1 → ((∀ a ∈ A1, a ∈ B.Mo l ∨ B.H0 a = none) ∧ (l = 0 ∨ B.pv l = some v)) →
    ∃ A2, Cells K B G H σ (ρ.set i (.own l o)) A2 ∧ A2.Perm (A1 ++ A) := by
  induction h with
  | nil => exact fun e => nomatch e
  | @cons x0 s0 A0 σ ρ A' c0 r ih =>
    intro i l o v A1 e e2 hO hl
    cases i with
    | zero =>
      simp at e
      subst e
      simp at e2
      subst e2
      cases c0
      exact ⟨A1 ++ A', .cons (.own hO hl.1 hl.2) r, by
        rw [List.nil_append]⟩
    | succ i =>
      obtain ⟨A2, h4, h5⟩ := ih (i := i) (l := l) (by simpa using e) (by simpa using e2) hO hl
      refine ⟨A0 ++ A2, .cons c0 h4, ?_⟩
      have e1 : (A0 ++ A2).Perm (A0 ++ (A1 ++ A')) := h5.append_left _
      have e2 : (A0 ++ (A1 ++ A')).Perm (A1 ++ (A0 ++ A')) := by
        rw [← List.append_assoc, ← List.append_assoc]
        exact List.perm_append_comm.append_right A'
      exact e1.trans e2
end
end DL

/-! DL3: the judgements; expressions -/
namespace DL
open PySem PySem.Spec L2

section
variable {X : Cx} {B : Base}
theorem PE_imp {e : Expr} {t t' : TE} (h : PE X e t) (k : ∀ σ H Q, t' σ H Q → t σ H Q) : PE X e t' := ⟨fun pins s σ H Q I q => h.run pins s σ H Q I (k σ H Q q)⟩
theorem PT_imp {e : Expr} {t t' : TT} (h : PT X e t) (k : ∀ σ H Q, t' σ H Q → t σ H Q) : PT X e t' := ⟨fun pins s σ H Q I q => h.run pins s σ H Q I (k σ H Q q)⟩
theorem PW_imp {e : Expr} {t t' : TT} (h : PW X e t) (k : ∀ σ H Q, t' σ H Q → t σ H Q) : PW X e t' := ⟨fun wh pins s σ H Q I q => h.run wh pins s σ H Q I (k σ H Q q)⟩
theorem PA_imp {e : List Expr} {t t' : TA} (h : PA X e t) (k : ∀ σ H Q, t' σ H Q → t σ H Q) : PA X e t' := ⟨fun pos pins s σ H Q I q => h.run pos pins s σ H Q I (k σ H Q q)⟩
theorem PS_imp {e : Stmt} {t t' : TS} (h : PS X e t) (k : ∀ D σ H, t' D σ H → t D σ H) : PS X e t' := ⟨fun pins s σ H D I q => h.run pins s σ H D I (k D σ H q)⟩
theorem PSs_imp {e : List Stmt} {t t' : TS} (h : PSs X e t) (k : ∀ D σ H, t' D σ H → t D σ H) : PSs X e t' := ⟨fun pins s σ H D I q => h.run pins s σ H D I (k D σ H q)⟩
end

/-- an expression: its mirror, the slot of its value, the slots behind it -/
def tJ (K : PySem.W.Frag) (B : Base) (ρ : List Slot) {β : Type} (m : R β) (sl : β → Slot) (ρ' : β → List Slot) : TE := fun σ H Q =>
  ∃ G, En K B G H σ ρ [] ∧ m.post (fun b => ∀ v G' H', Ex G G' → En K B G' H' σ (ρ' b) [(v, sl b)] → Q v H') B.rs
def JE (X : Cx) (B : Base) (ρ : List Slot) (e : Expr) {β : Type} (m : R β) (sl : β → Slot) (ρ' : β → List Slot) : Prop := PE X e (tJ X.K B ρ m sl ρ')
/-- one that changes nothing, fails never, and gives data -/
abbrev JP (X : Cx) (B : Base) (ρ : List Slot) (e : Expr) (d : D) : Prop := JE X B ρ e (.ok ()) (fun _ => .val d) (fun _ => ρ)
def tJT (K : PySem.W.Frag) (B : Base) (ρ : List Slot) {β : Type} (m : R β) (bn : β → Bool) (ρ' : β → List Slot) : TT := fun σ H Q =>
  ∃ G, En K B G H σ ρ [] ∧ m.post (fun b => ∀ G' H', Ex G G' → En K B G' H' σ (ρ' b) [] → Q (bn b) H') B.rs
def JT (X : Cx) (B : Base) (ρ : List Slot) (e : Expr) {β : Type} (m : R β) (bn : β → Bool) (ρ' : β → List Slot) : Prop := PT X e (tJT X.K B ρ m bn ρ')
def JW (X : Cx) (B : Base) (ρ : List Slot) (e : Expr) {β : Type} (m : R β) (bn : β → Bool) (ρ' : β → List Slot) : Prop := PW X e (tJT X.K B ρ m bn ρ')
abbrev TP0 (X : Cx) (B : Base) (ρ : List Slot) (e : Expr) (b : Bool) : Prop := JT X B ρ e (.ok ()) (fun _ => b) (fun _ => ρ)
/-- arguments: data, or an owned slot -/
inductive Ar where
  | val (d : D)
  | slot (i : Nat)
inductive ArOk (K : PySem.W.Frag) (G : Hp) (σ : L2.St) : List V → List Ar → Prop
  | nil : ArOk K G σ [] []
  | val {v : V} {d : D} {vs : List V} {as : List Ar} : Rp K G v d → ArOk K G σ vs as → ArOk K G σ (v :: vs) (.val d :: as)
  | slot {v : V} {i : Nat} {vs : List V} {as : List Ar} : σ[i]? = some (some v) → ArOk K G σ vs as → ArOk K G σ (v :: vs) (.slot i :: as)
theorem ArOk.ex {K : PySem.W.Frag} {G G' : Hp} {σ : L2.St} {vs : List V} {as : List Ar} (h : ArOk K G σ vs as) (e : Ex G G') : ArOk K G' σ vs as := by
  induction h with
  | nil => exact .nil
  | val h _ ih => exact .val (h.ex e) ih
  | slot h _ ih => exact .slot h ih
def tJA (K : PySem.W.Frag) (B : Base) (ρ : List Slot) {β : Type} (m : R β) (as : β → List Ar) (ρ' : β → List Slot) : TA := fun σ H Q =>
  ∃ G, En K B G H σ ρ [] ∧ m.post (fun b => ∀ vs G' H', Ex G G' → En K B G' H' σ (ρ' b) [] → ArOk K G' σ vs (as b) → Q vs H') B.rs
def JA (X : Cx) (B : Base) (ρ : List Slot) (es : List Expr) {β : Type} (m : R β) (as : β → List Ar) (ρ' : β → List Slot) : Prop := PA X es (tJA X.K B ρ m as ρ')

section
variable {X : Cx} {B : Base} {ρ : List Slot} {a b e : Expr} {pos : Pos}
theorem post_ok {α : Type} {x : α} {φ : α → Prop} {ψ : Exn → Prop} : (R.ok x).post φ ψ ↔ φ x := Iff.rfl

/-! ### names, constants -/
theorem jp_of {t : TE} {d : D} (h : PE X e t) (k : ∀ σ G H Q, En X.K B G H σ ρ [] → (∀ v G' H', Ex G G' → En X.K B G' H' σ ρ [(v, .val d)] → Q v H') → t σ H Q) : JP X B ρ e d :=
  PE_imp h fun σ H Q ⟨G, E, q⟩ => k σ G H Q E q
theorem jp_var (i : Nat) {x : Str} {d : D} (h : ρ[i]? = some (.val d) := by rfl) (hN : X.N[i]? = some x := by rfl) (hv : Vis X.env.scope x := by first | exact Or.inl rfl | exact Or.inr (Or.inl rfl) | exact Or.inr (Or.inr rfl))
    (hd : (x == ("__debug__" : Str)) = false := by decide) (hcd : (x == ("__classdict__" : Str)) = false := by decide) : JP X B ρ (.Name x pos) d :=
  jp_of (pv i hN hv hd hcd) fun σ G H Q E q => by
    obtain ⟨v, h1, h2⟩ := E.get h
    exact ⟨v, h1, q v G H (Ex.refl G) (E.push h2)⟩
theorem jp_int {i : Int} {j : Nat} : JP X B ρ (.Constant (.int i) j pos) (.int i) := jp_of pe_int fun σ G H Q E q => q _ G H (Ex.refl G) (E.push (.int i))
theorem jp_bl {b : Bool} {j : Nat} : JP X B ρ (.Constant (.bool b) j pos) (.bool b) := jp_of pe_bl fun σ G H Q E q => q _ G H (Ex.refl G) (E.push (.bl b))
theorem jp_non {j : Nat} : JP X B ρ (.Constant .none j pos) .none := jp_of pe_non fun σ G H Q E q => q _ G H (Ex.refl G) (E.push .non)
theorem jp_str {x : Str} {j : Nat} : JP X B ρ (.Constant (.str x) j pos) (.str x) := jp_of pe_str fun σ G H Q E q => q _ G H (Ex.refl G) (E.push (.str x))
/-- the result of an own expression, as data -/
theorem je_frz {β : Type} {m : R β} {o : β → OT} {ρ' : β → List Slot} (h : JE X B ρ e m (fun b => .own 0 (o b)) ρ') : JE X B ρ e m (fun b => .val (o b).toD) ρ' :=
  PE_imp h fun σ H Q ⟨G, E, q⟩ => ⟨G, E, R.post_mono q fun b k v G' H' x E' => by
    obtain ⟨G2, x2, E2⟩ := E'.frz
    exact k v G2 H' (x.trans x2) E2⟩
/-- the same mirror by another name -/
theorem je_eq {β : Type} {m m' : R β} {sl : β → Slot} {ρ' : β → List Slot} (h : JE X B ρ e m sl ρ') (k : m' = m) : JE X B ρ e m' sl ρ' := by
  rw [k]
  exact h

/-! ### operators by data -/
/-- what a two-place operation makes of data -/
def OpD (K : PySem.W.Frag) (B : Base) (r : R2) (x y : D) {γ : Type} (mr : R γ) (s : γ → Slot) : Prop :=
  ∀ G H σ ρ vx vy Q, En K B G H σ ρ [] → Rp K G vx x → Rp K G vy y → mr.post (fun z => ∀ v G' H', Ex G G' → En K B G' H' σ ρ [(v, s z)] → Q v H') B.rs → r vx vy H Q
theorem od_val {K : PySem.W.Frag} {r : R2} {x y z : D} {c : Prop} [Decidable c] {w : V} (h : c → ∀ G H vx vy Q, Ex G H → Rp K G vx x → Rp K G vy y → Q w H → r vx vy H Q) (hw : ∀ G, Rp K G w z) : OpD K B r x y (R.guard c) (fun _ => .val z) :=
  fun G H σ ρ vx vy Q E hx hy q => by
    obtain ⟨hc, q⟩ := R.post_guard q
    exact h hc G H vx vy Q E.sub hx hy (q w G H (Ex.refl G) (E.push (hw G)))
theorem od_val0 {K : PySem.W.Frag} {r : R2} {x y z : D} {w : V} (h : ∀ G H vx vy Q, Ex G H → Rp K G vx x → Rp K G vy y → Q w H → r vx vy H Q) (hw : ∀ G, Rp K G w z) : OpD K B r x y (.ok ()) (fun _ => .val z) :=
  fun G H σ ρ vx vy Q E hx hy q => h G H vx vy Q E.sub hx hy (q w G H (Ex.refl G) (E.push (hw G)))
def op2 {α β γ : Type} (ma : R α) (mb : α → R β) (mr : α → β → R γ) : R (α × β × γ) := ma.bind fun x => (mb x).bind fun y => (mr x y).bind fun z => .ok (x, y, z)
theorem je_op2 {r : R2} (ht : ∀ ta tb, PE X a ta → PE X b tb → PE X e (tOp r ta tb)) {α β γ : Type} {ma : R α} {mb : α → R β} {xa : α → D} {xb : α → β → D} {ρa : α → List Slot} {ρb : α → β → List Slot} {mr : α → β → R γ} {s : α → β → γ → Slot}
    (ha : JE X B ρ a ma (fun x => .val (xa x)) ρa) (hb : ∀ x, JE X B (ρa x) b (mb x) (fun y => .val (xb x y)) (ρb x)) (hr : ∀ x y, OpD X.K B r (xa x) (xb x y) (mr x y) (s x y)) :
    JE X B ρ e (op2 ma mb mr) (fun p => s p.1 p.2.1 p.2.2) (fun p => ρb p.1 p.2.1) := by
  have hb' : PE X b (fun σ H Q => ∃ x, tJ X.K B (ρa x) (mb x) (fun y => .val (xb x y)) (ρb x) σ H Q) := ⟨fun pins s σ H Q I ⟨x, q⟩ => (hb x).run pins s σ H Q I q⟩
  refine PE_imp (ht _ _ ha hb') fun σ H Q ⟨G, E, q⟩ => ?_
  refine ⟨G, E, R.post_mono (R.post_bind.mp q) fun x q1 vx G1 H1 x1 E1 => ?_⟩
  refine ⟨x, G1, E1.pop, R.post_mono (R.post_bind.mp q1) fun y q2 vy G2 H2 x2 E2 => ?_⟩
  exact hr x y G2 H2 σ (ρb x y) vx vy Q E2.pop (E1.top.ex x2) E2.top (R.post_mono (R.post_bind.mp q2) fun z q3 v G3 H3 x3 E3 => q3 v G3 H3 (x1.trans (x2.trans x3)) E3)
/-- both pure -/
theorem je_op {r : R2} (ht : ∀ ta tb, PE X a ta → PE X b tb → PE X e (tOp r ta tb)) {x y : D} {γ : Type} {mr : R γ} {s : γ → Slot} (ha : JP X B ρ a x) (hb : JP X B ρ b y) (hr : OpD X.K B r x y mr s) : JE X B ρ e mr s (fun _ => ρ) := by
  refine PE_imp (ht _ _ ha hb) fun σ H Q ⟨G, E, q⟩ => ?_
  refine ⟨G, E, fun vx G1 H1 x1 E1 => ?_⟩
  refine ⟨G1, E1.pop, fun vy G2 H2 x2 E2 => ?_⟩
  exact hr G2 H2 σ ρ vx vy Q E2.pop (E1.top.ex x2) E2.top (R.post_mono q fun z q v G3 H3 x3 E3 => q v G3 H3 (x1.trans (x2.trans x3)) E3)

/-! ### int operators -/
/-- what C's division does by itself -/
def divOk (i j : Int) : Prop := j ≠ 0 ∧ Builtin.divisionGoesByPylong i j = false
instance {i j : Int} : Decidable (divOk i j) := by unfold divOk; infer_instance
def powOk (i j : Int) : Prop := 0 ≤ j ∧ j ≤ 1000000 ∧ i.natAbs < 2 ^ 64
instance {i j : Int} : Decidable (powOk i j) := by unfold powOk; infer_instance
instance {i j : Int} : Decidable (CPow i j) := by unfold CPow; infer_instance
instance {i j : Int} : Decidable (CMulX i j) := by unfold CMulX; infer_instance
theorem op_fdivZ : OpR X (binaryOp .FloorDiv) (rI divOk fun i j => .int (i.fdiv j)) := opI fun i j _ _ _ _ _ hc q => PyProof.Rows.floordiv_int hc.1 q (.inl hc.2)
section
variable {K : PySem.W.Frag} {i j : Int}
theorem od_I0 {g : Int → Int → V} {z : D} (hz : ∀ G, Rp K G (g i j) z) : OpD K B (rI0 g) (.int i) (.int j) (.ok ()) (fun _ => .val z) :=
  od_val0 (fun G H vx vy Q _ hx hy q => ⟨i, j, hx.int_inv, hy.int_inv, q⟩) hz
theorem od_I {C : Int → Int → Prop} [Decidable (C i j)] {g : Int → Int → V} {z : D} (hz : ∀ G, Rp K G (g i j) z) : OpD K B (rI C g) (.int i) (.int j) (R.guard (C i j)) (fun _ => .val z) :=
  od_val (fun c G H vx vy Q _ hx hy q => ⟨i, j, hx.int_inv, hy.int_inv, c, q⟩) hz
theorem od_add : OpD K B (rI0 fun i j => .int (i + j)) (.int i) (.int j) (.ok ()) (fun _ => .val (.int (i + j))) := od_I0 fun _ => .int _
theorem od_sub : OpD K B (rI0 fun i j => .int (i - j)) (.int i) (.int j) (.ok ()) (fun _ => .val (.int (i - j))) := od_I0 fun _ => .int _
theorem od_mul : OpD K B (rI CMulX fun i j => .int (i * j)) (.int i) (.int j) (R.guard (CMulX i j)) (fun _ => .val (.int (i * j))) := od_I fun _ => .int _
theorem od_fdiv : OpD K B (rI divOk fun i j => .int (i.fdiv j)) (.int i) (.int j) (R.guard (divOk i j)) (fun _ => .val (.int (i.fdiv j))) := od_I fun _ => .int _
theorem od_mod : OpD K B (rI (fun _ j => j ≠ 0) fun i j => .int (i.fmod j)) (.int i) (.int j) (R.guard (j ≠ 0)) (fun _ => .val (.int (i.fmod j))) := od_I (C := fun _ j => j ≠ 0) fun _ => .int _
theorem od_pow : OpD K B (rI CPow fun i j => .int (i ^ j.toNat)) (.int i) (.int j) (R.guard (CPow i j)) (fun _ => .val (.int (i ^ j.toNat))) := od_I (C := CPow) (fun _ => .int _)
theorem od_lt : OpD K B (rI0 fun i j => .bl (decide (i < j))) (.int i) (.int j) (.ok ()) (fun _ => .val (.bool (decide (i < j)))) := od_I0 fun _ => .bl _
theorem od_le : OpD K B (rI0 fun i j => .bl (decide (i ≤ j))) (.int i) (.int j) (.ok ()) (fun _ => .val (.bool (decide (i ≤ j)))) := od_I0 fun _ => .bl _
theorem od_gt : OpD K B (rI0 fun i j => .bl (decide (j < i))) (.int i) (.int j) (.ok ()) (fun _ => .val (.bool (decide (j < i)))) := od_I0 fun _ => .bl _
theorem od_ge : OpD K B (rI0 fun i j => .bl (decide (j ≤ i))) (.int i) (.int j) (.ok ()) (fun _ => .val (.bool (decide (j ≤ i)))) := od_I0 fun _ => .bl _
/-- == of ints, of bools, of texts -/
theorem od_eqI : OpD K B rEq (.int i) (.int j) (.ok ()) (fun _ => .val (.bool (decide (i = j)))) := od_val0 (w := .bl (decide (i = j))) (fun G H vx vy Q _ hx hy q => by
  rw [hx.int_inv, hy.int_inv]
  refine ⟨rfl, ?_⟩
  rw [show decide (V.int i = V.int j) = decide (i = j) from decide_eq_decide.mpr ⟨fun h => V.int.inj h, fun h => by rw [h]⟩]
  exact q) fun _ => .bl _
theorem od_neI : OpD K B rNe (.int i) (.int j) (.ok ()) (fun _ => .val (.bool (!decide (i = j)))) := od_val0 (w := .bl (!decide (i = j))) (fun G H vx vy Q _ hx hy q => by
  rw [hx.int_inv, hy.int_inv]
  refine ⟨rfl, ?_⟩
  rw [show decide (V.int i = V.int j) = decide (i = j) from decide_eq_decide.mpr ⟨fun h => V.int.inj h, fun h => by rw [h]⟩]
  exact q) fun _ => .bl _
end
theorem jp_neg {i : Int} (ha : JP X B ρ a (.int i)) : JP X B ρ (.UnaryOp .USub a pos) (.int (-i)) :=
  jp_of (pe_un un_neg ha) fun σ G H Q E q => ⟨G, E, fun v G1 H1 x1 E1 => ⟨i, E1.top.int_inv, q _ G1 H1 x1 (E1.pop.push (.int _))⟩⟩
theorem je_neg {β : Type} {m : R β} {i : β → Int} {ρ' : β → List Slot} (ha : JE X B ρ a m (fun b => .val (.int (i b))) ρ') : JE X B ρ (.UnaryOp .USub a pos) m (fun b => .val (.int (-(i b)))) ρ' :=
  PE_imp (pe_un un_neg ha) fun σ H Q ⟨G, E, q⟩ => ⟨G, E, R.post_mono q fun b k v G1 H1 x1 E1 => ⟨i b, E1.top.int_inv, k _ G1 H1 x1 (E1.pop.push (.int _))⟩⟩

/-! ### tests -/
theorem jt_val {β : Type} {m : R β} {bn : β → Bool} {ρ' : β → List Slot} (h : JE X B ρ e m (fun b => .val (.bool (bn b))) ρ') (he : ∀ whole, isTrue e X.env whole = (do let v ← whole; standAt e.pos; holding [v] (truthy v)) := by intro _; rfl) : JT X B ρ e m bn ρ' :=
  PT_imp (pt_val h he) fun σ H Q ⟨G, E, q⟩ => ⟨G, E, R.post_mono q fun b k v G1 H1 x1 E1 => ⟨bn b, E1.top.bl_inv, k G1 H1 x1 E1.pop⟩⟩
theorem jt_not {β : Type} {m : R β} {bn : β → Bool} {ρ' : β → List Slot} (h : JT X B ρ a m bn ρ') : JT X B ρ (.UnaryOp .Not a pos) m (fun b => !bn b) ρ' :=
  PT_imp (pt_not h) fun σ H Q ⟨G, E, q⟩ => ⟨G, E, q⟩
theorem jt_w {β : Type} {m : R β} {bn : β → Bool} {ρ' : β → List Slot} (h : JW X B ρ e m bn ρ') : JT X B ρ e m bn ρ' := PW.pt h
variable {rest : List Expr}
theorem jw_and1 {β : Type} {m : R β} {bn : β → Bool} {ρ' : β → List Slot} (h : JT X B ρ a m bn ρ') : JW X B ρ (.BoolOp .And [a] pos) m bn ρ' := pw_and1 h
theorem jw_or1 {β : Type} {m : R β} {bn : β → Bool} {ρ' : β → List Slot} (h : JT X B ρ a m bn ρ') : JW X B ρ (.BoolOp .Or [a] pos) m bn ρ' := pw_or1 h
/-- pure ones -/
theorem tw_and {x y : Bool} (ha : TP0 X B ρ a x) (hb : JW X B ρ (.BoolOp .And (b :: rest) pos) (.ok ()) (fun _ => y) (fun _ => ρ)) : JW X B ρ (.BoolOp .And (a :: b :: rest) pos) (.ok ()) (fun _ => x && y) (fun _ => ρ) :=
  PW_imp (pw_and ha hb) fun σ H Q ⟨G, E, q⟩ => ⟨G, E, fun G1 H1 x1 E1 => by
    cases x with
    | true => exact ⟨G1, E1, fun G2 H2 x2 E2 => q G2 H2 (x1.trans x2) E2⟩
    | false => exact q G1 H1 x1 E1⟩
theorem tw_or {x y : Bool} (ha : TP0 X B ρ a x) (hb : JW X B ρ (.BoolOp .Or (b :: rest) pos) (.ok ()) (fun _ => y) (fun _ => ρ)) : JW X B ρ (.BoolOp .Or (a :: b :: rest) pos) (.ok ()) (fun _ => x || y) (fun _ => ρ) :=
  PW_imp (pw_or ha hb) fun σ H Q ⟨G, E, q⟩ => ⟨G, E, fun G1 H1 x1 E1 => by
    cases x with
    | false => exact ⟨G1, E1, fun G2 H2 x2 E2 => q G2 H2 (x1.trans x2) E2⟩
    | true => exact q G1 H1 x1 E1⟩
/-- the second part only where it is asked; nothing stored changes -/
def and2 {α : Type} (ma : R α) (xa : α → Bool) (mb : R Bool) : R Bool := ma.bind fun x => if xa x = true then mb else .ok false
def or2 {α : Type} (ma : R α) (xa : α → Bool) (mb : R Bool) : R Bool := ma.bind fun x => if xa x = true then .ok true else mb
theorem jw_and {α : Type} {ma : R α} {xa : α → Bool} {mb : R Bool} (ha : JT X B ρ a ma xa (fun _ => ρ)) (hb : JW X B ρ (.BoolOp .And (b :: rest) pos) mb (fun y => y) (fun _ => ρ)) : JW X B ρ (.BoolOp .And (a :: b :: rest) pos) (and2 ma xa mb) (fun y => y) (fun _ => ρ) :=
  PW_imp (pw_and ha hb) fun σ H Q ⟨G, E, q⟩ => ⟨G, E, R.post_mono (R.post_bind.mp q) fun x k G1 H1 x1 E1 => by
    cases hx : xa x with
    | true =>
      rw [if_pos hx] at k
      exact ⟨G1, E1, R.post_mono k fun b k G2 H2 x2 E2 => k G2 H2 (x1.trans x2) E2⟩
    | false =>
      rw [if_neg (by rw [hx]; decide)] at k
      exact k G1 H1 x1 E1⟩
theorem jw_or {α : Type} {ma : R α} {xa : α → Bool} {mb : R Bool} (ha : JT X B ρ a ma xa (fun _ => ρ)) (hb : JW X B ρ (.BoolOp .Or (b :: rest) pos) mb (fun y => y) (fun _ => ρ)) : JW X B ρ (.BoolOp .Or (a :: b :: rest) pos) (or2 ma xa mb) (fun y => y) (fun _ => ρ) :=
  PW_imp (pw_or ha hb) fun σ H Q ⟨G, E, q⟩ => ⟨G, E, R.post_mono (R.post_bind.mp q) fun x k G1 H1 x1 E1 => by
    cases hx : xa x with
    | false =>
      rw [if_neg (by rw [hx]; decide)] at k
      exact ⟨G1, E1, R.post_mono k fun b k G2 H2 x2 E2 => k G2 H2 (x1.trans x2) E2⟩
    | true =>
      rw [if_pos hx] at k
      exact k G1 H1 x1 E1⟩
/-- a test's outcome as the mirror's own result -/
theorem jt_map {β : Type} {m : R β} {bn : β → Bool} (h : JT X B ρ e m bn (fun _ => ρ)) : JT X B ρ e (m.bind fun b => .ok (bn b)) (fun y => y) (fun _ => ρ) :=
  PT_imp h fun σ H Q ⟨G, E, q⟩ => ⟨G, E, R.post_mono (R.post_bind.mp q) fun b k => k⟩
/-- and, or, not as values -/
theorem jp_one {op : PySem.BoolOp} {β : Type} {m : R β} {sl : β → Slot} {ρ' : β → List Slot} (h : JE X B ρ a m sl ρ') : JE X B ρ (.BoolOp op [a] pos) m sl ρ' := pe_one h
theorem jp_and {x y : Bool} (ha : JP X B ρ a (.bool x)) (hb : JP X B ρ (.BoolOp .And (b :: rest) pos) (.bool y)) : JP X B ρ (.BoolOp .And (a :: b :: rest) pos) (.bool (x && y)) :=
  jp_of (pe_and ha hb) fun σ G H Q E q => ⟨G, E, fun v G1 H1 x1 E1 => ⟨x, E1.top.bl_inv, by
    cases x with
    | true => exact ⟨G1, E1.pop, fun v G2 H2 x2 E2 => q v G2 H2 (x1.trans x2) E2⟩
    | false => exact q _ G1 H1 x1 (E1.pop.push (.bl false))⟩⟩
theorem jp_or {x y : Bool} (ha : JP X B ρ a (.bool x)) (hb : JP X B ρ (.BoolOp .Or (b :: rest) pos) (.bool y)) : JP X B ρ (.BoolOp .Or (a :: b :: rest) pos) (.bool (x || y)) :=
  jp_of (pe_or ha hb) fun σ G H Q E q => ⟨G, E, fun v G1 H1 x1 E1 => ⟨x, E1.top.bl_inv, by
    cases x with
    | false => exact ⟨G1, E1.pop, fun v G2 H2 x2 E2 => q v G2 H2 (x1.trans x2) E2⟩
    | true => exact q _ G1 H1 x1 (E1.pop.push (.bl true))⟩⟩
theorem je_and {α : Type} {ma : R α} {xa : α → Bool} {mb : R Bool} (ha : JE X B ρ a ma (fun x => .val (.bool (xa x))) (fun _ => ρ)) (hb : JE X B ρ (.BoolOp .And (b :: rest) pos) mb (fun y => .val (.bool y)) (fun _ => ρ)) : JE X B ρ (.BoolOp .And (a :: b :: rest) pos) (and2 ma xa mb) (fun y => .val (.bool y)) (fun _ => ρ) :=
  PE_imp (pe_and ha hb) fun σ H Q ⟨G, E, q⟩ => ⟨G, E, R.post_mono (R.post_bind.mp q) fun x k v G1 H1 x1 E1 => ⟨xa x, E1.top.bl_inv, by
    cases hx : xa x with
    | true =>
      rw [if_pos hx] at k
      exact ⟨G1, E1.pop, R.post_mono k fun b k v G2 H2 x2 E2 => k v G2 H2 (x1.trans x2) E2⟩
    | false =>
      rw [if_neg (by rw [hx]; decide)] at k
      exact k _ G1 H1 x1 (E1.pop.push (.bl false))⟩⟩
theorem je_or {α : Type} {ma : R α} {xa : α → Bool} {mb : R Bool} (ha : JE X B ρ a ma (fun x => .val (.bool (xa x))) (fun _ => ρ)) (hb : JE X B ρ (.BoolOp .Or (b :: rest) pos) mb (fun y => .val (.bool y)) (fun _ => ρ)) : JE X B ρ (.BoolOp .Or (a :: b :: rest) pos) (or2 ma xa mb) (fun y => .val (.bool y)) (fun _ => ρ) :=
  PE_imp (pe_or ha hb) fun σ H Q ⟨G, E, q⟩ => ⟨G, E, R.post_mono (R.post_bind.mp q) fun x k v G1 H1 x1 E1 => ⟨xa x, E1.top.bl_inv, by
    cases hx : xa x with
    | false =>
      rw [if_neg (by rw [hx]; decide)] at k
      exact ⟨G1, E1.pop, R.post_mono k fun b k v G2 H2 x2 E2 => k v G2 H2 (x1.trans x2) E2⟩
    | true =>
      rw [if_pos hx] at k
      exact k _ G1 H1 x1 (E1.pop.push (.bl true))⟩⟩
theorem je_map {β γ : Type} {m : R β} {sl : β → Slot} {sl' : γ → Slot} {f : β → γ} (h : JE X B ρ e m sl (fun _ => ρ)) (k : ∀ b, sl b = sl' (f b)) : JE X B ρ e (m.bind fun b => .ok (f b)) sl' (fun _ => ρ) :=
  PE_imp h fun σ H Q ⟨G, E, q⟩ => ⟨G, E, R.post_mono (R.post_bind.mp q) fun b q1 v G' H' x E' => q1 v G' H' x (by rw [← k b]; exact E')⟩
theorem je_not {β : Type} {m : R β} {bn : β → Bool} {ρ' : β → List Slot} (ha : JE X B ρ a m (fun b => .val (.bool (bn b))) ρ') : JE X B ρ (.UnaryOp .Not a pos) m (fun b => .val (.bool (!bn b))) ρ' :=
  PE_imp (pe_not ha) fun σ H Q ⟨G, E, q⟩ => ⟨G, E, R.post_mono q fun b k v G1 H1 x1 E1 => ⟨bn b, E1.top.bl_inv, k _ G1 H1 x1 (E1.pop.push (.bl _))⟩⟩
end
end DL

/-! DL4: calls of defs -/
namespace DL
open PySem PySem.Spec L2

def insAt : Nat → List Slot → List Ar → List Slot
  | _, _, [] => []
  | n, ρ, .val d :: as => .val d :: insAt (n + 1) ρ as
  | n, ρ, .slot i :: as => (match ρ[i]? with | some (.own _ o) => .own (n + 1) o | _ => .non) :: insAt (n + 1) (ρ.set i .non) as
def movedAt : List Slot → List Ar → List Slot
  | ρ, [] => ρ
  | ρ, .val _ :: as => movedAt ρ as
  | ρ, .slot i :: as => movedAt (ρ.set i .non) as
def relab : Slot → Option Slot → Slot
  | .own _ o, some (.own l _) => .own l o
  | _, _ => .non
def backAt (ρ0 : List Slot) : List Slot → List Ar → List Slot → List Slot
  | ρ, [], _ => ρ
  | ρ, _, [] => ρ
  | ρ, .val _ :: as, _ :: os => backAt ρ0 ρ as os
  | ρ, .slot i :: as, s :: os => backAt ρ0 (ρ.set i (relab s ρ0[i]?)) as os
def isOwn : Option Slot → Bool
  | some (.own _ _) => true
  | _ => false
def goodIn : List Slot → List Ar → Bool
  | _, [] => true
  | ρ, .val _ :: as => goodIn ρ as
  | ρ, .slot i :: as => isOwn ρ[i]? && goodIn (ρ.set i .non) as
def isOwnL (n : Nat) : Slot → Bool
  | .own l _ => l == n
  | _ => false
def goodOut : Nat → List Ar → List Slot → Bool
  | _, [], [] => true
  | n, .val _ :: as, _ :: os => goodOut (n + 1) as os
  | n, .slot _ :: as, s :: os => isOwnL (n + 1) s && goodOut (n + 1) as os
  | _, _, _ => false
def noSlots : List Ar → Bool
  | [] => true
  | .val _ :: as => noSlots as
  | .slot _ :: _ => false
def noAlis : List Slot → Bool
  | [] => true
  | .ali _ _ :: _ => false
  | _ :: r => noAlis r
theorem noAlis_get : ∀ {ρ : List Slot}, noAlis ρ = true → ∀ {i j : Nat} {p : List Nat}, ρ[i]? ≠ some (.ali j p)
  | [], _, _, _, _ => fun e => nomatch e
  | s :: ρ, h, 0, j, p => fun e => by
    simp at e
    subst e
    simp [noAlis] at h
  | s :: ρ, h, i + 1, j, p => fun e => by
    have h' : noAlis ρ = true := by
      cases s <;> simp [noAlis] at h <;> exact h
    exact noAlis_get h' (i := i) (j := j) (p := p) (by simpa using e)
section
variable {K : PySem.W.Frag} {B B' : Base} {G G' H H' : Hp}
theorem isOwn_inv {s : Option Slot} (h : isOwn s = true) : ∃ l o, s = some (.own l o) := by
  match s, h with
  | some (.own l o), _ => exact ⟨l, o, rfl⟩
theorem isOwnL_inv {n : Nat} {s : Slot} (h : isOwnL n s = true) : ∃ o, s = .own n o := by
  match s, h with
  | .own l o, h =>
    simp [isOwnL] at h
    subst h
    exact ⟨o, rfl⟩
/-- the arguments' cells, each with its places; the rest -/
theorem Cells.args {σ : L2.St} : ∀ {as : List Ar} {vs : List V} {ρ : List Slot} {A : List Addr} (n : Nat), Cells K B G H σ ρ A → ArOk K G σ vs as → goodIn ρ as = true →
    ∃ (As : List (List Addr)) (Ar' : List Addr), As.length = as.length ∧ (∀ B' : Base, (∀ k, B'.Mo (n + 1 + k) = As.getD k []) → (∀ k, B'.pv (n + 1 + k) = vs[k]?) → Cells K B' G H (vs.map some) (insAt n ρ as) As.flatten) ∧ Cells K B G H σ (movedAt ρ as) Ar' ∧ A.Perm (As.flatten ++ Ar') ∧
      ∀ (k i : Nat), as[k]? = some (.slot i) → ∃ l o, ρ[i]? = some (.own l o) ∧ (∀ a ∈ As.getD k [], a ∈ B.Mo l ∨ B.H0 a = none) ∧ ∀ v, σ[i]? = some (some v) → l = 0 ∨ B.pv l = some v
  | [], _, ρ, A, n, h, .nil, _ => ⟨[], A, rfl, fun _ _ _ => .nil, h, List.Perm.refl _, fun _ _ e => by simp at e⟩
  | .val d :: as, v :: vs, ρ, A, n, h, .val r q, g => by
    obtain ⟨As, A', h1, h2, h3, h4, h5⟩ := Cells.args (n + 1) h q (by simpa [goodIn] using g)
    refine ⟨[] :: As, A', by simp [h1], fun B' hB hP => ?_, h3, by simpa using h4, fun k i e => ?_⟩
    · exact .cons (A := []) (.val r) (h2 B' (fun k => by
        have := hB (k + 1)
        rw [show n + 1 + (k + 1) = n + 1 + 1 + k by omega] at this
        simpa using this) (fun k => by
        have := hP (k + 1)
        rw [show n + 1 + (k + 1) = n + 1 + 1 + k by omega] at this
        simpa using this))
    · cases k with
      | zero => simp at e
      | succ k =>
        obtain ⟨l, o, e1, e2⟩ := h5 k i (by simpa using e)
        exact ⟨l, o, e1, by simpa using e2.1, e2.2⟩
  | .slot j :: as, v :: vs, ρ, A, n, h, .slot e0 q, g => by
    simp [goodIn] at g
    obtain ⟨l, o, ho⟩ := isOwn_inv g.1
    obtain ⟨v', A1, A2, e1, hO, ⟨hl, hv⟩, c2, p⟩ := h.take1 ho
    have ev : v = v' := by
      have z := e0.symm.trans e1
      injection z with z
      injection z
    subst ev
    obtain ⟨As, A', h1, h2, h3, h4, h5⟩ := Cells.args (n + 1) c2 q g.2
    refine ⟨A1 :: As, A', by simp [h1], fun B' hB hP => ?_, h3, ?_, fun k i e => ?_⟩
    · have hins : insAt n ρ (.slot j :: as) = .own (n + 1) o :: insAt (n + 1) (ρ.set j .non) as := by
        show (match ρ[j]? with | some (.own _ o) => Slot.own (n + 1) o | _ => .non) :: _ = _
        rw [ho]
      rw [hins]
      refine .cons (A := A1) (.own hO (fun a m => .inl ?_) (.inr ?_)) (h2 B' (fun k => ?_) fun k => ?_)
      · have := hB 0
        simp at this
        rw [this]
        exact m
      · have := hP 0
        simpa using this
      · have := hB (k + 1)
        rw [show n + 1 + (k + 1) = n + 1 + 1 + k by omega] at this
        simpa using this
      · have := hP (k + 1)
        rw [show n + 1 + (k + 1) = n + 1 + 1 + k by omega] at this
        simpa using this
    · have := p.trans (h4.append_left A1)
      rw [← List.append_assoc] at this
      exact this
    · cases k with
      | zero =>
        simp at e
        subst e
        exact ⟨l, o, ho, by simpa using hl, fun w ew => by
          have z := e1.symm.trans ew
          injection z with z
          injection z with z
          rw [← z]
          exact hv⟩
      | succ k =>
        obtain ⟨l', o', q1, q2⟩ := h5 k i (by simpa using e)
        have hij : j ≠ i := fun z => by
          subst z
          by_cases hlt : j < ρ.length
          · rw [List.getElem?_set_self hlt] at q1
            cases q1
          · rw [List.getElem?_eq_none (by simpa using hlt)] at q1
            cases q1
        rw [List.getElem?_set_ne hij] at q1
        exact ⟨l', o', q1, by simpa using q2.1, q2.2⟩
theorem Cells.region {σ : L2.St} {ρ : List Slot} {A : List Addr} (h : Cells K B G H σ ρ A) : ∀ a ∈ A, (∃ l, a ∈ B.Mo l) ∨ B.H0 a = none := by
  induction h with
  | nil => exact fun _ m => nomatch m
  | cons c r ih =>
    intro a m
    rcases List.mem_append.mp m with m | m
    · cases c with
      | non => exact nomatch m
      | val _ => exact nomatch m
      | own _ hl _ => exact (hl a m).imp (fun z => ⟨_, z⟩) id
      | ali => exact nomatch m
    · exact ih a m
def slotsOf : List Ar → List Nat
  | [] => []
  | .val _ :: as => slotsOf as
  | .slot i :: as => i :: slotsOf as
theorem goodIn_nodup : ∀ {as : List Ar} {ρ : List Slot}, goodIn ρ as = true → (slotsOf as).Nodup ∧ ∀ i ∈ slotsOf as, isOwn ρ[i]? = true
  | [], _, _ => ⟨List.nodup_nil, fun _ m => nomatch m⟩
  | .val _ :: as, ρ, h => goodIn_nodup (as := as) (by simpa [goodIn] using h)
  | .slot j :: as, ρ, h => by
    simp [goodIn] at h
    obtain ⟨h1, h2⟩ := goodIn_nodup h.2
    have hj : ∀ i ∈ slotsOf as, i ≠ j := fun i m z => by
      subst z
      have := h2 i m
      by_cases hlt : i < ρ.length
      · rw [List.getElem?_set_self hlt] at this
        cases this
      · rw [List.getElem?_eq_none (by simpa using hlt)] at this
        cases this
    refine ⟨List.nodup_cons.mpr ⟨fun m => hj j m rfl, h1⟩, fun i m => ?_⟩
    rcases List.mem_cons.mp m with rfl | m
    · exact h.1
    · have := h2 i m
      rw [List.getElem?_set_ne (Ne.symm (hj i m))] at this
      exact this
theorem movedAt_len : ∀ (as : List Ar) (ρ : List Slot), (movedAt ρ as).length = ρ.length
  | [], _ => rfl
  | .val _ :: as, ρ => movedAt_len as ρ
  | .slot i :: as, ρ => by
    show (movedAt (ρ.set i .non) as).length = _
    rw [movedAt_len as, List.length_set]
theorem movedAt_get : ∀ {as : List Ar} {ρ : List Slot} {i : Nat}, i ∈ slotsOf as → i < ρ.length → (movedAt ρ as)[i]? = some .non
  | .val _ :: as, ρ, i, m, h => movedAt_get (as := as) (ρ := ρ) (by simpa [slotsOf] using m) h
  | .slot j :: as, ρ, i, m, h => by
    show (movedAt (ρ.set j .non) as)[i]? = _
    by_cases hi : i ∈ slotsOf as
    · exact movedAt_get hi (by simpa using h)
    · have e : i = j := by
        rcases List.mem_cons.mp m with e | m
        · exact e
        · exact absurd m hi
      subst e
      have keep : ∀ (as : List Ar) (ρ : List Slot), i ∉ slotsOf as → (movedAt ρ as)[i]? = ρ[i]? := by
        intro as
        induction as with
        | nil => intro ρ _; rfl
        | cons a as ih =>
          intro ρ hn
          cases a with
          | val d => exact ih ρ (by simpa [slotsOf] using hn)
          | slot k =>
            have hk : i ≠ k ∧ i ∉ slotsOf as := by simpa [slotsOf] using hn
            show (movedAt (ρ.set k .non) as)[i]? = _
            rw [ih _ hk.2, List.getElem?_set_ne (Ne.symm hk.1)]
      rw [keep as _ hi, List.getElem?_set_self h]
/-- the arguments' cells put back -/
theorem Cells.back {σ : L2.St} {G0 : Hp} (ρ0 : List Slot) : ∀ {as : List Ar} {vs : List V} {os ρ : List Slot} {A A' : List Addr} (n : Nat), ArOk K G0 σ vs as → Cells K B' G' H' (vs.map some) os A' → Cells K B G' H' σ ρ A → goodOut n as os = true →
    (slotsOf as).Nodup → (∀ i ∈ slotsOf as, ρ[i]? = some .non) → (∀ (k i : Nat), as[k]? = some (.slot i) → ∃ l o, ρ0[i]? = some (.own l o) ∧ (∀ a, (a ∈ B'.Mo (n + 1 + k) ∨ B'.H0 a = none) → a ∈ B.Mo l ∨ B.H0 a = none) ∧ ∀ v, σ[i]? = some (some v) → l = 0 ∨ B.pv l = some v) →
    ∃ A2 C, Cells K B G' H' σ (backAt ρ0 ρ as os) A2 ∧ A2.Perm (C ++ A) ∧ C.Sublist A'
  | [], _, os, ρ, A, A', n, .nil, _, h, _, _, _, _ => ⟨A, [], by rw [backAt]; exact h, List.Perm.refl _, List.nil_sublist _⟩
  | .val d :: as, v :: vs, os, ρ, A, A', n, .val r q, c, h, g, nd, hn, hl => by
    cases c with
    | @cons _ s A1 _ os A2 c1 cr =>
      obtain ⟨A3, C, h1, h2, h3⟩ := Cells.back ρ0 (n + 1) q cr h (by simpa [goodOut] using g) (by simpa [slotsOf] using nd) (by simpa [slotsOf] using hn) (fun k i e => by
        obtain ⟨l, o, e1, e2⟩ := hl (k + 1) i (by simpa using e)
        rw [show n + 1 + (k + 1) = n + 1 + 1 + k by omega] at e2
        exact ⟨l, o, e1, e2⟩)
      exact ⟨A3, C, by rw [backAt]; exact h1, h2, h3.trans (List.sublist_append_right _ _)⟩
  | .slot j :: as, v :: vs, os, ρ, A, A', n, .slot e0 q, c, h, g, nd, hn, hl => by
    cases c with
    | @cons _ s A1 _ os A2 c1 cr =>
      have g' : isOwnL (n + 1) s = true ∧ goodOut (n + 1) as os = true := by simpa [goodOut] using g
      obtain ⟨o, rfl⟩ := isOwnL_inv g'.1
      cases c1 with
      | own hO hr _ =>
        obtain ⟨l, o0, e1, e2, e3⟩ := hl 0 j rfl
        have hj : ρ[j]? = some .non := hn j (by simp [slotsOf])
        obtain ⟨A4, c4, p4⟩ := h.put1 (l := l) hj e0 hO ⟨fun a m => e2 a (by simpa using hr a m), e3 _ e0⟩
        have nd' : j ∉ slotsOf as ∧ (slotsOf as).Nodup := by simpa [slotsOf] using nd
        obtain ⟨A3, C, h1, h2, h3⟩ := Cells.back ρ0 (n + 1) q cr c4 g'.2 nd'.2 (fun i m => by
          have hij : j ≠ i := fun z => nd'.1 (z ▸ m)
          rw [List.getElem?_set_ne hij]
          exact hn i (by simp [slotsOf, m])) (fun k i e => by
          obtain ⟨l, o, e1, e2⟩ := hl (k + 1) i (by simpa using e)
          rw [show n + 1 + (k + 1) = n + 1 + 1 + k by omega] at e2
          exact ⟨l, o, e1, e2⟩)
        refine ⟨A3, A1 ++ C, ?_, ?_, h3.append_left A1⟩
        · rw [backAt, e1]
          exact h1
        · have p5 := h2.trans (p4.append_left C)
          refine p5.trans ?_
          rw [← List.append_assoc]
          exact List.perm_append_comm.append_right A
theorem backAt_len (ρ0 : List Slot) : ∀ (as : List Ar) (os ρ : List Slot), (backAt ρ0 ρ as os).length = ρ.length
  | [], _, _ => by rw [backAt]
  | .val _ :: _, [], _ => by rw [backAt]; exact fun h => nomatch h
  | .slot _ :: _, [], _ => by rw [backAt]; exact fun h => nomatch h
  | .val _ :: as, _ :: os, ρ => by
    rw [backAt]
    exact backAt_len ρ0 as os ρ
  | .slot i :: as, s :: os, ρ => by
    rw [backAt, backAt_len ρ0 as os, List.length_set]
end
/-- a def's promise by its mirror: how its arguments stand, its mirror, how its result and its owned arguments stand -/
def baseOf (H G : Hp) (As : List (List Addr)) (vs : List V) (rs : Exn → Prop) : Base := ⟨H, G, fun l => match l with | 0 => [] | n + 1 => As.getD n [], rfl, fun l => match l with | 0 => none | n + 1 => vs[n]?, rs⟩
def spM (K : PySem.W.Frag) {α β : Type} (ins : α → List Slot) (m : α → R β) (sl : β → Slot) (outs : β → List Slot) : Sp := fun vs H Q _ =>
  ∃ (a : α) (G : Hp) (As : List (List Addr)), En K (baseOf H G As vs fun _ => False) G H (vs.map some) (ins a) [] ∧
    (m a).post (fun b => ∀ v G' H', En K (baseOf H G As vs fun _ => False) G' H' (vs.map some) (outs b) [(v, sl b)] → Q v H') fun _ => False
/-- a result: data, or a new owned thing -/
def resOk : Slot → Bool
  | .val _ => true
  | .own 0 _ => true
  | _ => false
/-- no alias is met -/
def aliOk (ρ : List Slot) (as : List Ar) : Bool := noSlots as || noAlis ρ
theorem noSlots_As {K : PySem.W.Frag} {G : Hp} {σ : L2.St} : ∀ {as : List Ar}, noSlots as = true → slotsOf as = []
  | [], _ => rfl
  | .val _ :: as, h => noSlots_As (K := K) (G := G) (σ := σ) (as := as) h
theorem insAt_noAli : ∀ {as : List Ar} {n : Nat} {ρ : List Slot} {i j : Nat} {p : List Nat}, (insAt n ρ as)[i]? ≠ some (.ali j p)
  | [], n, ρ, i, j, p => fun e => nomatch e
  | .val d :: as, n, ρ, 0, j, p => fun e => by simp [insAt] at e
  | .val d :: as, n, ρ, i + 1, j, p => fun e => insAt_noAli (as := as) (n := n + 1) (ρ := ρ) (i := i) (j := j) (p := p) (by simpa [insAt] using e)
  | .slot k :: as, n, ρ, 0, j, p => fun e => by
    simp [insAt] at e
    split at e <;> cases e
  | .slot k :: as, n, ρ, i + 1, j, p => fun e => insAt_noAli (as := as) (n := n + 1) (ρ := ρ.set k .non) (i := i) (j := j) (p := p) (by simpa [insAt] using e)
theorem movedAt_noSlots : ∀ {as : List Ar} {ρ : List Slot}, noSlots as = true → movedAt ρ as = ρ
  | [], _, _ => rfl
  | .val _ :: as, ρ, h => movedAt_noSlots (as := as) h
theorem backAt_noSlots {ρ0 : List Slot} : ∀ {as : List Ar} {os ρ : List Slot}, noSlots as = true → backAt ρ0 ρ as os = ρ
  | [], _, _, _ => by rw [backAt]
  | .val _ :: as, [], _, _ => by rw [backAt]; exact fun h => nomatch h
  | .val _ :: as, _ :: os, ρ, h => by
    rw [backAt]
    exact backAt_noSlots (as := as) h
theorem backAt_noAlis {ρ0 : List Slot} : ∀ {as : List Ar} {os ρ : List Slot}, (∀ {i j : Nat} {p : List Nat}, ρ[i]? ≠ some (.ali j p)) → ∀ {i j : Nat} {p : List Nat}, (backAt ρ0 ρ as os)[i]? ≠ some (.ali j p)
  | [], _, _, h => by
    rw [backAt]
    exact h
  | .val _ :: _, [], _, h => by
    rw [backAt]
    exact h
    exact fun h => nomatch h
  | .slot _ :: _, [], _, h => by
    rw [backAt]
    exact h
    exact fun h => nomatch h
  | .val _ :: as, _ :: os, ρ, h => by
    rw [backAt]
    exact backAt_noAlis h
  | .slot k :: as, s :: os, ρ, h => by
    rw [backAt]
    refine backAt_noAlis fun {i j p} e => ?_
    by_cases hk : k = i
    · subst hk
      by_cases hlt : k < ρ.length
      · rw [List.getElem?_set_self hlt] at e
        have e : relab s ρ0[k]? = .ali j p := Option.some.inj e
        cases s <;> simp [relab] at e
        split at e <;> cases e
      · rw [List.getElem?_eq_none (by simpa using hlt)] at e
        cases e
    · rw [List.getElem?_set_ne hk] at e
      exact h e
theorem movedAt_noAlis : ∀ {as : List Ar} {ρ : List Slot}, (∀ {i j : Nat} {p : List Nat}, ρ[i]? ≠ some (.ali j p)) → ∀ {i j : Nat} {p : List Nat}, (movedAt ρ as)[i]? ≠ some (.ali j p)
  | [], _, h => h
  | .val _ :: as, ρ, h => movedAt_noAlis (as := as) h
  | .slot k :: as, ρ, h => movedAt_noAlis (as := as) (ρ := ρ.set k .non) fun {i j p} e => by
    by_cases hk : k = i
    · subst hk
      by_cases hlt : k < ρ.length
      · rw [List.getElem?_set_self hlt] at e
        cases e
      · rw [List.getElem?_eq_none (by simpa using hlt)] at e
        cases e
    · rw [List.getElem?_set_ne hk] at e
      exact h e
section
variable {K : PySem.W.Frag} {B : Base} {G H : Hp} {σ : L2.St} {ρ : List Slot} {as : List Ar} {vs : List V}
/-- THE CALL: what a caller must show, and what it has behind -/
theorem call_sp {α β : Type} {ins : α → List Slot} {m : α → R β} {sl : β → Slot} {outs : β → List Slot} {Q : VK} {E : XK} (a : α) (En0 : En K B G H σ ρ []) (ok : ArOk K G σ vs as) (hi : goodIn ρ as = true) (hins : insAt 0 ρ as = ins a)
    (ho : ∀ b, goodOut 0 as (outs b) = true) (hal : aliOk ρ as = true) (hres : ∀ b, resOk (sl b) = true) (hr : ∀ e, ¬ B.rs e)
    (q : (m a).post (fun b => ∀ v G' H', Ex G G' → En K B G' H' σ (backAt ρ (movedAt ρ as) as (outs b)) [(v, sl b)] → Q v H') B.rs) : spM K ins m sl outs vs H Q E := by
  obtain ⟨A, c, nd, f⟩ := En0.own
  obtain ⟨As, Ar', h1, h2, h3, h4, h5⟩ := Cells.args (as := as) 0 (show Cells K B G H σ ρ A from c) ok hi
  have nd2 := List.nodup_append.mp (h4.nodup_iff.mp nd)
  have fA : ∀ x ∈ As.flatten, G x = none := fun x m => f x (h4.mem_iff.mpr (List.mem_append_left _ m))
  have fR : ∀ x ∈ Ar', G x = none := fun x m => f x (h4.mem_iff.mpr (List.mem_append_right _ m))
  have mo : ∀ k, (baseOf H G As vs fun _ => False).Mo (0 + 1 + k) = As.getD k [] := fun k => by
    show (match 0 + 1 + k with | 0 => [] | n + 1 => As.getD n []) = _
    rw [show 0 + 1 + k = k + 1 by omega]
  have moIn : ∀ l x, x ∈ (baseOf H G As vs fun _ => False).Mo l → x ∈ As.flatten := fun l x m => by
    cases l with
    | zero => exact nomatch m
    | succ n =>
      have m : x ∈ As.getD n [] := m
      rw [List.getD_eq_getElem?_getD] at m
      cases e : As[n]? with
      | none =>
        rw [e] at m
        exact nomatch m
      | some L =>
        rw [e] at m
        exact List.mem_flatten.mpr ⟨L, List.mem_of_getElem? e, m⟩
  have cA := h2 (baseOf H G As vs fun _ => False) mo fun k => by
    show (match 0 + 1 + k with | 0 => none | n + 1 => vs[n]?) = _
    rw [show 0 + 1 + k = k + 1 by omega]
  have thA : ∀ x ∈ As.flatten, ∃ u, H x = some u := cA.there
  have thR : ∀ x ∈ Ar', ∃ u, H x = some u := h3.there
  refine ⟨a, G, As, ⟨⟨fun x o _ e => e, fun x l mx => ?_, Ex.refl G, fun x _ e => e, En0.sub⟩, ⟨_, by
      rw [← hins]
      exact cA, nd2.1, fA⟩, ?_, fun i j p e => ?_⟩, ?_⟩
  · obtain ⟨u, hu⟩ := thA x (moIn l x mx)
    rw [hu]
    exact fun z => nomatch z
  · rw [cA.len, hins]
  · rw [← hins] at e
    exact absurd e insAt_noAli
  · cases hm : m a with
    | bad =>
      rw [hm] at q
      exact q.elim
    | err e =>
      rw [hm] at q
      exact (hr e q).elim
    | ok b =>
      rw [hm] at q
      intro v G' H' E'
      have hG : Ex G G' := E'.anc.gsub
      refine q v G' H' hG ?_
      obtain ⟨A', c', n', f'⟩ := E'.own
      cases c' with
      | @cons _ _ A1 _ _ A2 cv cr =>
        have n1 := List.nodup_append.mp n'
        have keepH : ∀ x o, x ∉ As.flatten → H x = some o → H' x = some o := fun x o hx e => E'.anc.keep x o (fun l z => hx (moIn l x z)) e
        have reg : ∀ x ∈ A1 ++ A2, x ∈ As.flatten ∨ H x = none := fun x mx => by
          have := Cells.region (Cells.cons cv cr) x mx
          rcases this with ⟨l, z⟩ | z
          · exact .inl (moIn l x z)
          · exact .inr z
        have cR : Cells K B G' H' σ (movedAt ρ as) Ar' := h3.ex hG fun x mx u e => keepH x u (fun z => nd2.2.2 x z x mx rfl) e
        obtain ⟨gn1, gn2⟩ := goodIn_nodup hi
        obtain ⟨A3, C, b1, b2, b3⟩ := Cells.back (B := B) ρ (n := 0) ok cr cR (ho b) gn1 (fun i mi => movedAt_get mi (by
            have := gn2 i mi
            obtain ⟨l, o, e⟩ := isOwn_inv this
            exact (List.getElem?_eq_some_iff.mp e).1)) (fun k i e => by
            obtain ⟨l, o, e1, e2, e3⟩ := h5 k i e
            refine ⟨l, o, e1, fun x hx => ?_, e3⟩
            rcases hx with hx | hx
            · rw [mo] at hx
              exact e2 x hx
            · exact .inr (En0.fresh hx))
        have subC : (A1 ++ C).Sublist (A1 ++ A2) := b3.append_left A1
        have ndC : (A1 ++ C).Nodup := subC.nodup n'
        have dis : ∀ x ∈ A1 ++ A2, x ∉ Ar' := fun x mx mr => by
          rcases reg x mx with z | z
          · exact nd2.2.2 x z x mr rfl
          · obtain ⟨u, hu⟩ := thR x mr
            rw [hu] at z
            cases z
        have pA : (A1 ++ A3).Perm ((A1 ++ C) ++ Ar') := by
          rw [List.append_assoc]
          exact b2.append_left A1
        have cvB : Cell K B G' H' (some v) (sl b) A1 := by
          have cv2 : Cell K (baseOf H G As vs fun _ => False) G' H' (some v) (sl b) A1 := cv
          have hb := hres b
          revert cv2 hb
          generalize sl b = s
          intro cv2 hb
          cases cv2 with
          | non => exact .non
          | val h => exact .val h
          | @own _ l o _ hO hl _ =>
            cases l with
            | succ n => cases hb
            | zero =>
              refine .own hO (fun x mx => .inr (En0.fresh ?_)) (.inl rfl)
              rcases hl x mx with z | z
              · exact nomatch z
              · exact z
          | ali => exact .ali
        have lenEq : (backAt ρ (movedAt ρ as) as (outs b)).length = ρ.length := by rw [backAt_len, movedAt_len]
        have anc : Anc B G' H' := by
          refine ⟨fun x o hx e => ?_, fun x l hx => ?_, En0.anc.gsub.trans hG, fun x e1 e2 => ?_, E'.anc.sub⟩
          · have e1 := En0.anc.keep x o hx e
            refine keepH x o (fun z => ?_) e1
            rcases Cells.region (show Cells K B G H σ ρ A from c) x (h4.mem_iff.mpr (List.mem_append_left _ z)) with ⟨l, y⟩ | y
            · exact hx l y
            · rw [y] at e
              cases e
          · have e1 := En0.anc.there x l hx
            by_cases hxA : x ∈ As.flatten
            · obtain ⟨L, hL, mL⟩ := List.mem_flatten.mp hxA
              obtain ⟨k, hk⟩ := List.getElem?_of_mem hL
              refine E'.anc.there x (k + 1) ?_
              show x ∈ As.getD k []
              rw [List.getD_eq_getElem?_getD, hk]
              exact mL
            · cases e : H x with
              | none => exact absurd e e1
              | some o =>
                rw [keepH x o hxA e]
                exact fun z => nomatch z
          · refine E'.anc.gnew x ?_ (En0.anc.gnew x e1 e2)
            intro z
            exact e1 (En0.fresh z)
        refine ⟨anc, ⟨A1 ++ A3, .cons cvB b1, pA.nodup_iff.mpr (List.nodup_append.mpr ⟨ndC, nd2.2.1, fun x mx y my e => dis x (subC.subset mx) (e ▸ my)⟩), fun x mx => ?_⟩, by rw [lenEq]; exact En0.len, fun i j p e => ?_⟩
        · rcases List.mem_append.mp (pA.mem_iff.mp mx) with mx | mx
          · exact f' x (subC.subset mx)
          · refine E'.anc.gnew x ?_ (fR x mx)
            obtain ⟨u, hu⟩ := thR x mx
            show H x ≠ none
            rw [hu]
            exact fun z => nomatch z
        · cases hs : noSlots as with
          | false =>
            have hn : noAlis ρ = true := by
              unfold aliOk at hal
              rw [hs] at hal
              simpa using hal
            exact absurd e (backAt_noAlis (movedAt_noAlis (noAlis_get hn)))
          | true =>
            rw [backAt_noSlots hs, movedAt_noSlots hs] at e
            obtain ⟨v', w, q1, q2, q3⟩ := En0.ali i j p e
            refine ⟨v', w, q1, q2, q3.ex fun x o e => keepH x o (fun z => ?_) e⟩
            have hk : ∀ {as : List Ar} {As : List (List Addr)}, noSlots as = true → As.length = as.length → (∀ k : Nat, k < As.length → As.getD k [] = []) → As.flatten = [] := fun {as As} _ hl hk => by
              rw [List.flatten_eq_nil_iff]
              intro L hL
              obtain ⟨k, hk'⟩ := List.getElem?_of_mem hL
              have := hk k (List.getElem?_eq_some_iff.mp hk').1
              rw [List.getD_eq_getElem?_getD, hk'] at this
              exact this
            have vals : ∀ {as : List Ar} {vs : List V} {n : Nat} {ρ : List Slot} {A : List Addr} {B' : Base}, noSlots as = true → Cells K B' G H (vs.map some) (insAt n ρ as) A → A = [] := by
              intro as
              induction as with
              | nil =>
                intro vs n ρ A B' _ c
                cases vs with
                | nil =>
                  cases c
                  rfl
                | cons v vs => cases c
              | cons a as ih =>
                intro vs n ρ A B' hs c
                cases a with
                | slot i => cases hs
                | val d =>
                  cases vs with
                  | nil => cases c
                  | cons v vs =>
                    cases c with
                    | cons c r =>
                      cases c
                      exact ih hs r
            have := vals hs cA
            rw [this] at z
            exact nomatch z
end
/-! ### arguments -/
section
variable {X : Cx} {B : Base} {ρ : List Slot} {e : Expr} {es : List Expr} {pos : Pos}
theorem ja_nil : JA X B ρ [] (.ok ()) (fun _ => []) (fun _ => ρ) := PA_imp pa_nil fun σ H Q ⟨G, E, q⟩ => q [] G H (Ex.refl G) E .nil
theorem ja_p {d : D} {β : Type} {m : R β} {as : β → List Ar} {ρ' : β → List Slot} (h : JP X B ρ e d) (t : JA X B ρ es m as ρ') (hst : starEach (e :: es) X.env = (false, eval e X.env) :: starEach es X.env := by rfl) : JA X B ρ (e :: es) m (fun b => .val d :: as b) ρ' :=
  PA_imp (pa_cons h t hst) fun σ H Q ⟨G, E, q⟩ => ⟨G, E, fun v G1 H1 x1 E1 => ⟨G1, E1.pop, R.post_mono q fun b k vs G2 H2 x2 E2 ok => k _ G2 H2 (x1.trans x2) E2 (.val (E1.top.ex x2) ok)⟩⟩
theorem ja_e {α β : Type} {ma : R α} {xa : α → D} {ρa : α → List Slot} {mb : α → R β} {as : α → β → List Ar} {ρ' : α → β → List Slot} (h : JE X B ρ e ma (fun x => .val (xa x)) ρa) (t : ∀ x, JA X B (ρa x) es (mb x) (as x) (ρ' x)) (hst : starEach (e :: es) X.env = (false, eval e X.env) :: starEach es X.env := by rfl) :
    JA X B ρ (e :: es) (ma.bind fun x => (mb x).bind fun y => .ok (x, y)) (fun p => .val (xa p.1) :: as p.1 p.2) (fun p => ρ' p.1 p.2) := by
  have t' : PA X es (fun σ H Q => ∃ x, tJA X.K B (ρa x) (mb x) (as x) (ρ' x) σ H Q) := ⟨fun pos pins s σ H Q I ⟨x, q⟩ => (t x).run pos pins s σ H Q I q⟩
  exact PA_imp (pa_cons h t' hst) fun σ H Q ⟨G, E, q⟩ => ⟨G, E, R.post_mono (R.post_bind.mp q) fun x k v G1 H1 x1 E1 => ⟨x, G1, E1.pop, R.post_mono (R.post_bind.mp k) fun y k vs G2 H2 x2 E2 ok => k _ G2 H2 (x1.trans x2) E2 (.val (E1.top.ex x2) ok)⟩⟩
/-- an owned slot handed on -/
theorem ja_s (i : Nat) {x : Str} {β : Type} {m : R β} {as : β → List Ar} {ρ' : β → List Slot} (t : JA X B ρ es m as ρ') (h : isOwn ρ[i]? = true := by rfl) (hN : X.N[i]? = some x := by rfl) (hv : Vis X.env.scope x := by first | exact Or.inl rfl | exact Or.inr (Or.inl rfl) | exact Or.inr (Or.inr rfl))
    (hd : (x == ("__debug__" : Str)) = false := by decide) (hcd : (x == ("__classdict__" : Str)) = false := by decide) : JA X B ρ (.Name x pos :: es) m (fun b => .slot i :: as b) ρ' :=
  PA_imp (pa_cons (pv i hN hv hd hcd) t) fun σ H Q ⟨G, E, q⟩ => by
    obtain ⟨l, o, e⟩ := isOwn_inv h
    obtain ⟨A, c, _, _⟩ := E.own
    obtain ⟨v, _, _, e1, _⟩ := Cells.take1 (show Cells X.K B G H σ ρ A from c) e
    exact ⟨v, e1, G, E, R.post_mono q fun b k vs G2 H2 x2 E2 ok => k _ G2 H2 x2 E2 (.slot e1 ok)⟩
/-- data arguments -/
def arDs : List Ar → List D
  | [] => []
  | .val d :: as => d :: arDs as
  | .slot _ :: as => .none :: arDs as
theorem ArOk.ds {K : PySem.W.Frag} {G : Hp} {σ : L2.St} {vs : List V} {as : List Ar} (h : ArOk K G σ vs as) (hs : noSlots as = true) : RpAll K G vs (arDs as) := by
  induction h with
  | nil => exact .nil
  | val r _ ih => exact .cons r (ih hs)
  | slot _ _ _ => cases hs
/-! ### displays -/
theorem je_tup {x1 : Nat} {β : Type} {m : R β} {as : β → List Ar} {ρ' : β → List Slot} (h : JA X B ρ es m as ρ') (hs : ∀ b, noSlots (as b) = true := by intro _; rfl) (hl : ∀ b, (arDs (as b)).length ≤ 1000 := by intro _; exact of_decide_eq_true rfl) : JE X B ρ (.Tuple es x1 pos) m (fun b => .val (.tuple (arDs (as b)))) ρ' :=
  PE_imp (pe_tup h) fun σ H Q ⟨G, E, q⟩ => ⟨G, E, R.post_mono q fun b k vs G1 H1 x1 E1 ok => by
    have r := ok.ds (hs b)
    refine ⟨?_, fun p hp => k _ (upd G1 p (.tup vs)) _ (x1.trans (Ex.new (E1.sub.back hp))) ((E1.new hp _).push (.tup (.inl (.inl upd_same)) ?_))⟩
    · rw [r.len]
      exact Nat.le_of_lt (small1000 (hl b))
    · exact RpAll.ex (Ex.new (E1.sub.back hp)) r⟩
theorem je_lst {β : Type} {m : R β} {as : β → List Ar} {ρ' : β → List Slot} (h : JA X B ρ es m as ρ') (hs : ∀ b, noSlots (as b) = true := by intro _; rfl) (hl : ∀ b, (arDs (as b)).length ≤ 1000 := by intro _; exact of_decide_eq_true rfl) : JE X B ρ (.List es pos) m (fun b => .own 0 (.lst ((arDs (as b)).map OT.dat))) ρ' :=
  PE_imp (pe_lst h) fun σ H Q ⟨G, E, q⟩ => ⟨G, E, R.post_mono q fun b k vs G1 H1 x1 E1 ok => by
    have r := ok.ds (hs b)
    refine ⟨?_, fun p hp => k _ G1 _ x1 (E1.newL hp r)⟩
    rw [r.len]
    exact Nat.le_of_lt (small1000 (hl b))⟩
/-! ### calls -/
section
variable {CX : CXT} {k : Nat} {f : Addr} {fd : FuncData} {ps : List Str} {EE : XK} {x : Str} {p : Pos}
theorem je_call {α β γ : Type} {ins : α → List Slot} {mf : α → R β} {sl : β → Slot} {outs : β → List Slot} (F : FnOk X.prog X.w X.K X.mg X.base CX k f fd ps (spM X.K ins mf sl outs)) (hr : Room k X.A) (hg : Gl X x) (hm : X.mg x = some (.ref f)) (hk : PySem.W.keepIn X.K (.ref f) = true)
    (hb : Binds X.K fd ps []) (hx : Passes CX X EE) {ma : R γ} {as : γ → List Ar} {ρa : γ → List Slot} (arg : γ → α) (ha : JA X B ρ (e :: es) ma as ρa) (hne : ∀ e, ¬ B.rs e) (hi : ∀ c, goodIn (ρa c) (as c) = true := by intro _; rfl) (hins : ∀ c, insAt 0 (ρa c) (as c) = ins (arg c) := by intro _; rfl)
    (ho : ∀ c b, goodOut 0 (as c) (outs b) = true := by intro _ _; rfl) (hal : ∀ c, aliOk (ρa c) (as c) = true := by intro _; rfl) (hres : ∀ b, resOk (sl b) = true := by intro _; rfl)
    (hdb : (x == ("__debug__" : Str)) = false := by decide) (he : starEach (e :: es) X.env = (false, eval e X.env) :: starEach es X.env := by rfl) (hpl : (backTo pos (starEach es X.env)).any (·.1) = false := by rfl) :
    JE X B ρ (.Call (.Name x p) (e :: es) [] pos) (ma.bind fun c => (mf (arg c)).bind fun b => .ok (c, b)) (fun y => sl y.2) (fun y => backAt (ρa y.1) (movedAt (ρa y.1) (as y.1)) (as y.1) (outs y.2)) :=
  PE_imp (pe_call F hr hg hm hk hb .nil hx ha hdb he hpl) fun σ H Q ⟨G, E, q⟩ => ⟨G, E, R.post_mono (R.post_bind.mp q) fun c k vs G1 H1 x1 E1 ok => by
    show spM X.K ins mf sl outs (vs ++ []) H1 Q EE
    rw [List.append_nil]
    exact call_sp (arg c) E1 ok (hi c) (hins c) (ho c) (hal c) hres hne (R.post_mono (R.post_bind.mp k) fun b k v G2 H2 x2 E2 => k v G2 H2 (x1.trans x2) E2)⟩
/-- its arguments pure -/
theorem je_callP {α β : Type} {ins : α → List Slot} {mf : α → R β} {sl : β → Slot} {outs : β → List Slot} (F : FnOk X.prog X.w X.K X.mg X.base CX k f fd ps (spM X.K ins mf sl outs)) (hr : Room k X.A) (hg : Gl X x) (hm : X.mg x = some (.ref f)) (hk : PySem.W.keepIn X.K (.ref f) = true)
    (hb : Binds X.K fd ps []) (hx : Passes CX X EE) {as : List Ar} (arg : α) (ha : JA X B ρ (e :: es) (.ok ()) (fun _ => as) (fun _ => ρ)) (hne : ∀ e, ¬ B.rs e) (hi : goodIn ρ as = true := by rfl) (hins : insAt 0 ρ as = ins arg := by rfl)
    (ho : ∀ b, goodOut 0 as (outs b) = true := by intro _; rfl) (hal : aliOk ρ as = true := by rfl) (hres : ∀ b, resOk (sl b) = true := by intro _; rfl)
    (hdb : (x == ("__debug__" : Str)) = false := by decide) (he : starEach (e :: es) X.env = (false, eval e X.env) :: starEach es X.env := by rfl) (hpl : (backTo pos (starEach es X.env)).any (·.1) = false := by rfl) :
    JE X B ρ (.Call (.Name x p) (e :: es) [] pos) (mf arg) sl (fun y => backAt ρ (movedAt ρ as) as (outs y)) :=
  PE_imp (pe_call F hr hg hm hk hb .nil hx ha hdb he hpl) fun σ H Q ⟨G, E, q⟩ => ⟨G, E, fun vs G1 H1 x1 E1 ok => by
    show spM X.K ins mf sl outs (vs ++ []) H1 Q EE
    rw [List.append_nil]
    exact call_sp arg E1 ok hi hins ho hal hres hne (R.post_mono q fun b k v G2 H2 x2 E2 => k v G2 H2 (x1.trans x2) E2)⟩
end
end
end DL

/-! DL5: statements, loops -/
namespace DL
open PySem PySem.Spec L2

inductive Fl (N L T : Type) where
  | nx (n : N)
  | ct (l : L)
  | bk (l : L)
  | rt (t : T)
/-- how the ways out stand -/
structure Fin (N L T : Type) where
  n : N → List Slot
  c : L → List Slot
  k : L → List Slot
  s : T → Slot
  t : T → List Slot
def flP (K : PySem.W.Frag) (B : Base) (G : Hp) (D : Ends) {N L T : Type} (F : Fin N L T) : Fl N L T → Prop
  | .nx n => ∀ σ' G' H', Ex G G' → En K B G' H' σ' (F.n n) [] → D.nx σ' H'
  | .ct l => ∀ σ' G' H', Ex G G' → En K B G' H' σ' (F.c l) [] → D.ct σ' H'
  | .bk l => ∀ σ' G' H', Ex G G' → En K B G' H' σ' (F.k l) [] → D.bk σ' H'
  | .rt t => ∀ v σ' G' H', Ex G G' → En K B G' H' σ' (F.t t) [(v, F.s t)] → D.rt v H'
def tJS (K : PySem.W.Frag) (B : Base) (ρ : List Slot) {N L T : Type} (m : R (Fl N L T)) (F : Fin N L T) : TS := fun D σ H =>
  ∃ G, En K B G H σ ρ [] ∧ m.post (flP K B G D F) B.rs
def JS (X : Cx) (B : Base) (ρ : List Slot) (st : Stmt) {N L T : Type} (m : R (Fl N L T)) (F : Fin N L T) : Prop := PS X st (tJS X.K B ρ m F)
def JSs (X : Cx) (B : Base) (ρ : List Slot) (sts : List Stmt) {N L T : Type} (m : R (Fl N L T)) (F : Fin N L T) : Prop := PSs X sts (tJS X.K B ρ m F)
/-- a statement that just goes on -/
def tJ1 (K : PySem.W.Frag) (B : Base) (ρ : List Slot) {β : Type} (m : R β) (ρ' : β → List Slot) : TS := fun D σ H =>
  ∃ G, En K B G H σ ρ [] ∧ m.post (fun b => ∀ σ' G' H', Ex G G' → En K B G' H' σ' (ρ' b) [] → D.nx σ' H') B.rs
def J1 (X : Cx) (B : Base) (ρ : List Slot) (st : Stmt) {β : Type} (m : R β) (ρ' : β → List Slot) : Prop := PS X st (tJ1 X.K B ρ m ρ')
def bindF {N1 N L T : Type} (m : R (Fl N1 L T)) (k : N1 → R (Fl N L T)) : R (Fl N L T) := m.bind fun
  | .nx n => k n
  | .ct l => .ok (.ct l)
  | .bk l => .ok (.bk l)
  | .rt t => .ok (.rt t)
theorem flP_ex {K : PySem.W.Frag} {B : Base} {G G1 : Hp} {D : Ends} {N L T : Type} {F : Fin N L T} {f : Fl N L T} (h : flP K B G D F f) (e : Ex G G1) : flP K B G1 D F f := by
  cases f with
  | nx n => exact fun σ' G' H' x E => h σ' G' H' (e.trans x) E
  | ct n => exact fun σ' G' H' x E => h σ' G' H' (e.trans x) E
  | bk n => exact fun σ' G' H' x E => h σ' G' H' (e.trans x) E
  | rt n => exact fun v σ' G' H' x E => h v σ' G' H' (e.trans x) E
section
variable {X : Cx} {B : Base} {ρ : List Slot} {st : Stmt} {rest : List Stmt} {N N1 L T β : Type} {F : Fin N L T} {pos : Pos} {e : Expr}
theorem js_nil (bs : List Bool) (n : N) (h : forgot ρ bs = F.n n := by rfl) : JSs X B ρ [] (.ok (.nx n)) F :=
  PSs_imp pss_nil fun D σ H ⟨G, E, q⟩ => q σ G H (Ex.refl G) (by
    rw [← h]
    exact E.forgot bs)
theorem js_one {m : R (Fl N L T)} (h : JS X B ρ st m F) : JSs X B ρ [st] m F := pss_one h
theorem js_cons1 {m : R β} {ρ' : β → List Slot} {k : β → R (Fl N L T)} (h : J1 X B ρ st m ρ') (r : ∀ b, JSs X B (ρ' b) rest (k b) F) : JSs X B ρ (st :: rest) (m.bind k) F := by
  have r' : PSs X rest (fun D σ H => ∃ b, tJS X.K B (ρ' b) (k b) F D σ H) := ⟨fun pins s σ H D I ⟨b, q⟩ => (r b).run pins s σ H D I q⟩
  exact PSs_imp (pss_cons h r') fun D σ H ⟨G, E, q⟩ => ⟨G, E, R.post_mono (R.post_bind.mp q) fun b q1 σ' G' H' x E' => ⟨b, G', E', R.post_mono q1 fun f q2 => flP_ex q2 x⟩⟩
theorem js_cons {m : R (Fl N1 L T)} {ρ1 : N1 → List Slot} {k : N1 → R (Fl N L T)} (h : JS X B ρ st m ⟨ρ1, F.c, F.k, F.s, F.t⟩) (r : ∀ n, JSs X B (ρ1 n) rest (k n) F) : JSs X B ρ (st :: rest) (bindF m k) F := by
  have r' : PSs X rest (fun D σ H => ∃ b, tJS X.K B (ρ1 b) (k b) F D σ H) := ⟨fun pins s σ H D I ⟨b, q⟩ => (r b).run pins s σ H D I q⟩
  exact PSs_imp (pss_cons h r') fun D σ H ⟨G, E, q⟩ => ⟨G, E, R.post_mono (R.post_bind.mp q) fun f q1 => by
    cases f with
    | nx n => exact fun σ' G' H' x E' => ⟨n, G', E', R.post_mono q1 fun f q2 => flP_ex q2 x⟩
    | ct n => exact q1
    | bk n => exact q1
    | rt n => exact q1⟩
theorem js_ret {m : R β} {sl : β → Slot} {ρ' : β → List Slot} (f : β → T) (bs : List Bool) (h : JE X B ρ e m sl ρ') (hs : ∀ b, F.s (f b) = sl b := by intro _; rfl) (ht : ∀ b, forgot (ρ' b) bs = F.t (f b) := by intro _; rfl) : JS X B ρ (.Return (some e) pos) (m.bind fun b => .ok (.rt (f b))) F :=
  PS_imp (ps_ret h) fun D σ H ⟨G, E, q⟩ => ⟨G, E, R.post_mono (R.post_bind.mp q) fun b q1 v G' H' x E' => q1 v σ G' H' x (by
    rw [hs b, ← ht b]
    obtain ⟨A, c, nd, f'⟩ := E'.own
    cases c with
    | @cons _ _ A1 _ _ A2 c1 cr =>
      obtain ⟨A3, h1, h2⟩ := Cells.forgot bs (show Cells X.K B G' H' σ (ρ' b) A2 from cr)
      have sub : (A1 ++ A3).Sublist (A1 ++ A2) := h2.append_left A1
      refine ⟨E'.anc, ⟨A1 ++ A3, .cons c1 h1, sub.nodup nd, fun a m => f' a (sub.subset m)⟩, by rw [forgot_len]; exact E'.len, fun i j p e => ?_⟩
      rcases forgot_get (ρ' b) bs i _ e with z | z
      · cases z
      · exact E'.ali i j p z)⟩
theorem js_if {c : Expr} {a b : List Stmt} {mc : R β} {bn : β → Bool} {ρ' : β → List Slot} {ma mb : β → R (Fl N L T)} (h : JT X B ρ c mc bn ρ') (ha : ∀ x, JSs X B (ρ' x) a (ma x) F) (hb : ∀ x, JSs X B (ρ' x) b (mb x) F) :
    JS X B ρ (.If c a b pos) (mc.bind fun x => if bn x = true then ma x else mb x) F := by
  have ha' : PSs X a (fun D σ H => ∃ x, tJS X.K B (ρ' x) (ma x) F D σ H) := ⟨fun pins s σ H D I ⟨x, q⟩ => (ha x).run pins s σ H D I q⟩
  have hb' : PSs X b (fun D σ H => ∃ x, tJS X.K B (ρ' x) (mb x) F D σ H) := ⟨fun pins s σ H D I ⟨x, q⟩ => (hb x).run pins s σ H D I q⟩
  refine PS_imp (ps_if h ha' hb') fun D σ H ⟨G, E, q⟩ => ⟨G, E, R.post_mono (R.post_bind.mp q) fun x q1 G' H' y E' => ?_⟩
  cases hx : bn x with
  | true =>
    rw [if_pos hx] at q1
    exact ⟨x, G', E', R.post_mono q1 fun f q2 => flP_ex q2 y⟩
  | false =>
    rw [if_neg (by rw [hx]; decide)] at q1
    exact ⟨x, G', E', R.post_mono q1 fun f q2 => flP_ex q2 y⟩
/-- the test pure -/
theorem js_ifP {c : Expr} {a b : List Stmt} {t : Bool} {ma mb : R (Fl N L T)} (h : TP0 X B ρ c t) (ha : JSs X B ρ a ma F) (hb : JSs X B ρ b mb F) : JS X B ρ (.If c a b pos) (if t = true then ma else mb) F :=
  js_if (mc := .ok ()) (bn := fun _ => t) (ma := fun _ => ma) (mb := fun _ => mb) h (fun _ => ha) fun _ => hb
theorem js_break {F : Fin N L T} (bs : List Bool) (l : L) (h : forgot ρ bs = F.k l := by rfl) : JS X B ρ (.Break pos) (.ok (.bk l)) F :=
  PS_imp ps_break fun D σ H ⟨G, E, q⟩ => q σ G H (Ex.refl G) (by
    rw [← h]
    exact E.forgot bs)
theorem js_continue {F : Fin N L T} (bs : List Bool) (l : L) (h : forgot ρ bs = F.c l := by rfl) : JS X B ρ (.Continue pos) (.ok (.ct l)) F :=
  PS_imp ps_continue fun D σ H ⟨G, E, q⟩ => q σ G H (Ex.refl G) (by
    rw [← h]
    exact E.forgot bs)
theorem j1_pass : J1 X B ρ (.Pass pos) (.ok ()) (fun _ => ρ) := PS_imp ps_pass fun D σ H ⟨G, E, q⟩ => q σ G H (Ex.refl G) E
theorem j1_expr {m : R β} {sl : β → Slot} {ρ' : β → List Slot} (h : JE X B ρ e m sl ρ') (hs : swapsWith e none pos.line X.env = pure false := by rfl) : J1 X B ρ (.Expr e pos) m ρ' :=
  PS_imp (ps_expr h hs) fun D σ H ⟨G, E, q⟩ => ⟨G, E, R.post_mono q fun b q1 v G' H' x E' => q1 σ G' H' x E'.pop⟩
/-- x = e -/
theorem j1_set (i : Nat) {x : Str} {pos' : Pos} {m : R β} {sl : β → Slot} {ρ' : β → List Slot} (hN : X.N.Nodup) (h : JE X B ρ e m sl ρ') (hi : X.N[i]? = some x := by rfl) (hx : Loc X.env.scope x := by first | exact Or.inl rfl | exact Or.inr rfl)
    (hlt : ∀ b, i < (ρ' b).length := by intro _; exact of_decide_eq_true rfl) (hal : ∀ b, noAli i (ρ' b) = true := by intro _; rfl) (hres : ∀ b, resOk (sl b) = true := by intro _; rfl)
    (hs : swapsWith e (some (.Name x pos')) pos.line X.env = pure false := by rfl) (hf : X.fn x = true ∨ X.env.scope.names.lookup x = some .local := by first | exact .inl rfl | exact .inr rfl) : J1 X B ρ (.Assign [.Name x pos'] e pos) m (fun b => (ρ' b).set i (sl b)) :=
  PS_imp (ps_set (i := i) hN hi hx h (hs := hs) (hf := hf)) fun D σ H ⟨G, E, q⟩ => ⟨G, E, R.post_mono q fun b q1 v G' H' x E' => q1 (σ.set i (some v)) G' H' x (E'.set (hlt b) (fun j p z => by
    have := hres b
    rw [z] at this
    cases this) (hal b))⟩
end
end DL

/-! DL6: targets, loops -/
namespace DL
open PySem PySem.Spec L2

section
variable {K : PySem.W.Frag} {B : Base} {G G' H H' : Hp} {σ : L2.St} {ρ : List Slot} {ex : List (V × Slot)}
/-- an owned list of data, changed to another one of data -/
theorem own_dats : ∀ {vs : List V} {ds : List D}, RpAll K G vs ds → OwnAll K G H vs (ds.map OT.dat) []
  | _, _, .nil => .nil
  | _, _, .cons h r => .cons (A := []) (A' := []) (.dat h) (own_dats r)
theorem own_dats_inv : ∀ {vs : List V} {ds : List D} {A : List Addr}, OwnAll K G H vs (ds.map OT.dat) A → A = [] ∧ RpAll K G vs ds
  | _, [], _, h => by
    cases h
    exact ⟨rfl, .nil⟩
  | _, d :: ds, _, h => by
    cases h with
    | cons h r =>
      cases h with
      | dat h =>
        obtain ⟨e, r⟩ := own_dats_inv r
        exact ⟨by rw [e]; rfl, .cons h r⟩
theorem En.ownD (E : En K B G H σ ρ ex) {i l : Nat} {ds : List D} (h : ρ[i]? = some (.own l (.lst (ds.map OT.dat)))) (hal : noAlis ρ = true) : ∃ p vs, σ[i]? = some (some (.ref p)) ∧ H p = some (.lst vs) ∧ RpAll K G vs ds ∧
    ∀ G' H1 ex' vs' ds', En K B G' H1 σ ρ ex' → Ex G G' → H1 p = some (.lst vs) → RpAll K G' vs' ds' → En K B G' (upd H1 p (.lst vs')) σ (ρ.set i (.own l (.lst (ds'.map OT.dat)))) ex' := by
  obtain ⟨A, c, n, f⟩ := E.own
  have gen : ∀ {G H : Hp} {ex : List (V × Slot)} {A : List Addr}, Cells K B G H (ex.map (fun p => some p.1) ++ σ) (ex.map (·.2) ++ ρ) A → ∃ p vs A1 A2, σ[i]? = some (some (.ref p)) ∧ H p = some (.lst vs) ∧ RpAll K G vs ds ∧ A1 = [p] ∧ ((p ∈ B.Mo l ∨ B.H0 p = none) ∧ (l = 0 ∨ B.pv l = some (.ref p))) ∧
      Cells K B G H (ex.map (fun p => some p.1) ++ σ) ((ex.map (·.2) ++ ρ).set (ex.length + i) .non) A2 ∧ A.Perm (A1 ++ A2) := fun {G H ex A} c => by
    obtain ⟨v, A1, A2, e1, hO, ⟨hl, hv⟩, c2, p⟩ := c.take1 (i := ex.length + i) (l := l) (o := .lst (ds.map OT.dat)) (by
      rw [List.getElem?_append_right (by simp), List.length_map]
      simpa using h)
    rw [List.getElem?_append_right (by simp), List.length_map] at e1
    cases hO with
    | @lst a vs _ A3 ha hall =>
      obtain ⟨e3, r⟩ := own_dats_inv hall
      subst e3
      exact ⟨a, vs, [a], A2, by simpa using e1, ha, r, rfl, ⟨hl a (by simp), hv⟩, c2, p⟩
  obtain ⟨p, vs, A1, A2, e1, e2, e3, e4, e5, c2, pm⟩ := gen c
  refine ⟨p, vs, e1, e2, e3, fun G' H1 ex' vs' ds' E' hG hp r' => ?_⟩
  obtain ⟨A', c', n', f'⟩ := E'.own
  obtain ⟨q, ws, B1, B2, g1, g2, g3, g4, g5, d2, pm'⟩ := gen c'
  have epq : q = p := by
    have z := g1.symm.trans e1
    injection z with z
    injection z with z
    injection z
  subst epq
  subst g4
  have nq := pm'.nodup_iff.mp n'
  have nq2 : q ∉ B2 := (List.nodup_cons.mp nq).1
  have fq : G' q = none := f' q (pm'.mem_iff.mpr (by simp))
  have d3 : Cells K B G' (upd H1 q (.lst vs')) (ex'.map (fun p => some p.1) ++ σ) ((ex'.map (·.2) ++ ρ).set (ex'.length + i) .non) B2 := d2.ex (Ex.refl _) fun a m u e => by
    rw [upd_ne (fun z => nq2 (by rw [← z]; exact m))]
    exact e
  have hi : i < ρ.length := (List.getElem?_eq_some_iff.mp h).1
  obtain ⟨A3, c3, p3⟩ := d3.put1 (i := ex'.length + i) (l := l) (o := .lst (ds'.map OT.dat)) (v := .ref q) (A1 := [q]) (by
      rw [List.getElem?_set_self (by simp; omega)]) (by
      rw [List.getElem?_append_right (by simp), List.length_map]
      simpa using g1) (.lst upd_same (own_dats r')) ⟨fun a m => by
      rw [List.mem_singleton.mp m]
      exact g5.1, g5.2⟩
  rw [List.set_set, List.set_append_right _ _ (by simp), List.length_map, Nat.add_sub_cancel_left] at c3
  refine ⟨E'.anc.put fq (g5.1.imp (fun z => ⟨l, z⟩) id) _, ⟨A3, c3, p3.nodup_iff.mpr nq, fun a m => ?_⟩, by rw [List.length_set]; exact E'.len, fun k j pa e => ?_⟩
  · exact f' a (pm'.mem_iff.mpr (p3.mem_iff.mp m))
  · have hk : i ≠ k := fun z => by
      subst z
      rw [List.getElem?_set_self hi] at e
      cases e
    rw [List.getElem?_set_ne hk] at e
    exact absurd e (noAlis_get hal)
end
/-! ### targets -/
def tJG (K : PySem.W.Frag) (B : Base) (ρ : List Slot) (d : D) {γ : Type} (m : R γ) (ρ' : γ → List Slot) : TG := fun v σ H Q =>
  ∃ G, En K B G H σ ρ [] ∧ Rp K G v d ∧ m.post (fun c => ∀ σ' G' H', Ex G G' → En K B G' H' σ' (ρ' c) [] → Q σ' H') B.rs
def JG (X : Cx) (B : Base) (ρ : List Slot) (tg : Expr) (d : D) {γ : Type} (m : R γ) (ρ' : γ → List Slot) : Prop := PG X tg (tJG X.K B ρ d m ρ')
def tJGs (K : PySem.W.Frag) (B : Base) (ρ : List Slot) (ds : List D) {γ : Type} (m : R γ) (ρ' : γ → List Slot) : TGs := fun vs σ H Q =>
  ∃ G, En K B G H σ ρ [] ∧ RpAll K G vs ds ∧ m.post (fun c => ∀ σ' G' H', Ex G G' → En K B G' H' σ' (ρ' c) [] → Q σ' H') B.rs
def JGs (X : Cx) (B : Base) (ρ : List Slot) (ts : List Expr) (ds : List D) {γ : Type} (m : R γ) (ρ' : γ → List Slot) : Prop := PGs X ts (tJGs X.K B ρ ds m ρ')
section
variable {X : Cx} {B : Base} {ρ : List Slot} {pos : Pos} {e a b : Expr}
theorem PG_imp {e : Expr} {t t' : TG} (h : PG X e t) (k : ∀ v σ H Q, t' v σ H Q → t v σ H Q) : PG X e t' := ⟨fun pins s σ H v u Q I r q => h.run pins s σ H v u Q I r (k v σ H Q q)⟩
theorem PGs_imp {e : List Expr} {t t' : TGs} (h : PGs X e t) (k : ∀ v σ H Q, t' v σ H Q → t v σ H Q) : PGs X e t' := ⟨fun pins s σ H v u Q I r q => h.run pins s σ H v u Q I r (k v σ H Q q)⟩
theorem jg_name (i : Nat) {x : Str} {d : D} (hN : X.N.Nodup) (hi : X.N[i]? = some x := by rfl) (hx : Loc X.env.scope x := by first | exact Or.inl rfl | exact Or.inr rfl) (hf : X.fn x = true ∨ X.env.scope.names.lookup x = some .local := by first | exact .inl rfl | exact .inr rfl)
    (hlt : i < ρ.length := by exact of_decide_eq_true rfl) (hal : noAli i ρ = true := by rfl) : JG X B ρ (.Name x pos) d (.ok ()) (fun _ => ρ.set i (.val d)) :=
  PG_imp (pg_name (i := i) hN hi hx hf) fun v σ H Q ⟨G, E, r, q⟩ => q (σ.set i (some v)) G H (Ex.refl G) ((E.push r).set hlt (fun _ _ z => nomatch z) hal)
theorem jgs_nil : JGs X B ρ [] [] (.ok ()) (fun _ => ρ) := PGs_imp pgs_nil fun vs σ H Q ⟨G, E, r, q⟩ => by
  cases r
  exact ⟨rfl, q σ G H (Ex.refl G) E⟩
theorem jgs_cons {es : List Expr} {d : D} {ds : List D} {γ δ : Type} {m : R γ} {ρ1 : γ → List Slot} {m2 : γ → R δ} {ρ2 : γ → δ → List Slot} (h : JG X B ρ e d m ρ1) (t : ∀ c, JGs X B (ρ1 c) es ds (m2 c) (ρ2 c))
    (hs : (assignEach (e :: es) X.env).map (·.2) = assign e X.env :: (assignEach es X.env).map (·.2) := by rfl) : JGs X B ρ (e :: es) (d :: ds) (m.bind fun c => (m2 c).bind fun c2 => .ok (c, c2)) (fun p => ρ2 p.1 p.2) := by
  have t' : PGs X es (fun vs σ H Q => ∃ c, tJGs X.K B (ρ1 c) ds (m2 c) (ρ2 c) vs σ H Q) := ⟨fun pins s σ H vs us Q I r ⟨c, q⟩ => (t c).run pins s σ H vs us Q I r q⟩
  refine PGs_imp (pgs_cons h t' hs) fun vs σ H Q ⟨G, E, r, q⟩ => ?_
  cases r with
  | cons r rr => exact ⟨_, _, rfl, G, E, r, R.post_mono (R.post_bind.mp q) fun c q1 σ' G' H' x E' => ⟨c, G', E', rr.ex x, R.post_mono (R.post_bind.mp q1) fun c2 q2 σ2 G2 H2 x2 E2 => q2 σ2 G2 H2 (x.trans x2) E2⟩⟩
/-- the first target a name -/
theorem jgs_p {es : List Expr} {d : D} {ds : List D} {δ : Type} {ρ1 : List Slot} {m2 : R δ} {ρ2 : δ → List Slot} (h : JG X B ρ e d (.ok ()) (fun _ => ρ1)) (t : JGs X B ρ1 es ds m2 ρ2)
    (hs : (assignEach (e :: es) X.env).map (·.2) = assign e X.env :: (assignEach es X.env).map (·.2) := by rfl) : JGs X B ρ (e :: es) (d :: ds) m2 ρ2 := by
  refine PGs_imp (pgs_cons h t hs) fun vs σ H Q ⟨G, E, r, q⟩ => ?_
  cases r with
  | cons r rr => exact ⟨_, _, rfl, G, E, r, fun σ' G' H' x E' => ⟨G', E', rr.ex x, R.post_mono q fun c2 q2 σ2 G2 H2 x2 E2 => q2 σ2 G2 H2 (x.trans x2) E2⟩⟩
theorem jg_tup {es : List Expr} {k : Nat} {ds : List D} {γ : Type} {m : R γ} {ρ' : γ → List Slot} (hc : X.calm = true) (h : JGs X B ρ es ds m ρ') (hn : (assignEach es X.env).length = ds.length := by rfl) (hst : (assignEach es X.env).findIdx? (·.1) = none := by rfl) : JG X B ρ (.Tuple es k pos) (.tuple ds) m ρ' :=
  PG_imp (pg_tup (n := ds.length) hc h hn hst) fun v σ H Q ⟨G, E, r, q⟩ => by
    obtain ⟨a, xs, rfl, hS, hr⟩ := r.tup_inv
    exact ⟨a, xs, rfl, E.sub.t hS, hr.len, G, E, hr, q⟩
/-- targets = e -/
theorem j1_asg {tg : Expr} {β γ : Type} {m : R β} {d : β → D} {ρ' : β → List Slot} {m2 : β → R γ} {ρ2 : β → γ → List Slot} (h : JE X B ρ e m (fun b => .val (d b)) ρ') (g : ∀ b, JG X B (ρ' b) tg (d b) (m2 b) (ρ2 b))
    (hs : swapsWithSole [tg] e pos.line X.env = pure false := by rfl) (hw : swappedStores [tg] e X.env = pure none := by rfl) (h1 : (assignEach [tg] X.env).map (·.2) = [assign tg X.env] := by rfl) : J1 X B ρ (.Assign [tg] e pos) (m.bind fun b => (m2 b).bind fun c => .ok (b, c)) (fun p => ρ2 p.1 p.2) := by
  have g' : PG X tg (fun v σ H Q => ∃ b, tJG X.K B (ρ' b) (d b) (m2 b) (ρ2 b) v σ H Q) := ⟨fun pins s σ H v u Q I r ⟨b, q⟩ => (g b).run pins s σ H v u Q I r q⟩
  exact PS_imp (ps_asg h g' hs hw h1) fun D σ H ⟨G, E, q⟩ => ⟨G, E, R.post_mono (R.post_bind.mp q) fun b q1 v G' H' x E' => ⟨b, G', E'.pop, E'.top, R.post_mono (R.post_bind.mp q1) fun c q2 σ2 G2 H2 x2 E2 => q2 σ2 G2 H2 (x.trans x2) E2⟩⟩

/-- all targets names -/
theorem j1_asgN {tg : Expr} {β : Type} {m : R β} {d : β → D} {ρ' : β → List Slot} {ρ2 : β → List Slot} (h : JE X B ρ e m (fun b => .val (d b)) ρ') (g : ∀ b, JG X B (ρ' b) tg (d b) (.ok ()) (fun _ => ρ2 b))
    (hs : swapsWithSole [tg] e pos.line X.env = pure false := by rfl) (hw : swappedStores [tg] e X.env = pure none := by rfl) (h1 : (assignEach [tg] X.env).map (·.2) = [assign tg X.env] := by rfl) : J1 X B ρ (.Assign [tg] e pos) m ρ2 := by
  have g' : PG X tg (fun v σ H Q => ∃ b, tJG X.K B (ρ' b) (d b) (.ok ()) (fun _ => ρ2 b) v σ H Q) := ⟨fun pins s σ H v u Q I r ⟨b, q⟩ => (g b).run pins s σ H v u Q I r q⟩
  exact PS_imp (ps_asg h g' hs hw h1) fun D σ H ⟨G, E, q⟩ => ⟨G, E, R.post_mono q fun b q1 v G' H' x E' => ⟨b, G', E'.pop, E'.top, fun σ2 G2 H2 x2 E2 => q1 σ2 G2 H2 (x.trans x2) E2⟩⟩
/-- a, b = x, y: plain local names -/
theorem j1_par (i j : Nat) {x y : Str} {px py pt : Pos} {kt k2 : Nat} {pt2 : Pos} {β : Type} {m : R β} {as : β → List Ar} {ρ' : β → List Slot} {d1 d2 : β → D} (hc : X.calm = true) (hN : X.N.Nodup) (ha : JA X B ρ [a, b] m as ρ') (hd : ∀ c, as c = [.val (d1 c), .val (d2 c)] := by intro _; rfl)
    (hi : X.N[i]? = some x := by rfl) (hj : X.N[j]? = some y := by rfl) (hij : i ≠ j := by decide)
    (hx : X.env.scope.names.lookup x = some .local := by rfl) (hy : X.env.scope.names.lookup y = some .local := by rfl) (hw : swappedStores [.Tuple [.Name x px, .Name y py] kt pt] (.Tuple [a, b] k2 pt2) X.env = pure (some [x, y]) := by rfl)
    (hs : swapsWithSole [.Tuple [.Name x px, .Name y py] kt pt] (.Tuple [a, b] k2 pt2) pos.line X.env = pure false := by rfl) (hli : ∀ c, i < (ρ' c).length := by intro _; exact of_decide_eq_true rfl) (hlj : ∀ c, j < (ρ' c).length := by intro _; exact of_decide_eq_true rfl)
    (hai : ∀ c, noAli i (ρ' c) = true := by intro _; rfl) (haj : ∀ c, noAli j ((ρ' c).set i (.val (d1 c))) = true := by intro _; rfl) :
    J1 X B ρ (.Assign [.Tuple [.Name x px, .Name y py] kt pt] (.Tuple [a, b] k2 pt2) pos) m (fun c => ((ρ' c).set i (.val (d1 c))).set j (.val (d2 c))) :=
  PS_imp (ps_par hc hN hi hj hij hx hy ha hw hs) fun D σ H ⟨G, E, q⟩ => ⟨G, E, R.post_mono q fun c q1 vs G' H' z E' ok => by
    rw [hd c] at ok
    cases ok with
    | val r1 ok =>
      cases ok with
      | val r2 ok =>
        cases ok
        refine ⟨_, _, rfl, q1 _ G' H' z ?_⟩
        have E1 := (E'.push r1).set (hli c) (fun _ _ z => nomatch z) (hai c)
        exact (E1.push r2).set (by rw [List.length_set]; exact hlj c) (fun _ _ z => nomatch z) (haj c)⟩
/-- o[k] = .., o an owned list of data -/
theorem jg_sub (i : Nat) {x : Str} {px : Pos} {l : Nat} {α : Type} {en : α → D} {xs : List α} {y : α} {k : Int} {o2 : Expr} (h : ρ[i]? = some (.own l (.lst ((xs.map en).map OT.dat))) := by rfl) (hk : JP X B ρ o2 (.int k)) (hal : noAlis ρ = true := by rfl) (hN : X.N[i]? = some x := by rfl)
    (hv : Vis X.env.scope x := by first | exact Or.inl rfl | exact Or.inr (Or.inl rfl) | exact Or.inr (Or.inr rfl)) (hd : (x == ("__debug__" : Str)) = false := by decide) (hcd : (x == ("__classdict__" : Str)) = false := by decide)
    (ha : ∀ v, assign (.Subscript (.Name x px) o2 pos) X.env v = (do
      let ov ← holding [v] (eval (.Name x px) X.env)
      let iv ← holding [v, ov] (eval o2 X.env)
      standAt pos
      holding [v, ov, iv] (setItem ov iv v)
      release [v, ov, iv] []) := by intro _; rfl) :
    JG X B ρ (.Subscript (.Name x px) o2 pos) (en y) (R.some (ixN xs.length k)) (fun j => ρ.set i (.own l (.lst (((xs.set j y).map en).map OT.dat)))) :=
  PG_imp (pg_sub (pv i hN hv hd hcd) hk set_list ha) fun v σ H Q ⟨G, E, r, q⟩ => by
    obtain ⟨p, vs, e1, e2, e3, e4⟩ := E.ownD h hal
    obtain ⟨j, hj, q⟩ := R.post_some q
    refine ⟨.ref p, e1, G, E, fun w G1 H1 x1 E1 => ?_⟩
    have hn := E1.top.int_inv
    obtain ⟨p', vs', g1, g2, g3, g4⟩ := E1.pop.ownD h hal
    have ep : p' = p := by
      have z := g1.symm.trans e1
      injection z with z
      injection z with z
      injection z
    subst ep
    have hl : vs'.length = xs.length := by
      rw [g3.len, List.length_map]
    refine ⟨p', vs', k, j, rfl, hn, g2, by rw [hl]; exact hj, q σ G1 _ x1 ?_⟩
    have rs : ∀ {vs : List V} {ds : List D} (j : Nat), RpAll X.K G1 vs ds → RpAll X.K G1 (vs.set j v) (ds.set j (en y)) := by
      intro vs ds j h
      induction ds generalizing vs j with
      | nil =>
        cases h
        exact .nil
      | cons d ds ih =>
        cases h with
        | cons h1 h2 =>
          cases j with
          | zero => exact .cons (r.ex x1) h2
          | succ j => exact .cons h1 (ih j h2)
    have := g4 G1 H1 [] (vs'.set j v) ((xs.map en).set j (en y)) E1.pop (Ex.refl _) g2 (rs j g3)
    rw [← List.map_set] at this
    exact this
end
/-! ### loops -/
def forR {α S L T : Type} (f : α → S → R (Fl S S T)) : List α → S → R (Fl S L T)
  | [], s => .ok (.nx s)
  | x :: xs, s => (f x s).bind fun
    | .nx s' => forR f xs s'
    | .ct s' => forR f xs s'
    | .bk s' => .ok (.nx s')
    | .rt t => .ok (.rt t)
/-- an iterator that yields data -/
structure Yld (K : PySem.W.Frag) (J : It) (G : Hp) (ds : List D) : Prop where
  go : ∀ i H, i < ds.length → Ex G H → J.go i H
  stop : ∀ i H, ds.length ≤ i → Ex G H → J.stop i H
  yld : ∀ (B : Base) i G1 H1 σ ρ x H', Ex G G1 → En K B G1 H1 σ ρ [] → J.yld i H1 x H' → ∀ d, ds[i]? = some d → ∃ G2, Ex G1 G2 ∧ En K B G2 H' σ ρ [] ∧ Rp K G2 x d
def tJI (K : PySem.W.Frag) (B : Base) (ρ : List Slot) {β : Type} (m : R β) (ds : β → List D) (ρ' : β → List Slot) : TI := fun σ H Q =>
  ∃ G, En K B G H σ ρ [] ∧ m.post (fun b => ∀ J G' H', Ex G G' → En K B G' H' σ (ρ' b) [] → Yld K J G' (ds b) → Q J H') B.rs
def JI (X : Cx) (B : Base) (ρ : List Slot) (tg it : Expr) {β : Type} (m : R β) (ds : β → List D) (ρ' : β → List Slot) : Prop := PI X tg it (tJI X.K B ρ m ds ρ')
section
variable {X : Cx} {B : Base} {ρ : List Slot} {pos : Pos} {e a b tg it : Expr}
theorem PI_imp {t t' : TI} (h : PI X tg it t) (k : ∀ σ H Q, t' σ H Q → t σ H Q) : PI X tg it t' := ⟨fun pins s σ H Q I q => h.run pins s σ H Q I (k σ H Q q)⟩
theorem js_for {α β S L T : Type} {m : R β} {xs : β → List α} {en : α → D} {ρ' : β → List Slot} {s0 : β → S} (ρS : S → List Slot) (ρB : α → S → List Slot) {f : α → S → R (Fl S S T)} {F : Fin S L T} {body : List Stmt} (hp : PassesOwn (model X.prog X.w) X.A X.env X.xe) (hc : X.calm = true)
    (hi : JI X B ρ tg it m (fun b => (xs b).map en) ρ') (bs : List Bool) (hw : ∀ b, forgot (ρ' b) bs = ρS (s0 b)) (hg : ∀ x s, JG X B (ρS s) tg (en x) (.ok ()) (fun _ => ρB x s))
    (hb : ∀ x s, JSs X B (ρB x s) body (f x s) ⟨ρS, ρS, ρS, F.s, F.t⟩) (hn : F.n = ρS := by rfl) (hs : ∀ v, foldedSetIterable it X.env v = pure v := by intro _; rfl) : JS X B ρ (.For tg it body [] pos) (m.bind fun b => forR f (xs b) (s0 b)) F := by
  have hg' : PG X tg (fun v σ H Q => ∃ x s, tJG X.K B (ρS s) (en x) (.ok ()) (fun _ => ρB x s) v σ H Q) := ⟨fun pins s σ H v u Q I r ⟨x, s', q⟩ => (hg x s').run pins s σ H v u Q I r q⟩
  have hb' : PSs X body (fun D σ H => ∃ x s, tJS X.K B (ρB x s) (f x s) ⟨ρS, ρS, ρS, F.s, F.t⟩ D σ H) := ⟨fun pins s σ H D I ⟨x, s', q⟩ => (hb x s').run pins s σ H D I q⟩
  refine PS_imp (ps_for hp hc hi hg' hb' hs) fun D σ H ⟨G, E, q⟩ => ⟨G, E, R.post_mono (R.post_bind.mp q) fun b q1 J G' H' xG E' Y => ?_⟩
  have hlen : ((xs b).map en).length = (xs b).length := List.length_map _
  let W : Nat → L2.St → Hp → Prop := fun i σ' H1 => ∃ G1 s, Ex G' G1 ∧ En X.K B G1 H1 σ' (ρS s) [] ∧ (forR f ((xs b).drop i) s).post (flP X.K B G1 D F) B.rs
  refine ⟨fun i mm σ' H1 => mm = (xs b).length - i ∧ i ≤ (xs b).length ∧ W i σ' H1, ⟨_, rfl, Nat.zero_le _, G', s0 b, Ex.refl _, by rw [← hw b]; exact E'.forgot bs, R.post_mono q1 fun fl h => flP_ex h xG⟩, ?_⟩
  rintro i mm σ1 H1 ⟨rfl, hi1, G1, s, x1, E1, q2⟩
  have nxt : ∀ G2 s', Ex G' G2 → i < (xs b).length → (forR f ((xs b).drop (i + 1)) s').post (flP X.K B G2 D F) B.rs → ∀ σ' G3 H', Ex G2 G3 → En X.K B G3 H' σ' (ρS s') [] → W (i + 1) σ' H' := fun G2 s' y hlt h σ' G3 H' z E3 => ⟨G3, s', y.trans z, E3, R.post_mono h fun fl h => flP_ex h z⟩
  by_cases hlt : i < (xs b).length
  · refine .inr ⟨Y.go i H1 (by rw [hlen]; exact hlt) (x1.trans E1.sub), fun σ' H' => W (i + 1) σ' H', fun σ' H' w => ⟨_, ?_, rfl, hlt, w⟩, fun v H2 hy => ?_⟩
    · omega
    · have hd : ((xs b).map en)[i]? = some (en (xs b)[i]) := by rw [List.getElem?_map, List.getElem?_eq_getElem hlt]; rfl
      obtain ⟨G2, x2, E2, r2⟩ := Y.yld B i G1 H1 σ1 (ρS s) v H2 x1 E1 hy _ hd
      rw [List.drop_eq_getElem_cons hlt] at q2
      refine ⟨(xs b)[i], s, G2, E2, r2, fun σ' G3 H3 x3 E3 => ⟨(xs b)[i], s, G3, E3, R.post_mono (R.post_bind.mp q2) fun fl q3 => ?_⟩⟩
      have x13 := x2.trans x3
      have up : ∀ {m' : R (Fl S L T)}, m'.post (flP X.K B G1 D F) B.rs → m'.post (flP X.K B G3 D F) B.rs := fun h => R.post_mono h fun fl h => flP_ex h x13
      cases fl with
      | nx s' => exact nxt G3 s' (x1.trans x13) hlt (up q3)
      | ct s' => exact nxt G3 s' (x1.trans x13) hlt (up q3)
      | bk s' =>
        intro σ4 G4 H4 x4 E4
        have q3 : flP X.K B G1 D F (.nx s') := q3
        refine q3 σ4 G4 H4 (x13.trans x4) ?_
        rw [hn]
        exact E4
      | rt t =>
        intro v σ4 G4 H4 x4 E4
        have q3 : flP X.K B G1 D F (.rt t) := q3
        exact q3 v σ4 G4 H4 (x13.trans x4) E4
  · refine .inl ⟨Y.stop i H1 (by rw [hlen]; omega) (x1.trans E1.sub), ?_⟩
    rw [List.drop_eq_nil_of_le (by omega)] at q2
    have q2 : flP X.K B G1 D F (.nx s) := q2
    refine q2 σ1 G1 H1 (Ex.refl _) ?_
    rw [hn]
    exact E1
/-! what is walked -/
theorem yld_tup {K : PySem.W.Frag} {G : Hp} {a : Addr} {xs : List V} {ds : List D} (h : SqT K G a xs) (hr : RpAll K G xs ds) : Yld K (Itt K a) G ds where
  go := fun i H hi e => ⟨xs, xs[i]'(by rw [hr.len]; exact hi), e.t h, List.getElem?_eq_getElem _⟩
  stop := fun i H hi e => ⟨xs, e.t h, by rw [hr.len]; exact hi⟩
  yld := fun B i G1 H1 σ ρ x H' e E hy d hd => by
    obtain ⟨rfl, f⟩ := hy
    have := f xs ((e.trans E.sub).t h)
    obtain ⟨v, h1, h2⟩ := hr.get hd
    rw [this] at h1
    cases h1
    exact ⟨G1, Ex.refl _, E, h2.ex e⟩
theorem ji_list {β : Type} {m : R β} {ds : β → List D} {ρ' : β → List Slot} (h : JE X B ρ it m (fun b => .val (.list (ds b))) ρ') : JI X B ρ tg it m ds ρ' :=
  PI_imp (pi_list h) fun σ H Q ⟨G, E, q⟩ => ⟨G, E, R.post_mono q fun b q1 v G' H' x E' => by
    obtain ⟨a, xs, rfl, hS, hr⟩ := E'.top.lst_inv
    have hS' : SqL X.K G' a xs := .inl hS
    refine ⟨a, rfl, ⟨xs, E'.sub.l hS'⟩, q1 _ G' H' x E'.pop ⟨fun i H hi e => ⟨xs, xs[i]'(by rw [hr.len]; exact hi), e.l hS', List.getElem?_eq_getElem _⟩, fun i H hi e => ⟨xs, e.l hS', by rw [hr.len]; exact hi⟩, fun B i G1 H1 σ ρ x H' e E hy d hd => ?_⟩⟩
    obtain ⟨rfl, f⟩ := hy
    have := f xs ((e.trans E.sub).l hS')
    obtain ⟨v, h1, h2⟩ := hr.get hd
    rw [this] at h1
    cases h1
    exact ⟨G1, Ex.refl _, E, h2.ex e⟩⟩
theorem ji_tup {β : Type} {m : R β} {ds : β → List D} {ρ' : β → List Slot} (h : JE X B ρ it m (fun b => .val (.tuple (ds b))) ρ') : JI X B ρ tg it m ds ρ' :=
  PI_imp (pi_tup h) fun σ H Q ⟨G, E, q⟩ => ⟨G, E, R.post_mono q fun b q1 v G' H' x E' => by
    obtain ⟨a, xs, rfl, hS, hr⟩ := E'.top.tup_inv
    exact ⟨a, rfl, ⟨xs, E'.sub.t hS⟩, q1 _ G' H' x E'.pop (yld_tup hS hr)⟩⟩
/-- the ints lo, lo + 1, .. -/
def rng (lo hi : Int) : List Int := (List.range (hi - lo).toNat).map fun (k : Nat) => lo + (k : Int)
theorem yld_rng {K : PySem.W.Frag} {G : Hp} {lo : Int} {n : Nat} : Yld K (Itr lo n) G (((List.range n).map fun (k : Nat) => lo + (k : Int)).map D.int) where
  go := fun i H hi e => by
    have : i < n := by simpa using hi
    exact this
  stop := fun i H hi e => by
    have : n ≤ i := by simpa using hi
    exact this
  yld := fun B i G1 H1 σ ρ x H' e E hy d hd => by
    obtain ⟨rfl, rfl⟩ := hy
    have hi : i < n := by
      have := (List.getElem?_eq_some_iff.mp hd).1
      simpa using this
    rw [List.map_map, List.getElem?_map, List.getElem?_range hi] at hd
    cases hd
    exact ⟨G1, Ex.refl _, E, .int _⟩
def rngOk (i : Int) : Prop := -(2 ^ 62) ≤ i ∧ i < 2 ^ 62
instance {i : Int} : Decidable (rngOk i) := by unfold rngOk; infer_instance
theorem ji_rng1 {p : Pos} {β : Type} {m : R β} {as : β → List Ar} (i : β → Int) {ρ' : β → List Slot} (hm : X.mg "range" = none) (h : JA X B ρ [a] m as ρ') (ha : ∀ b, as b = [.val (.int (i b))] := by intro _; rfl) (hg : Gl X "range" := by rfl) (hs : starEach [a] X.env = [(false, eval a X.env)] := by rfl) :
    JI X B ρ tg (.Call (.Name "range" p) [a] [] pos) (m.bind fun b => (R.guard (rngOk (i b))).bind fun _ => .ok b) (fun b => (rng 0 (i b)).map D.int) ρ' :=
  PI_imp (pi_range1 hg hm h hs) fun σ H Q ⟨G, E, q⟩ => ⟨G, E, R.post_mono (R.post_bind.mp q) fun b q1 vs G' H' x E' ok => by
    obtain ⟨hc, q2⟩ := R.post_guard (R.post_bind.mp q1)
    rw [ha b] at ok
    cases ok with
    | val r ok =>
      cases ok
      refine ⟨i b, by rw [r.int_inv], hc.1, hc.2, q2 _ G' H' x E' ?_⟩
      show Yld X.K _ G' ((rng 0 (i b)).map D.int)
      unfold rng
      rw [Int.sub_zero]
      exact yld_rng⟩
theorem ji_rng2 {p : Pos} {β : Type} {m : R β} {as : β → List Ar} (i j : β → Int) {ρ' : β → List Slot} (hm : X.mg "range" = none) (h : JA X B ρ [a, b] m as ρ') (ha : ∀ b, as b = [.val (.int (i b)), .val (.int (j b))] := by intro _; rfl) (hg : Gl X "range" := by rfl)
    (hs : starEach [a, b] X.env = [(false, eval a X.env), (false, eval b X.env)] := by rfl) (hs2 : starEach [b] X.env = [(false, eval b X.env)] := by rfl) :
    JI X B ρ tg (.Call (.Name "range" p) [a, b] [] pos) (m.bind fun b => (R.guard (rngOk (i b) ∧ rngOk (j b))).bind fun _ => .ok b) (fun b => (rng (i b) (j b)).map D.int) ρ' :=
  PI_imp (pi_range2 hg hm h hs hs2) fun σ H Q ⟨G, E, q⟩ => ⟨G, E, R.post_mono (R.post_bind.mp q) fun b q1 vs G' H' x E' ok => by
    obtain ⟨hc, q2⟩ := R.post_guard (R.post_bind.mp q1)
    rw [ha b] at ok
    cases ok with
    | val r ok =>
      cases ok with
      | val r2 ok =>
        cases ok
        exact ⟨i b, j b, by rw [r.int_inv, r2.int_inv], ⟨hc.1.1, hc.1.2, hc.2.1, hc.2.2⟩, q2 _ G' H' x E' yld_rng⟩⟩
/-! ### while -/
/-- so many turns -/
def whN {S L T : Type} (c : S → R Bool) (f : S → R (Fl S S T)) : Nat → S → R (Fl S L T)
  | 0, _ => .bad
  | n + 1, s => (c s).bind fun b => if b = true then (f s).bind fun
      | .nx s' => whN c f n s'
      | .ct s' => whN c f n s'
      | .bk s' => .ok (.nx s')
      | .rt t => .ok (.rt t)
    else .ok (.nx s)
open Classical in
/-- as many turns as it takes -/
noncomputable def whR {S L T : Type} (c : S → R Bool) (f : S → R (Fl S S T)) (s : S) : R (Fl S L T) :=
  if h : ∃ n, whN (L := L) c f n s ≠ .bad then whN c f h.choose s else .bad
theorem whN_mono {S L T : Type} {c : S → R Bool} {f : S → R (Fl S S T)} : ∀ {n : Nat} {s : S}, whN (L := L) c f n s ≠ .bad → ∀ m, n ≤ m → whN (L := L) c f m s = whN c f n s
  | 0, s, h, _, _ => absurd rfl h
  | n + 1, s, h, 0, hm => absurd hm (Nat.not_succ_le_zero _)
  | n + 1, s, h, m + 1, hm => by
    have hm' : n ≤ m := Nat.le_of_succ_le_succ hm
    rw [whN] at h ⊢
    rw [whN]
    cases hc : c s with
    | bad => rfl
    | err e => rfl
    | ok b =>
      rw [hc] at h
      cases b with
      | false => rfl
      | true =>
        simp only [R.bind, if_true] at h ⊢
        cases hf : f s with
        | bad => rfl
        | err e => rfl
        | ok fl =>
          rw [hf] at h
          cases fl with
          | nx s' => exact whN_mono h m hm'
          | ct s' => exact whN_mono h m hm'
          | bk s' => rfl
          | rt t => rfl
theorem whR_of {S L T : Type} {c : S → R Bool} {f : S → R (Fl S S T)} {n : Nat} {s : S} (h : whN (L := L) c f n s ≠ .bad) : whR (L := L) c f s = whN c f n s := by
  have hx : ∃ n, whN (L := L) c f n s ≠ .bad := ⟨n, h⟩
  unfold whR
  rw [dif_pos hx]
  rcases Nat.le_total n hx.choose with l | l
  · exact whN_mono h _ l
  · exact (whN_mono hx.choose_spec _ l).symm
theorem js_while {S L T : Type} (ρS : S → List Slot) {c : S → R Bool} {f : S → R (Fl S S T)} {F : Fin S L T} {body : List Stmt} (hp : PassesOwn (model X.prog X.w) X.A X.env X.xe) (s0 : S) (bs : List Bool) (hw : forgot ρ bs = ρS s0)
    (hc : ∀ s, JT X B (ρS s) e (c s) (fun b => b) (fun _ => ρS s)) (hb : ∀ s, JSs X B (ρS s) body (f s) ⟨ρS, ρS, ρS, F.s, F.t⟩) (hn : F.n = ρS := by rfl) : JS X B ρ (.While e body [] pos) (whR c f s0) F := by
  have hc' : PT X e (fun σ H Q => ∃ s, tJT X.K B (ρS s) (c s) (fun b => b) (fun _ => ρS s) σ H Q) := ⟨fun pins s σ H Q I ⟨x, q⟩ => (hc x).run pins s σ H Q I q⟩
  have hb' : PSs X body (fun D σ H => ∃ s, tJS X.K B (ρS s) (f s) ⟨ρS, ρS, ρS, F.s, F.t⟩ D σ H) := ⟨fun pins s σ H D I ⟨x, q⟩ => (hb x).run pins s σ H D I q⟩
  refine PS_imp (ps_while hp hc' hb') fun D σ H ⟨G, E, q⟩ => ?_
  have hne : ∃ n, (whN c f n s0 : R (Fl S L T)) ≠ .bad := by
    apply Classical.byContradiction
    intro z
    unfold whR at q
    rw [dif_neg z] at q
    exact q
  obtain ⟨n, hn0⟩ := hne
  rw [whR_of hn0] at q
  refine ⟨fun m σ' H' => ∃ G' s, Ex G G' ∧ En X.K B G' H' σ' (ρS s) [] ∧ (whN c f m s).post (flP X.K B G' D F) B.rs, ⟨n, G, s0, Ex.refl _, by rw [← hw]; exact E.forgot bs, q⟩, ?_⟩
  rintro m σ' H' ⟨G1, s, x1, E1, q1⟩
  cases m with
  | zero => exact q1.elim
  | succ m =>
    rw [whN] at q1
    refine ⟨s, G1, E1, R.post_mono (R.post_bind.mp q1) fun b q2 G2 H2 x2 E2 => ?_⟩
    cases b with
    | false =>
      have q2 : flP X.K B G1 D F (.nx s) := q2
      refine q2 σ' G2 H2 x2 ?_
      rw [hn]
      exact E2
    | true =>
      rw [if_pos rfl] at q2 ⊢
      refine ⟨fun σ3 H3 => ∃ G' s, Ex G G' ∧ En X.K B G' H3 σ3 (ρS s) [] ∧ (whN c f m s).post (flP X.K B G' D F) B.rs, fun σ3 H3 w => ⟨m, Nat.lt_succ_self m, w⟩, s, G2, E2, R.post_mono (R.post_bind.mp q2) fun fl q3 => ?_⟩
      have nxt : ∀ s', (whN c f m s').post (flP X.K B G1 D F) B.rs → ∀ σ' G3 H', Ex G2 G3 → En X.K B G3 H' σ' (ρS s') [] → ∃ G' s, Ex G G' ∧ En X.K B G' H' σ' (ρS s) [] ∧ (whN c f m s).post (flP X.K B G' D F) B.rs :=
        fun s' h σ' G3 H' z E3 => ⟨G3, s', x1.trans (x2.trans z), E3, R.post_mono h fun fl h => flP_ex h (x2.trans z)⟩
      cases fl with
      | nx s' => exact nxt s' q3
      | ct s' => exact nxt s' q3
      | bk s' =>
        intro σ4 G4 H4 x4 E4
        have q3 : flP X.K B G1 D F (.nx s') := q3
        refine q3 σ4 G4 H4 (x2.trans x4) ?_
        rw [hn]
        exact E4
      | rt t =>
        intro v σ4 G4 H4 x4 E4
        have q3 : flP X.K B G1 D F (.rt t) := q3
        exact q3 v σ4 G4 H4 (x2.trans x4) E4
end
end DL

/-! DL7: built-ins, subscripts, slices; a def -/
namespace DL
open PySem PySem.Spec L2

/-! ### built-ins by data -/
def CbD (K : PySem.W.Frag) (B : Base) (ρ : List Slot) (r : List V → Hp → VK → Prop) (as : List Ar) {γ : Type} (mr : R γ) (s : γ → Slot) : Prop :=
  ∀ G H σ vs Q, En K B G H σ ρ [] → ArOk K G σ vs as → mr.post (fun z => ∀ v G' H', Ex G G' → En K B G' H' σ ρ [(v, s z)] → Q v H') B.rs → r vs H Q
section
variable {X : Cx} {B : Base} {ρ : List Slot} {e a b : Expr} {es : List Expr} {pos : Pos}
theorem je_cb {E0 : Expr} {r : List V → Hp → VK → Prop} (hp : ∀ t, PA X es t → PE X E0 (tCB r t)) {as : List Ar} {γ : Type} {mr : R γ} {s : γ → Slot} (ha : JA X B ρ es (.ok ()) (fun _ => as) (fun _ => ρ)) (hr : CbD X.K B ρ r as mr s) : JE X B ρ E0 mr s (fun _ => ρ) :=
  PE_imp (hp _ ha) fun σ H Q ⟨G, E, q⟩ => ⟨G, E, fun vs G1 H1 x1 E1 ok => hr G1 H1 σ vs Q E1 ok (R.post_mono q fun z k v G2 H2 x2 E2 => k v G2 H2 (x1.trans x2) E2)⟩
theorem je_cb2 {E0 : Expr} {r : List V → Hp → VK → Prop} (hp : ∀ t, PA X es t → PE X E0 (tCB r t)) {β γ : Type} {ma : R β} {as : β → List Ar} {ρa : β → List Slot} {mr : β → R γ} {s : β → γ → Slot} (ha : JA X B ρ es ma as ρa) (hr : ∀ x, CbD X.K B (ρa x) r (as x) (mr x) (s x)) :
    JE X B ρ E0 (ma.bind fun x => (mr x).bind fun z => .ok (x, z)) (fun p => s p.1 p.2) (fun p => ρa p.1) :=
  PE_imp (hp _ ha) fun σ H Q ⟨G, E, q⟩ => ⟨G, E, R.post_mono (R.post_bind.mp q) fun x q1 vs G1 H1 x1 E1 ok => hr x G1 H1 σ vs Q E1 ok (R.post_mono (R.post_bind.mp q1) fun z k v G2 H2 x2 E2 => k v G2 H2 (x1.trans x2) E2)⟩
theorem cb_val {r : List V → Hp → VK → Prop} {K : PySem.W.Frag} {as : List Ar} {c : Prop} [Decidable c] {z : D} {w : V} (h : c → ∀ G H σ vs Q, Ex G H → ArOk K G σ vs as → Q w H → r vs H Q) (hw : ∀ G, Rp K G w z) : CbD K B ρ r as (R.guard c) (fun _ => .val z) :=
  fun G H σ vs Q E ok q => by
    obtain ⟨hc, q⟩ := R.post_guard q
    exact h hc G H σ vs Q E.sub ok (q w G H (Ex.refl G) (E.push (hw G)))
theorem cb_val0 {r : List V → Hp → VK → Prop} {K : PySem.W.Frag} {as : List Ar} {z : D} {w : V} (h : ∀ G H σ vs Q, Ex G H → ArOk K G σ vs as → Q w H → r vs H Q) (hw : ∀ G, Rp K G w z) : CbD K B ρ r as (.ok ()) (fun _ => .val z) :=
  fun G H σ vs Q E ok q => h G H σ vs Q E.sub ok (q w G H (Ex.refl G) (E.push (hw G)))
theorem ArOk.one {K : PySem.W.Frag} {G : Hp} {σ : L2.St} {vs : List V} {d : D} (h : ArOk K G σ vs [.val d]) : ∃ v, vs = [v] ∧ Rp K G v d := by
  cases h with
  | val r h =>
    cases h
    exact ⟨_, rfl, r⟩
theorem ArOk.two {K : PySem.W.Frag} {G : Hp} {σ : L2.St} {vs : List V} {d d' : D} (h : ArOk K G σ vs [.val d, .val d']) : ∃ v w, vs = [v, w] ∧ Rp K G v d ∧ Rp K G w d' := by
  cases h with
  | val r h =>
    obtain ⟨w, rfl, r'⟩ := h.one
    exact ⟨_, _, rfl, r, r'⟩
section
variable {K : PySem.W.Frag}
theorem cb_abs {i : Int} : CbD K B ρ (fun xs H Q => ∃ i, xs = [.int i] ∧ Q (.int (if i < 0 then -i else i)) H) [.val (.int i)] (.ok ()) (fun _ => .val (.int (if i < 0 then -i else i))) :=
  cb_val0 (fun G H σ vs Q _ ok q => by
    obtain ⟨v, rfl, r⟩ := ok.one
    exact ⟨i, by rw [r.int_inv], q⟩) fun _ => .int _
theorem cb_max {i j : Int} : CbD K B ρ (fun xs H Q => ∃ i j, xs = [.int i, .int j] ∧ Q (.int (if j > i then j else i)) H) [.val (.int i), .val (.int j)] (.ok ()) (fun _ => .val (.int (max i j))) :=
  cb_val0 (w := .int (max i j)) (fun G H σ vs Q _ ok q => by
    obtain ⟨v, w, rfl, r, r2⟩ := ok.two
    refine ⟨i, j, by rw [r.int_inv, r2.int_inv], ?_⟩
    rw [show (if j > i then j else i) = max i j by omega]
    exact q) fun _ => .int _
theorem cb_min {i j : Int} : CbD K B ρ (fun xs H Q => ∃ i j, xs = [.int i, .int j] ∧ Q (.int (if j < i then j else i)) H) [.val (.int i), .val (.int j)] (.ok ()) (fun _ => .val (.int (min i j))) :=
  cb_val0 (w := .int (min i j)) (fun G H σ vs Q _ ok q => by
    obtain ⟨v, w, rfl, r, r2⟩ := ok.two
    refine ⟨i, j, by rw [r.int_inv, r2.int_inv], ?_⟩
    rw [show (if j < i then j else i) = min i j by omega]
    exact q) fun _ => .int _
theorem cb_intB {k : Bool} : CbD K B ρ (fun xs H Q => (∃ i, xs = [.int i] ∧ Q (.int i) H) ∨ ∃ k, xs = [.bl k] ∧ Q (.int (if k then 1 else 0)) H) [.val (.bool k)] (.ok ()) (fun _ => .val (.int (if k = true then 1 else 0))) :=
  cb_val0 (fun G H σ vs Q _ ok q => by
    obtain ⟨v, rfl, r⟩ := ok.one
    exact .inr ⟨k, by rw [r.bl_inv], q⟩) fun _ => .int _
theorem cb_lenL {ds : List D} : CbD K B ρ (fun xs H Q => ∃ p ys, xs = [.ref p] ∧ (SqL K H p ys ∨ SqT K H p ys) ∧ Q (.int ys.length) H) [.val (.list ds)] (.ok ()) (fun _ => .val (.int ds.length)) :=
  cb_val0 (fun G H σ vs Q e ok q => by
    obtain ⟨v, rfl, r⟩ := ok.one
    obtain ⟨a, xs, rfl, hS, hr⟩ := r.lst_inv
    exact ⟨a, xs, rfl, .inl (.inl (e.rd hS)), by rw [hr.len]; exact q⟩) fun _ => .int _
theorem cb_lenT {ds : List D} : CbD K B ρ (fun xs H Q => ∃ p ys, xs = [.ref p] ∧ (SqL K H p ys ∨ SqT K H p ys) ∧ Q (.int ys.length) H) [.val (.tuple ds)] (.ok ()) (fun _ => .val (.int ds.length)) :=
  cb_val0 (fun G H σ vs Q e ok q => by
    obtain ⟨v, rfl, r⟩ := ok.one
    obtain ⟨a, xs, rfl, hS, hr⟩ := r.tup_inv
    exact ⟨a, xs, rfl, .inr (e.t hS), by rw [hr.len]; exact q⟩) fun _ => .int _
theorem Rp.scr_inv {K : PySem.W.Frag} {G : Hp} {v : V} {ns : List Int} (h : Rp K G v (.scr ns)) : ∃ a, v = .ref a ∧ SqL K G a (ns.map V.int) := by
  cases h with
  | scr h => exact ⟨_, rfl, h⟩
theorem cb_lenS {ns : List Int} : CbD K B ρ (fun xs H Q => ∃ p ys, xs = [.ref p] ∧ (SqL K H p ys ∨ SqT K H p ys) ∧ Q (.int ys.length) H) [.val (.scr ns)] (.ok ()) (fun _ => .val (.int ns.length)) :=
  cb_val0 (fun G H σ vs Q e ok q => by
    obtain ⟨v, rfl, r⟩ := ok.one
    obtain ⟨a, rfl, hS⟩ := r.scr_inv
    exact ⟨a, _, rfl, .inl (e.l hS), by rw [List.length_map]; exact q⟩) fun _ => .int _
instance {i j : Int} : Decidable (CDivP i j) := by unfold CDivP; infer_instance
theorem cb_divmod {i j : Int} : CbD K B ρ (fun xs H Q => ∃ i j, xs = [.int i, .int j] ∧ CDivP i j ∧ ∀ p, H p = none → Q (.ref p) (upd H p (.tup [.int (i / j), .int (i % j)]))) [.val (.int i), .val (.int j)] (R.guard (CDivP i j)) (fun _ => .val (.tuple [.int (i / j), .int (i % j)])) :=
  fun G H σ vs Q E ok q => by
    obtain ⟨hc, q⟩ := R.post_guard q
    obtain ⟨v, w, rfl, r, r2⟩ := ok.two
    refine ⟨i, j, by rw [r.int_inv, r2.int_inv], hc, fun p hp => q _ (upd G p _) _ (Ex.new (E.sub.back hp)) ((E.new hp _).push (.tup (.inl (.inl upd_same)) (.cons (.int _) (.cons (.int _) .nil))))⟩
end
/-! ### isinstance -/
def tyN : D → String
  | .none => "NoneType"
  | .bool _ => "bool"
  | .int _ => "int"
  | .str _ => "str"
  | .list _ => "list"
  | .tuple _ => "tuple"
  | .dict _ => "dict"
  | .scr _ => "list"
def isInt : D → Bool
  | .int _ => true
  | .bool _ => true
  | _ => false
def isBool : D → Bool
  | .bool _ => true
  | _ => false
def isTup : D → Bool
  | .tuple _ => true
  | _ => false
def isLst : D → Bool
  | .list _ => true
  | .scr _ => true
  | _ => false
def isStr : D → Bool
  | .str _ => true
  | _ => false
theorem isi_int (d : D) : kitB (tyN d) "int" = some (isInt d) := match d with
  | .none => (show kitB "NoneType" "int" = some false by decide +kernel)
  | .bool _ => (show kitB "bool" "int" = some true by decide +kernel)
  | .int _ => (show kitB "int" "int" = some true by decide +kernel)
  | .str _ => (show kitB "str" "int" = some false by decide +kernel)
  | .list _ => (show kitB "list" "int" = some false by decide +kernel)
  | .tuple _ => (show kitB "tuple" "int" = some false by decide +kernel)
  | .dict _ => (show kitB "dict" "int" = some false by decide +kernel)
  | .scr _ => (show kitB "list" "int" = some false by decide +kernel)
theorem isi_bool (d : D) : kitB (tyN d) "bool" = some (isBool d) := match d with
  | .none => (show kitB "NoneType" "bool" = some false by decide +kernel)
  | .bool _ => (show kitB "bool" "bool" = some true by decide +kernel)
  | .int _ => (show kitB "int" "bool" = some false by decide +kernel)
  | .str _ => (show kitB "str" "bool" = some false by decide +kernel)
  | .list _ => (show kitB "list" "bool" = some false by decide +kernel)
  | .tuple _ => (show kitB "tuple" "bool" = some false by decide +kernel)
  | .dict _ => (show kitB "dict" "bool" = some false by decide +kernel)
  | .scr _ => (show kitB "list" "bool" = some false by decide +kernel)
theorem isi_tuple (d : D) : kitB (tyN d) "tuple" = some (isTup d) := match d with
  | .none => (show kitB "NoneType" "tuple" = some false by decide +kernel)
  | .bool _ => (show kitB "bool" "tuple" = some false by decide +kernel)
  | .int _ => (show kitB "int" "tuple" = some false by decide +kernel)
  | .str _ => (show kitB "str" "tuple" = some false by decide +kernel)
  | .list _ => (show kitB "list" "tuple" = some false by decide +kernel)
  | .tuple _ => (show kitB "tuple" "tuple" = some true by decide +kernel)
  | .dict _ => (show kitB "dict" "tuple" = some false by decide +kernel)
  | .scr _ => (show kitB "list" "tuple" = some false by decide +kernel)
theorem isi_list (d : D) : kitB (tyN d) "list" = some (isLst d) := match d with
  | .none => (show kitB "NoneType" "list" = some false by decide +kernel)
  | .bool _ => (show kitB "bool" "list" = some false by decide +kernel)
  | .int _ => (show kitB "int" "list" = some false by decide +kernel)
  | .str _ => (show kitB "str" "list" = some false by decide +kernel)
  | .list _ => (show kitB "list" "list" = some true by decide +kernel)
  | .tuple _ => (show kitB "tuple" "list" = some false by decide +kernel)
  | .dict _ => (show kitB "dict" "list" = some false by decide +kernel)
  | .scr _ => (show kitB "list" "list" = some true by decide +kernel)
theorem isi_str (d : D) : kitB (tyN d) "str" = some (isStr d) := match d with
  | .none => (show kitB "NoneType" "str" = some false by decide +kernel)
  | .bool _ => (show kitB "bool" "str" = some false by decide +kernel)
  | .int _ => (show kitB "int" "str" = some false by decide +kernel)
  | .str _ => (show kitB "str" "str" = some true by decide +kernel)
  | .list _ => (show kitB "list" "str" = some false by decide +kernel)
  | .tuple _ => (show kitB "tuple" "str" = some false by decide +kernel)
  | .dict _ => (show kitB "dict" "str" = some false by decide +kernel)
  | .scr _ => (show kitB "list" "str" = some false by decide +kernel)
theorem Rp.ty {K : PySem.W.Frag} {G H : Hp} {v : V} {d : D} (h : Rp K G v d) (e : Ex G H) : TyX K H v (.type (tyN d)) := by
  cases h with
  | non => exact .base .non
  | bl b => exact .base (.bl b)
  | int b => exact .base (.int b)
  | str b => exact .base (.str b)
  | lst h r =>
    rcases e.rd h with h | ⟨o, h⟩
    · exact .base (.lst h)
    · exact .base (.frz h)
  | tup h r =>
    rcases e.t h with (h | ⟨o, h⟩) | ⟨o, its, n, h1, h2, _⟩
    · exact .base (.tup h)
    · exact .fTuple h
    · exact .kTuple h1 h2
  | scr h =>
    rcases h with h | ⟨o, its, n, h1, h2, _⟩
    · rcases e.rd h with h | ⟨o, h⟩
      · exact .base (.lst h)
      · exact .base (.frz h)
    · exact .kList h1 h2
  | dK h r => exact .base (.dK (e _ _ h))
  | dT h r => exact .base (.dT (e _ _ h))
theorem je_isi {T : String} {f : D → Bool} (hf : ∀ d, kitB (tyN d) T = some (f d)) {x : Str} {p p2 : Pos} {β : Type} {m : R β} {d : β → D} {ρ' : β → List Slot} (h : JE X B ρ a m (fun b => .val (d b)) ρ') (hmi : X.mg "isinstance" = none) (hm : X.mg x = none) (hv : bootBuiltins x = some (.type T))
    (hgi : Gl X "isinstance" := by rfl) (hg : Gl X x := by rfl) (hn : x ≠ "__name__" := by decide) (hd : (x == ("__debug__" : Str)) = false := by decide)
    (h1 : starEach [a, .Name x p2] X.env = (false, eval a X.env) :: starEach [.Name x p2] X.env := by rfl) (h2 : starEach [.Name x p2] X.env = (false, eval (.Name x p2) X.env) :: starEach [] X.env := by rfl) (h3 : (backTo pos (starEach [.Name x p2] X.env)).any (·.1) = false := by rfl) :
    JE X B ρ (.Call (.Name "isinstance" p) [a, .Name x p2] [] pos) m (fun b => .val (.bool (f (d b)))) ρ' :=
  PE_imp (pe_callB call_isi hgi hmi (by decide +kernel) (pa_cons h (pa_cons (pe_bltn hg hm hv (v := .ty T) rfl hn hd) pa_nil h2) h1) (by decide) (by decide) h1 h3) fun σ H Q ⟨G, E, q⟩ => ⟨G, E, R.post_mono q fun b k v G1 H1 x1 E1 =>
    ⟨v, .ty T, .type (tyN (d b)), .type T, f (d b), rfl, .ty T, E1.top.ty E1.sub, kit_ty (hf _), k _ G1 H1 x1 (E1.pop.push (.bl _))⟩⟩
/-! ### subscripts -/
section
variable {K : PySem.W.Frag}
theorem od_ixT {ds : List D} {i : Int} : OpD K B (rIxT K) (.tuple ds) (.int i) (R.some (atI ds i)) (fun d => .val d) := fun G H σ ρ vx vy Q E hx hy q => by
  obtain ⟨d, hd, q⟩ := R.post_some q
  obtain ⟨a, xs, rfl, hS, hr⟩ := hx.tup_inv
  obtain ⟨j, hj, hd⟩ := Option.bind_eq_some_iff.mp hd
  obtain ⟨v, hv, rv⟩ := hr.get hd
  refine ⟨a, xs, i, v, rfl, hy.int_inv, E.sub.t hS, ?_, q v G H (Ex.refl G) (E.push rv)⟩
  unfold atI
  rw [hr.len, hj]
  exact hv
theorem od_ixL {ds : List D} {i : Int} : OpD K B (rIxL K) (.list ds) (.int i) (R.some (atI ds i)) (fun d => .val d) := fun G H σ ρ vx vy Q E hx hy q => by
  obtain ⟨d, hd, q⟩ := R.post_some q
  obtain ⟨a, xs, rfl, hS, hr⟩ := hx.lst_inv
  obtain ⟨j, hj, hd⟩ := Option.bind_eq_some_iff.mp hd
  obtain ⟨v, hv, rv⟩ := hr.get hd
  refine ⟨a, xs, i, v, rfl, hy.int_inv, .inl (E.sub.rd hS), ?_, q v G H (Ex.refl G) (E.push rv)⟩
  unfold atI
  rw [hr.len, hj]
  exact hv
theorem atI_map {α β : Type} (f : α → β) (xs : List α) (i : Int) : atI (xs.map f) i = (atI xs i).map f := by
  unfold atI
  rw [List.length_map]
  cases ixN xs.length i with
  | none => rfl
  | some j => simp
theorem od_map {r : R2} {x y : D} {α : Type} {o : Option α} {f : α → D} (h : OpD K B r x y (R.some (o.map f)) (fun d => .val d)) : OpD K B r x y (R.some o) (fun a => .val (f a)) := fun G H σ ρ vx vy Q E hx hy q => by
  obtain ⟨d, hd, q⟩ := R.post_some q
  refine h G H σ ρ vx vy Q E hx hy ?_
  rw [hd]
  exact q
/-- one kind of items -/
theorem od_ixTm {α : Type} {f : α → D} {xs : List α} {i : Int} : OpD K B (rIxT K) (.tuple (xs.map f)) (.int i) (R.some (atI xs i)) (fun a => .val (f a)) := od_map (by rw [← atI_map]; exact od_ixT)
theorem od_ixLm {α : Type} {f : α → D} {xs : List α} {i : Int} : OpD K B (rIxL K) (.list (xs.map f)) (.int i) (R.some (atI xs i)) (fun a => .val (f a)) := od_map (by rw [← atI_map]; exact od_ixL)
/-- a place known -/
theorem od_ixTs {ds : List D} {i : Int} {d : D} (h : atI ds i = some d) : OpD K B (rIxT K) (.tuple ds) (.int i) (.ok ()) (fun _ => .val d) := fun G H σ ρ vx vy Q E hx hy q => od_ixT G H σ ρ vx vy Q E hx hy (by rw [h]; exact q)
theorem od_ixLs {ds : List D} {i : Int} {d : D} (h : atI ds i = some d) : OpD K B (rIxL K) (.list ds) (.int i) (.ok ()) (fun _ => .val d) := fun G H σ ρ vx vy Q E hx hy q => od_ixL G H σ ρ vx vy Q E hx hy (by rw [h]; exact q)
end
/-- o[k], o an owned list of data -/
theorem je_ixO (i : Nat) {x : Str} {px : Pos} {l : Nat} {α : Type} {en : α → D} {xs : List α} {k : Int} (h : ρ[i]? = some (.own l (.lst ((xs.map en).map OT.dat))) := by rfl) (hk : JP X B ρ b (.int k)) (hal : noAlis ρ = true := by rfl) (hN : X.N[i]? = some x := by rfl)
    (hv : Vis X.env.scope x := by first | exact Or.inl rfl | exact Or.inr (Or.inl rfl) | exact Or.inr (Or.inr rfl)) (hd : (x == ("__debug__" : Str)) = false := by decide) (hcd : (x == ("__classdict__" : Str)) = false := by decide) (hs : PlainIx b := by exact fun _ _ => rfl) :
    JE X B ρ (.Subscript (.Name x px) b pos) (R.some (atI xs k)) (fun y => .val (en y)) (fun _ => ρ) :=
  PE_imp (pe_ix ix_list (pv i hN hv hd hcd) hk hs) fun σ H Q ⟨G, E, q⟩ => by
    obtain ⟨p, vs, e1, e2, e3, e4⟩ := E.ownD h hal
    obtain ⟨y, hy, q⟩ := R.post_some q
    refine ⟨.ref p, e1, G, E, fun w G1 H1 x1 E1 => ?_⟩
    have hn := E1.top.int_inv
    obtain ⟨p', vs', g1, g2, g3, g4⟩ := E1.pop.ownD h hal
    have ep : p' = p := by
      have z := g1.symm.trans e1
      injection z with z
      injection z with z
      injection z
    subst ep
    have hy' : atI (xs.map en) k = some (en y) := by rw [atI_map, hy]; rfl
    obtain ⟨j, hj, hd⟩ := Option.bind_eq_some_iff.mp hy'
    obtain ⟨v, hv, rv⟩ := g3.get hd
    refine ⟨p', vs', k, v, rfl, hn, .inl (.inl g2), ?_, q v G1 H1 x1 (E1.pop.push rv)⟩
    unfold atI
    rw [g3.len, hj]
    exact hv
/-! ### slices -/
def tJO (K : PySem.W.Frag) (B : Base) (ρ : List Slot) (o : Option Int) : TO := fun σ H Q => ∃ G, En K B G H σ ρ [] ∧ ∀ G' H', Ex G G' → En K B G' H' σ ρ [] → Q o H'
def JO (X : Cx) (B : Base) (ρ : List Slot) (e : Option Expr) (o : Option Int) : Prop := PO X e (tJO X.K B ρ o)
theorem PO_imp {e : Option Expr} {t t' : TO} (h : PO X e t) (k : ∀ σ H Q, t' σ H Q → t σ H Q) : PO X e t' := ⟨fun pins s σ H Q I q => h.run pins s σ H Q I (k σ H Q q)⟩
theorem jo_none : JO X B ρ none none := PO_imp po_none fun σ H Q ⟨G, E, q⟩ => q G H (Ex.refl G) E
theorem jo_some {i : Int} (h : JP X B ρ e (.int i)) : JO X B ρ (some e) (some i) := PO_imp (po_some h) fun σ H Q ⟨G, E, q⟩ => ⟨G, E, fun v G1 H1 x1 E1 => ⟨i, E1.top.int_inv, q G1 H1 x1 E1.pop⟩⟩
/-- a slice of a list -/
def cut {α : Type} (xs : List α) (lo hi : Option Int) : List α := (xs.drop (HT.sIx xs.length 0 lo)).take (HT.sIx xs.length xs.length hi - HT.sIx xs.length 0 lo)
theorem cut_map {α β : Type} (f : α → β) (xs : List α) (lo hi : Option Int) : cut (xs.map f) lo hi = (cut xs lo hi).map f := by
  unfold cut
  rw [List.length_map, List.map_take, List.map_drop]
theorem cut_rp {K : PySem.W.Frag} {G : Hp} {xs : List V} {ds : List D} {lo hi : Option Int} (h : RpAll K G xs ds) : RpAll K G (cutV xs lo hi) (cut ds lo hi) := by
  unfold cutV cut
  rw [h.len]
  exact (h.drop _).take _
theorem je_slL {o1 o2 : Option Expr} {p2 : Pos} {lo hi : Option Int} {β : Type} {m : R β} {ds : β → List D} {ρ' : β → List Slot} (h : JE X B ρ a m (fun b => .val (.list (ds b))) ρ') (h1 : ∀ b, JO X B (ρ' b) o1 lo) (h2 : ∀ b, JO X B (ρ' b) o2 hi) :
    JE X B ρ (.Subscript a (.Slice o1 o2 none p2) pos) m (fun b => .own 0 (.lst ((cut (ds b) lo hi).map OT.dat))) ρ' := by
  have h1' : PO X o1 (fun σ H Q => ∃ b, tJO X.K B (ρ' b) lo σ H Q) := ⟨fun pins s σ H Q I ⟨b, q⟩ => (h1 b).run pins s σ H Q I q⟩
  have h2' : PO X o2 (fun σ H Q => ∃ b, tJO X.K B (ρ' b) hi σ H Q) := ⟨fun pins s σ H Q I ⟨b, q⟩ => (h2 b).run pins s σ H Q I q⟩
  refine PE_imp (pe_slice sl_list h h1' h2') fun σ H Q ⟨G, E, q⟩ => ⟨G, E, R.post_mono q fun b k v G1 H1 x1 E1 => ⟨b, G1, E1.pop, fun G2 H2 x2 E2 => ⟨b, G2, E2, fun G3 H3 x3 E3 => ?_⟩⟩⟩
  obtain ⟨p, xs, rfl, hS, hr⟩ := E1.top.lst_inv
  have x13 := x2.trans x3
  exact ⟨p, xs, rfl, .inl ((x13.trans E3.sub).rd hS), fun q' hq => k _ G3 _ (x1.trans x13) (E3.newL hq (cut_rp (RpAll.ex x13 hr)))⟩
theorem je_slS {o1 o2 : Option Expr} {p2 : Pos} {lo hi : Option Int} {β : Type} {m : R β} {ns : β → List Int} {ρ' : β → List Slot} (h : JE X B ρ a m (fun b => .val (.scr (ns b))) ρ') (h1 : ∀ b, JO X B (ρ' b) o1 lo) (h2 : ∀ b, JO X B (ρ' b) o2 hi) :
    JE X B ρ (.Subscript a (.Slice o1 o2 none p2) pos) m (fun b => .own 0 (.lst (((cut (ns b) lo hi).map D.int).map OT.dat))) ρ' := by
  have h1' : PO X o1 (fun σ H Q => ∃ b, tJO X.K B (ρ' b) lo σ H Q) := ⟨fun pins s σ H Q I ⟨b, q⟩ => (h1 b).run pins s σ H Q I q⟩
  have h2' : PO X o2 (fun σ H Q => ∃ b, tJO X.K B (ρ' b) hi σ H Q) := ⟨fun pins s σ H Q I ⟨b, q⟩ => (h2 b).run pins s σ H Q I q⟩
  refine PE_imp (pe_slice sl_list h h1' h2') fun σ H Q ⟨G, E, q⟩ => ⟨G, E, R.post_mono q fun b k v G1 H1 x1 E1 => ⟨b, G1, E1.pop, fun G2 H2 x2 E2 => ⟨b, G2, E2, fun G3 H3 x3 E3 => ?_⟩⟩⟩
  obtain ⟨p, rfl, hS⟩ := E1.top.scr_inv
  have x13 := x2.trans x3
  refine ⟨p, _, rfl, (x13.trans E3.sub).l hS, fun q' hq => k _ G3 _ (x1.trans x13) (E3.newL hq ?_)⟩
  rw [← cut_map]
  exact cut_rp (RpAll.of_ints (ns b))
/-! ### lists joined -/
def rCatR : R2 := fun x y H Q => ∃ l b xs zs, x = .ref l ∧ y = .ref b ∧ Rd H l (.lst xs) ∧ Rd H b (.lst zs) ∧ xs.length + zs.length ≤ sizeLine ∧ ∀ p, H p = none → Q (.ref p) (upd H p (.lst (xs ++ zs)))
theorem op_catR : OpR X (binaryOp .Add) rCatR := by
  intro pins s σ H x y v u Q I rx ry h
  obtain ⟨l, b, xs, zs, rfl, rfl, hH, hB, hz, q⟩ := h
  cases rx
  cases ry
  obtain ⟨z1, i1, n1, r1, g1⟩ := hH.ok I.hok
  obtain ⟨z2, i2, n2, r2, g2⟩ := hB.ok I.hok
  have l1 := r1.length
  have l2 := r2.length
  refine PySem.P.add_list g1 g2 ?_ (by simp only [List.size_toArray]; omega)
  rw [List.append_toArray]
  exact ⟨.ref _, _, I.lnew (t' := s.toks) (r1.append r2) (by simp only [List.length_append]; omega), rfl, q _ I.fresh⟩
theorem od_cat {K : PySem.W.Frag} {ds es : List D} : OpD K B rCatR (.list ds) (.list es) (R.guard (ds.length + es.length ≤ sizeLine)) (fun _ => .own 0 (.lst ((ds ++ es).map OT.dat))) := fun G H σ ρ vx vy Q E hx hy q => by
  obtain ⟨hc, q⟩ := R.post_guard q
  obtain ⟨a, xs, rfl, hS, hr⟩ := hx.lst_inv
  obtain ⟨b, ys, rfl, hS2, hr2⟩ := hy.lst_inv
  exact ⟨a, b, xs, ys, rfl, rfl, E.sub.rd hS, E.sub.rd hS2, by rw [hr.len, hr2.len]; exact hc, fun p hp => q _ G _ (Ex.refl G) (E.newL hp (hr.append hr2))⟩
end
end DL

/-! DL8: a def keeps its mirror's promise -/
namespace DL
open PySem PySem.Spec L2

/-- a def as the head tells it -/
abbrev FnP (K : PySem.W.Frag) (x : Str) (st : Stmt) (f : Addr) (fd : FuncData) : Prop := FunD K x x (defArgs st) (defBody st) (defScope st) [] [] f fd
/-- a def behind the top: where it stands, its name, how arguments come -/
structure DT (K : PySem.W.Frag) (mg : Str → Option Value) (x : Str) (st : Stmt) (ps : List Str) where
  a : Addr
  d : FuncData
  f : FnP K x st a d
  g : mg x = some (.ref a)
  b : Binds K d ps []
/-- it always returns -/
def fin0 {N L T : Type} (m : R (Fl N L T)) : R T := m.bind fun
  | .rt t => .ok t
  | _ => .bad
/-- it never returns a value -/
def finN {N L T : Type} (m : R (Fl N L T)) : R N := m.bind fun
  | .nx n => .ok n
  | _ => .bad
section
variable {P : Program} {w : World} {K : PySem.W.Frag} {mg : Str → Option Value} {base : Heap} {x : Str} {st : Stmt} {f : Addr} {fd : FuncData} {N ps : List Str} {k : Nat}
theorem start_en {B : Base} {G H : Hp} {vs : List V} {ρ : List Slot} {d : Nat} (E : En K B G H (vs.map some) ρ []) (hN : N.length = vs.length + d) : En K B G H (L2.start N vs) (ρ ++ List.replicate d .non) [] := by
  unfold L2.start
  rw [show N.length - vs.length = d by omega]
  obtain ⟨A, c, n, g⟩ := E.own
  have ap : ∀ {σ : L2.St} {ρ : List Slot} {A : List Addr}, Cells K B G H σ ρ A → Cells K B G H (σ ++ List.replicate d none) (ρ ++ List.replicate d .non) A := by
    intro σ ρ A h
    induction h with
    | nil =>
      have nn : ∀ m : Nat, Cells K B G H (List.replicate m none) (List.replicate m .non) [] := by
        intro m
        induction m with
        | zero => exact .nil
        | succ m ih => exact .cons (A := []) .non ih
      exact nn d
    | cons c r ih => exact .cons c ih
  refine ⟨E.anc, ⟨A, ap (show Cells K B G H (vs.map some) ρ A from c), n, g⟩, by simp [← E.len], fun i j p e => ?_⟩
  by_cases hi : i < ρ.length
  · rw [List.getElem?_append_left hi] at e
    obtain ⟨v, w, h1, h2, h3⟩ := E.ali i j p e
    have l1 : i < (vs.map some).length := by rw [E.len]; exact hi
    have l2 : j < (vs.map some).length := (List.getElem?_eq_some_iff.mp h2).1
    exact ⟨v, w, by rw [List.getElem?_append_left l1]; exact h1, by rw [List.getElem?_append_left l2]; exact h2, h3⟩
  · rw [List.getElem?_append_right (by omega)] at e
    have := (List.mem_replicate.mp (List.mem_of_getElem? e)).2
    cases this
def okOuts : Nat → List Slot → Bool
  | _, [] => true
  | n, .non :: r => okOuts (n + 1) r
  | n, .own l _ :: r => l == n + 1 && okOuts (n + 1) r
  | _, _ :: _ => false
theorem okOuts_ali : ∀ {ρ : List Slot} {n : Nat}, okOuts n ρ = true → ∀ {i j : Nat} {p : List Nat}, ρ[i]? ≠ some (.ali j p)
  | [], _, _, _, _, _ => fun e => nomatch e
  | s :: ρ, n, h, i, j, p => fun e => by
    have h' : okOuts (n + 1) ρ = true ∧ s ≠ .ali j p := by
      cases s <;> simp [okOuts] at h
      · exact ⟨h, fun z => nomatch z⟩
      · exact ⟨h.2, fun z => nomatch z⟩
    cases i with
    | zero =>
      simp at e
      exact h'.2 e
    | succ i => exact okOuts_ali h'.1 (i := i) (by simpa using e)
theorem stop_en {B : Base} {G H : Hp} {vs : List V} {σ : L2.St} {ρ : List Slot} {d : Nat} {v : V} {s : Slot} (E : En K B G H σ (ρ ++ List.replicate d .non) [(v, s)]) (hv : ∀ k, B.pv (k + 1) = vs[k]?) (ho : okOuts 0 ρ = true) (hl : vs.length = ρ.length) : En K B G H (vs.map some) ρ [(v, s)] := by
  obtain ⟨A, c, n, g⟩ := E.own
  cases c with
  | @cons _ _ A1 _ _ A2 c1 cr =>
    have cut : ∀ {ρ : List Slot} {σ : L2.St} {A : List Addr} {ws : List V} (n : Nat), Cells K B G H σ (ρ ++ List.replicate d .non) A → (∀ k, B.pv (n + k + 1) = ws[k]?) → okOuts n ρ = true → ws.length = ρ.length → Cells K B G H (ws.map some) ρ A := by
      intro ρ
      induction ρ with
      | nil =>
        intro σ A ws n h _ _ hl
        have nn : ∀ (m : Nat) {σ : L2.St} {A : List Addr}, Cells K B G H σ (List.replicate m .non) A → A = [] := by
          intro m
          induction m with
          | zero =>
            intro σ A h
            cases h
            rfl
          | succ m ih =>
            intro σ A h
            cases h with
            | cons c r =>
              cases c
              rw [ih r]
              rfl
        have e := nn d h
        subst e
        cases ws with
        | nil => exact .nil
        | cons a b => cases hl
      | cons s ρ ih =>
        intro σ A ws n h hv ho hl
        cases h with
        | @cons x0 _ B1 σ0 _ B2 c r =>
          cases ws with
          | nil => cases hl
          | cons y ws =>
            have tl : okOuts (n + 1) ρ = true → Cells K B G H (ws.map some) ρ B2 := fun ho => ih (n + 1) r (fun k => by
              have := hv (k + 1)
              rw [show n + (k + 1) + 1 = n + 1 + k + 1 by omega] at this
              simpa using this) ho (by simpa using hl)
            cases c with
            | non => exact .cons .non (tl (by simpa [okOuts] using ho))
            | val h => simp [okOuts] at ho
            | ali => simp [okOuts] at ho
            | @own u l o _ hO hr hp =>
              have ho' : l = n + 1 ∧ okOuts (n + 1) ρ = true := by simpa [okOuts] using ho
              obtain ⟨rfl, ho2⟩ := ho'
              have e1 := hp.resolve_left (Nat.succ_ne_zero n)
              have e2 := hv 0
              rw [show n + 0 + 1 = n + 1 by omega, e1] at e2
              have e3 : u = y := by simpa using e2
              subst e3
              exact .cons (.own hO hr hp) (tl ho2)
    exact ⟨E.anc, ⟨_, .cons c1 (cut 0 (show Cells K B G H σ (ρ ++ List.replicate d .non) A2 from cr) (fun k => by rw [Nat.zero_add]; exact hv k) ho hl), n, g⟩, by rw [List.length_map]; exact hl, fun i j p e => absurd e (okOuts_ali ho)⟩
/-- THE RULE: the body's mirror is the def's -/
theorem fn_ok {α β N1 L1 : Type} {ins : α → List Slot} {sl : β → Slot} {outs : β → List Slot} {n1 : N1 → List Slot} {c1 k1 : L1 → List Slot} (mb : α → R (Fl N1 L1 β)) (d : Nat) (F : FnP K x st f fd) (S : FnScope N ps (defScope st)) (hN : N.length = ps.length + d)
    (hi : ∀ a, (ins a).length = ps.length) (ho : ∀ b, okOuts 0 (outs b) = true) (ho2 : ∀ b, (outs b).length = ps.length)
    (hbody : ∀ (cdv : Value) (A : Around) (outer : List PySem.Env) (s : Shared) (H : Hp) (E : XK), Room k (A.deeper (PyProof.Rows.envOfC x (defScope st) s.heap.objs.size f cdv)) → ∀ (B : Base), (∀ e, ¬ B.rs e) → ∀ a,
      JSs (cxOf CX0 P w K mg base N x (defScope st) f cdv A outer s H E).nox B (ins a ++ List.replicate d .non) (defBody st) (mb a) ⟨n1, c1, k1, sl, fun b => outs b ++ List.replicate d .non⟩) :
    FnOk P w K mg base CX0 (k + 1) f fd ps (spM K ins (fun a => fin0 (mb a)) sl outs) := by
  refine F.ok S (fun vs H Q E h => ?_) fun cdv A outer s H vs Q E hr h => ?_
  · obtain ⟨a, G, As, E0, _⟩ := h
    have := E0.len
    rw [List.length_map] at this
    rw [this, hi a]
  · obtain ⟨a, G, As, E0, q⟩ := h
    have hl : vs.length = ps.length := by
      have := E0.len
      rw [List.length_map] at this
      rw [this, hi a]
    refine ⟨_, (hbody cdv A outer s H E hr (baseOf H G As vs fun _ => False) (fun e z => z) a).nox, G, start_en E0 (by rw [hN, hl]), ?_⟩
    have q' := R.post_bind.mp q
    refine R.post_mono q' fun fl q1 => ?_
    cases fl with
    | nx n => exact q1.elim
    | ct n => exact q1.elim
    | bk n => exact q1.elim
    | rt b => exact fun v σ' G' H' x1 E1 => q1 v G' H' (stop_en E1 (fun k => rfl) (ho b) (by rw [hl, ho2 b]))
/-- .. of a def that hands back nothing -/
theorem fn_okN {α β T1 L1 : Type} {ins : α → List Slot} {outs : β → List Slot} {s1 : T1 → Slot} {t1 : T1 → List Slot} {c1 k1 : L1 → List Slot} (mb : α → R (Fl β L1 T1)) (d : Nat) (F : FnP K x st f fd) (S : FnScope N ps (defScope st)) (hN : N.length = ps.length + d)
    (hi : ∀ a, (ins a).length = ps.length) (ho : ∀ b, okOuts 0 (outs b) = true) (ho2 : ∀ b, (outs b).length = ps.length)
    (hbody : ∀ (cdv : Value) (A : Around) (outer : List PySem.Env) (s : Shared) (H : Hp) (E : XK), Room k (A.deeper (PyProof.Rows.envOfC x (defScope st) s.heap.objs.size f cdv)) → ∀ (B : Base), (∀ e, ¬ B.rs e) → ∀ a,
      JSs (cxOf CX0 P w K mg base N x (defScope st) f cdv A outer s H E).nox B (ins a ++ List.replicate d .non) (defBody st) (mb a) ⟨fun b => outs b ++ List.replicate d .non, c1, k1, s1, t1⟩) :
    FnOk P w K mg base CX0 (k + 1) f fd ps (spM K ins (fun a => finN (mb a)) (fun _ => .val .none) outs) := by
  refine F.ok S (fun vs H Q E h => ?_) fun cdv A outer s H vs Q E hr h => ?_
  · obtain ⟨a, G, As, E0, _⟩ := h
    have := E0.len
    rw [List.length_map] at this
    rw [this, hi a]
  · obtain ⟨a, G, As, E0, q⟩ := h
    have hl : vs.length = ps.length := by
      have := E0.len
      rw [List.length_map] at this
      rw [this, hi a]
    refine ⟨_, (hbody cdv A outer s H E hr (baseOf H G As vs fun _ => False) (fun e z => z) a).nox, G, start_en E0 (by rw [hN, hl]), ?_⟩
    have q' := R.post_bind.mp q
    refine R.post_mono q' fun fl q1 => ?_
    cases fl with
    | rt n => exact q1.elim
    | ct n => exact q1.elim
    | bk n => exact q1.elim
    | nx b => exact fun σ' G' H' x1 E1 => q1 .non G' H' (stop_en (E1.push .non) (fun k => rfl) (ho b) (by rw [hl, ho2 b]))
end
end DL

/-! DL9: forms for the printed walks -/
namespace DL
open PySem PySem.Spec L2

/-- a value named -/
def lt {α β : Type} (v : α) (k : α → β) : β := k v
@[reducible] def eT {α : Type} (f : α → D) (l : List α) : D := .tuple (l.map f)
@[reducible] def eL {α : Type} (f : α → D) (l : List α) : D := .list (l.map f)
@[reducible] def eD (d : D) : D := d
@[reducible] def eU (_ : Unit) : D := .none
@[reducible] def eP2 {α β : Type} (f : α → D) (g : β → D) (p : α × β) : D := .tuple [f p.1, g p.2]
@[reducible] def eP3 {α β γ : Type} (f : α → D) (g : β → D) (h : γ → D) (p : α × β × γ) : D := .tuple [f p.1, g p.2.1, h p.2.2]
@[reducible] def eP4 {α β γ δ : Type} (f : α → D) (g : β → D) (h : γ → D) (i : δ → D) (p : α × β × γ × δ) : D := .tuple [f p.1, g p.2.1, h p.2.2.1, i p.2.2.2]
@[reducible] def oL {α : Type} (f : α → D) (l : List α) : OT := .lst ((l.map f).map OT.dat)
theorem toDs_dat : ∀ ds : List D, OT.toDs (ds.map OT.dat) = ds
  | [] => by rw [List.map_nil, OT.toDs]
  | d :: ds => by rw [List.map_cons, OT.toDs, OT.toD, toDs_dat ds]
theorem oL_toD {α : Type} (f : α → D) (l : List α) : (oL f l).toD = eL f l := by
  show OT.toD (.lst _) = _
  rw [OT.toD, toDs_dat]
section
variable {X : Cx} {B : Base} {ρ : List Slot} {e a b : Expr} {es : List Expr} {rest : List Stmt} {pos : Pos} {N L T β α : Type} {F : Fin N L T}
theorem je_frzL {m : R β} {f : α → D} {v : β → List α} {ρ' : β → List Slot} (h : JE X B ρ e m (fun b => .own 0 (oL f (v b))) ρ') : JE X B ρ e m (fun b => .val (eL f (v b))) ρ' := by
  have := je_frz h
  simp only [oL_toD] at this
  exact this
/-- an owned slot, read as data for good -/
theorem js_setP (i : Nat) {x : Str} {pos' : Pos} (en : α → D) (v : α) {k : α → R (Fl N L T)} (hN : X.N.Nodup) (h : JP X B ρ e (en v)) (r : ∀ x, JSs X B (ρ.set i (.val (en x))) rest (k x) F) (hi : X.N[i]? = some x := by rfl) (hx : Loc X.env.scope x := by first | exact Or.inl rfl | exact Or.inr rfl)
    (hlt : i < ρ.length := by exact of_decide_eq_true rfl) (hal : noAli i ρ = true := by rfl) (hs : swapsWith e (some (.Name x pos')) pos.line X.env = pure false := by rfl) (hf : X.fn x = true ∨ X.env.scope.names.lookup x = some .local := by first | exact .inl rfl | exact .inr rfl) :
    JSs X B ρ (.Assign [.Name x pos'] e pos :: rest) (lt v k) F :=
  js_cons1 (k := fun _ => k v) (j1_set i hN h hi hx (fun _ => hlt) (fun _ => hal) (fun _ => rfl) hs hf) fun _ => r v
theorem js_setE (i : Nat) {x : Str} {pos' : Pos} (en : α → D) {m : R β} (v : β → α) {ρ' : β → List Slot} {k : β → α → R (Fl N L T)} (hN : X.N.Nodup) (h : JE X B ρ e m (fun b => .val (en (v b))) ρ') (r : ∀ b x, JSs X B ((ρ' b).set i (.val (en x))) rest (k b x) F) (hi : X.N[i]? = some x := by rfl) (hx : Loc X.env.scope x := by first | exact Or.inl rfl | exact Or.inr rfl)
    (hlt : ∀ b, i < (ρ' b).length := by intro _; exact of_decide_eq_true rfl) (hal : ∀ b, noAli i (ρ' b) = true := by intro _; rfl) (hs : swapsWith e (some (.Name x pos')) pos.line X.env = pure false := by rfl) (hf : X.fn x = true ∨ X.env.scope.names.lookup x = some .local := by first | exact .inl rfl | exact .inr rfl) :
    JSs X B ρ (.Assign [.Name x pos'] e pos :: rest) (m.bind fun b => lt (v b) (k b)) F :=
  js_cons1 (j1_set i hN h hi hx hlt hal (fun _ => rfl) hs hf) fun b => r b (v b)
theorem js_setO (i : Nat) {x : Str} {pos' : Pos} (on : α → OT) {m : R β} (v : β → α) {ρ' : β → List Slot} {k : β → α → R (Fl N L T)} (hN : X.N.Nodup) (h : JE X B ρ e m (fun b => .own 0 (on (v b))) ρ') (r : ∀ b x, JSs X B ((ρ' b).set i (.own 0 (on x))) rest (k b x) F) (hi : X.N[i]? = some x := by rfl) (hx : Loc X.env.scope x := by first | exact Or.inl rfl | exact Or.inr rfl)
    (hlt : ∀ b, i < (ρ' b).length := by intro _; exact of_decide_eq_true rfl) (hal : ∀ b, noAli i (ρ' b) = true := by intro _; rfl) (hs : swapsWith e (some (.Name x pos')) pos.line X.env = pure false := by rfl) (hf : X.fn x = true ∨ X.env.scope.names.lookup x = some .local := by first | exact .inl rfl | exact .inr rfl) :
    JSs X B ρ (.Assign [.Name x pos'] e pos :: rest) (m.bind fun b => lt (v b) (k b)) F :=
  js_cons1 (j1_set i hN h hi hx hlt hal (fun _ => rfl) hs hf) fun b => r b (v b)
/-- a statement that just goes on, its mirror pure -/
theorem js_consP {st : Stmt} {ρ' : List Slot} {k : R (Fl N L T)} (h : J1 X B ρ st (.ok ()) (fun _ => ρ')) (r : JSs X B ρ' rest k F) : JSs X B ρ (st :: rest) k F := js_cons1 (k := fun _ => k) h fun _ => r
theorem js_retP (t : T) (bs : List Bool) {s : Slot} (h : JE X B ρ e (.ok ()) (fun _ => s) (fun _ => ρ)) (hs : F.s t = s := by rfl) (ht : forgot ρ bs = F.t t := by rfl) : JS X B ρ (.Return (some e) pos) (.ok (.rt t)) F :=
  js_ret (fun _ => t) bs h (fun _ => hs) fun _ => ht
/-- comparisons as tests -/
theorem jt_op2 {r : R2} (ht : ∀ ta tb, PE X a ta → PE X b tb → PT X e (tTest (tOp r ta tb))) {α β γ : Type} {ma : R α} {mb : α → R β} {xa : α → D} {xb : α → β → D} {ρa : α → List Slot} {ρb : α → β → List Slot} {mr : α → β → R γ} {bn : α → β → γ → Bool}
    (ha : JE X B ρ a ma (fun x => .val (xa x)) ρa) (hb : ∀ x, JE X B (ρa x) b (mb x) (fun y => .val (xb x y)) (ρb x)) (hr : ∀ x y, OpD X.K B r (xa x) (xb x y) (mr x y) (fun z => .val (.bool (bn x y z)))) :
    JT X B ρ e (op2 ma mb mr) (fun p => bn p.1 p.2.1 p.2.2) (fun p => ρb p.1 p.2.1) := by
  have hb' : PE X b (fun σ H Q => ∃ x, tJ X.K B (ρa x) (mb x) (fun y => .val (xb x y)) (ρb x) σ H Q) := ⟨fun pins s σ H Q I ⟨x, q⟩ => (hb x).run pins s σ H Q I q⟩
  refine PT_imp (ht _ _ ha hb') fun σ H Q ⟨G, E, q⟩ => ?_
  refine ⟨G, E, R.post_mono (R.post_bind.mp q) fun x q1 vx G1 H1 x1 E1 => ?_⟩
  refine ⟨x, G1, E1.pop, R.post_mono (R.post_bind.mp q1) fun y q2 vy G2 H2 x2 E2 => ?_⟩
  exact hr x y G2 H2 σ (ρb x y) vx vy _ E2.pop (E1.top.ex x2) E2.top (R.post_mono (R.post_bind.mp q2) fun z q3 v G3 H3 x3 E3 => ⟨_, E3.top.bl_inv, q3 G3 H3 (x1.trans (x2.trans x3)) E3.pop⟩)
theorem jt_op {r : R2} (ht : ∀ ta tb, PE X a ta → PE X b tb → PT X e (tTest (tOp r ta tb))) {x y : D} {γ : Type} {mr : R γ} {bn : γ → Bool} (ha : JP X B ρ a x) (hb : JP X B ρ b y) (hr : OpD X.K B r x y mr (fun z => .val (.bool (bn z)))) : JT X B ρ e mr bn (fun _ => ρ) := by
  refine PT_imp (ht _ _ ha hb) fun σ H Q ⟨G, E, q⟩ => ?_
  refine ⟨G, E, fun vx G1 H1 x1 E1 => ?_⟩
  refine ⟨G1, E1.pop, fun vy G2 H2 x2 E2 => ?_⟩
  exact hr G2 H2 σ ρ vx vy _ E2.pop (E1.top.ex x2) E2.top (R.post_mono q fun z q v G3 H3 x3 E3 => ⟨_, E3.top.bl_inv, q G3 H3 (x1.trans (x2.trans x3)) E3.pop⟩)
/-- lists of one kind -/
theorem je_lstT {β : Type} {m : R β} {as : β → List Ar} {ρ' : β → List Slot} (f : α → D) (xs : β → List α) (h : JA X B ρ es m as ρ') (hd : ∀ b, arDs (as b) = (xs b).map f := by intro _; rfl) (hs : ∀ b, noSlots (as b) = true := by intro _; rfl) (hl : ∀ b, (arDs (as b)).length ≤ 1000 := by intro _; exact of_decide_eq_true rfl) : JE X B ρ (.List es pos) m (fun b => .own 0 (oL f (xs b))) ρ' := by
  have := je_lst (pos := pos) h hs hl
  simp only [hd] at this
  exact this
theorem je_slLm {o1 o2 : Option Expr} {p2 : Pos} {lo hi : Option Int} {m : R β} {f : α → D} {xs : β → List α} {ρ' : β → List Slot} (h : JE X B ρ a m (fun b => .val (eL f (xs b))) ρ') (h1 : ∀ b, JO X B (ρ' b) o1 lo) (h2 : ∀ b, JO X B (ρ' b) o2 hi) :
    JE X B ρ (.Subscript a (.Slice o1 o2 none p2) pos) m (fun b => .own 0 (oL f (cut (xs b) lo hi))) ρ' := by
  have := je_slL (pos := pos) (p2 := p2) h h1 h2
  simp only [cut_map] at this
  exact this
theorem od_catm {K : PySem.W.Frag} {f : α → D} {xs ys : List α} : OpD K B rCatR (eL f xs) (eL f ys) (R.guard (xs.length + ys.length ≤ sizeLine)) (fun _ => .own 0 (oL f (xs ++ ys))) := by
  have := od_cat (K := K) (B := B) (ds := xs.map f) (es := ys.map f)
  simp only [List.length_map] at this
  rw [← List.map_append] at this
  exact this
/-- loops over what is pure -/
theorem ji_rng1P {tg : Expr} {p : Pos} {i : Int} (hm : X.mg "range" = none) (h : JA X B ρ [a] (.ok ()) (fun _ => [.val (.int i)]) (fun _ => ρ)) (hg : Gl X "range" := by rfl) (hs : starEach [a] X.env = [(false, eval a X.env)] := by rfl) :
    JI X B ρ tg (.Call (.Name "range" p) [a] [] pos) (R.guard (rngOk i)) (fun _ => (rng 0 i).map D.int) (fun _ => ρ) :=
  PI_imp (ji_rng1 (fun _ => i) hm h (fun _ => rfl) hg hs) fun σ H Q ⟨G, E, q⟩ => ⟨G, E, by
    obtain ⟨hc, q⟩ := R.post_guard q
    show ((R.guard (rngOk i)).bind fun _ => R.ok ()).post _ _
    unfold R.guard
    rw [if_pos hc]
    exact q⟩
theorem js_forP {α S L T : Type} {xs : List α} {en : α → D} {s0 : S} {tg it : Expr} (ρS : S → List Slot) (ρB : α → S → List Slot) {f : α → S → R (Fl S S T)} {F : Fin S L T} {body : List Stmt} (hp : PassesOwn (model X.prog X.w) X.A X.env X.xe) (hc : X.calm = true)
    (hi : JI X B ρ tg it (.ok ()) (fun _ => xs.map en) (fun _ => ρ)) (bs : List Bool) (hw : forgot ρ bs = ρS s0) (hg : ∀ x s, JG X B (ρS s) tg (en x) (.ok ()) (fun _ => ρB x s))
    (hb : ∀ x s, JSs X B (ρB x s) body (f x s) ⟨ρS, ρS, ρS, F.s, F.t⟩) (hn : F.n = ρS := by rfl) (hs : ∀ v, foldedSetIterable it X.env v = pure v := by intro _; rfl) : JS X B ρ (.For tg it body [] pos) (forR f xs s0) F :=
  js_for (m := .ok ()) (xs := fun _ => xs) (s0 := fun _ => s0) (ρ' := fun _ => ρ) ρS ρB hp hc hi bs (fun _ => hw) hg hb hn hs
theorem jt_pb {t : Bool} (h : TP0 X B ρ e t) : JT X B ρ e (.ok t) (fun b => b) (fun _ => ρ) := h
theorem cb_lenLm {K : PySem.W.Frag} {f : α → D} {xs : List α} : CbD K B ρ (fun xs H Q => ∃ p ys, xs = [.ref p] ∧ (SqL K H p ys ∨ SqT K H p ys) ∧ Q (.int ys.length) H) [.val (eL f xs)] (.ok ()) (fun _ => .val (.int ((xs.length : Nat) : Int))) := by
  have := cb_lenL (K := K) (B := B) (ρ := ρ) (ds := xs.map f)
  rw [List.length_map] at this
  exact this
theorem cb_lenTm {K : PySem.W.Frag} {f : α → D} {xs : List α} : CbD K B ρ (fun xs H Q => ∃ p ys, xs = [.ref p] ∧ (SqL K H p ys ∨ SqT K H p ys) ∧ Q (.int ys.length) H) [.val (eT f xs)] (.ok ()) (fun _ => .val (.int ((xs.length : Nat) : Int))) := by
  have := cb_lenT (K := K) (B := B) (ρ := ρ) (ds := xs.map f)
  rw [List.length_map] at this
  exact this
/-! one part with effects -/
theorem je_opL {r : R2} (ht : ∀ ta tb, PE X a ta → PE X b tb → PE X e (tOp r ta tb)) {α : Type} {ma : R α} {xa y : α → D} {ρa : α → List Slot} {s : α → Slot} (ha : JE X B ρ a ma (fun x => .val (xa x)) ρa) (hb : ∀ x, JP X B (ρa x) b (y x)) (hr : ∀ x, OpD X.K B r (xa x) (y x) (.ok ()) (fun _ => s x)) : JE X B ρ e ma s ρa := by
  have hb' : PE X b (fun σ H Q => ∃ x, tJ X.K B (ρa x) (.ok ()) (fun _ => .val (y x)) (fun _ => ρa x) σ H Q) := ⟨fun pins s σ H Q I ⟨x, q⟩ => (hb x).run pins s σ H Q I q⟩
  exact PE_imp (ht _ _ ha hb') fun σ H Q ⟨G, E, q⟩ => ⟨G, E, R.post_mono q fun x q1 vx G1 H1 x1 E1 => ⟨x, G1, E1.pop, fun vy G2 H2 x2 E2 => hr x G2 H2 σ (ρa x) vx vy Q E2.pop (E1.top.ex x2) E2.top fun v G3 H3 x3 E3 => q1 v G3 H3 (x1.trans (x2.trans x3)) E3⟩⟩
theorem je_opLG {r : R2} (ht : ∀ ta tb, PE X a ta → PE X b tb → PE X e (tOp r ta tb)) {α γ : Type} {ma : R α} {xa y : α → D} {ρa : α → List Slot} {mr : α → R γ} {s : α → γ → Slot} (ha : JE X B ρ a ma (fun x => .val (xa x)) ρa) (hb : ∀ x, JP X B (ρa x) b (y x)) (hr : ∀ x, OpD X.K B r (xa x) (y x) (mr x) (s x)) :
    JE X B ρ e (ma.bind fun x => (mr x).bind fun z => .ok (x, z)) (fun p => s p.1 p.2) (fun p => ρa p.1) := by
  have hb' : PE X b (fun σ H Q => ∃ x, tJ X.K B (ρa x) (.ok ()) (fun _ => .val (y x)) (fun _ => ρa x) σ H Q) := ⟨fun pins s σ H Q I ⟨x, q⟩ => (hb x).run pins s σ H Q I q⟩
  exact PE_imp (ht _ _ ha hb') fun σ H Q ⟨G, E, q⟩ => ⟨G, E, R.post_mono (R.post_bind.mp q) fun x q1 vx G1 H1 x1 E1 => ⟨x, G1, E1.pop, fun vy G2 H2 x2 E2 => hr x G2 H2 σ (ρa x) vx vy Q E2.pop (E1.top.ex x2) E2.top (R.post_mono (R.post_bind.mp q1) fun z q2 v G3 H3 x3 E3 => q2 v G3 H3 (x1.trans (x2.trans x3)) E3)⟩⟩
theorem je_opR {r : R2} (ht : ∀ ta tb, PE X a ta → PE X b tb → PE X e (tOp r ta tb)) {β : Type} {x : D} {mb : R β} {xb : β → D} {ρb : β → List Slot} {s : β → Slot} (ha : JP X B ρ a x) (hb : JE X B ρ b mb (fun y => .val (xb y)) ρb) (hr : ∀ y, OpD X.K B r x (xb y) (.ok ()) (fun _ => s y)) : JE X B ρ e mb s ρb :=
  PE_imp (ht _ _ ha hb) fun σ H Q ⟨G, E, q⟩ => ⟨G, E, fun vx G1 H1 x1 E1 => ⟨G1, E1.pop, R.post_mono q fun y q1 vy G2 H2 x2 E2 => hr y G2 H2 σ (ρb y) vx vy Q E2.pop (E1.top.ex x2) E2.top fun v G3 H3 x3 E3 => q1 v G3 H3 (x1.trans (x2.trans x3)) E3⟩⟩
theorem je_opRG {r : R2} (ht : ∀ ta tb, PE X a ta → PE X b tb → PE X e (tOp r ta tb)) {β γ : Type} {x : D} {mb : R β} {xb : β → D} {ρb : β → List Slot} {mr : β → R γ} {s : β → γ → Slot} (ha : JP X B ρ a x) (hb : JE X B ρ b mb (fun y => .val (xb y)) ρb) (hr : ∀ y, OpD X.K B r x (xb y) (mr y) (s y)) :
    JE X B ρ e (mb.bind fun y => (mr y).bind fun z => .ok (y, z)) (fun p => s p.1 p.2) (fun p => ρb p.1) :=
  PE_imp (ht _ _ ha hb) fun σ H Q ⟨G, E, q⟩ => ⟨G, E, fun vx G1 H1 x1 E1 => ⟨G1, E1.pop, R.post_mono (R.post_bind.mp q) fun y q1 vy G2 H2 x2 E2 => hr y G2 H2 σ (ρb y) vx vy Q E2.pop (E1.top.ex x2) E2.top (R.post_mono (R.post_bind.mp q1) fun z q2 v G3 H3 x3 E3 => q2 v G3 H3 (x1.trans (x2.trans x3)) E3)⟩⟩
theorem jt_opL {r : R2} (ht : ∀ ta tb, PE X a ta → PE X b tb → PT X e (tTest (tOp r ta tb))) {α : Type} {ma : R α} {xa y : α → D} {ρa : α → List Slot} {bn : α → Bool} (ha : JE X B ρ a ma (fun x => .val (xa x)) ρa) (hb : ∀ x, JP X B (ρa x) b (y x)) (hr : ∀ x, OpD X.K B r (xa x) (y x) (.ok ()) (fun _ => .val (.bool (bn x)))) : JT X B ρ e ma bn ρa := by
  have hb' : PE X b (fun σ H Q => ∃ x, tJ X.K B (ρa x) (.ok ()) (fun _ => .val (y x)) (fun _ => ρa x) σ H Q) := ⟨fun pins s σ H Q I ⟨x, q⟩ => (hb x).run pins s σ H Q I q⟩
  exact PT_imp (ht _ _ ha hb') fun σ H Q ⟨G, E, q⟩ => ⟨G, E, R.post_mono q fun x q1 vx G1 H1 x1 E1 => ⟨x, G1, E1.pop, fun vy G2 H2 x2 E2 => hr x G2 H2 σ (ρa x) vx vy _ E2.pop (E1.top.ex x2) E2.top fun v G3 H3 x3 E3 => ⟨_, E3.top.bl_inv, q1 G3 H3 (x1.trans (x2.trans x3)) E3.pop⟩⟩⟩
theorem jt_opLG {r : R2} (ht : ∀ ta tb, PE X a ta → PE X b tb → PT X e (tTest (tOp r ta tb))) {α γ : Type} {ma : R α} {xa y : α → D} {ρa : α → List Slot} {mr : α → R γ} {bn : α → γ → Bool} (ha : JE X B ρ a ma (fun x => .val (xa x)) ρa) (hb : ∀ x, JP X B (ρa x) b (y x)) (hr : ∀ x, OpD X.K B r (xa x) (y x) (mr x) (fun z => .val (.bool (bn x z)))) :
    JT X B ρ e (ma.bind fun x => (mr x).bind fun z => .ok (x, z)) (fun p => bn p.1 p.2) (fun p => ρa p.1) := by
  have hb' : PE X b (fun σ H Q => ∃ x, tJ X.K B (ρa x) (.ok ()) (fun _ => .val (y x)) (fun _ => ρa x) σ H Q) := ⟨fun pins s σ H Q I ⟨x, q⟩ => (hb x).run pins s σ H Q I q⟩
  exact PT_imp (ht _ _ ha hb') fun σ H Q ⟨G, E, q⟩ => ⟨G, E, R.post_mono (R.post_bind.mp q) fun x q1 vx G1 H1 x1 E1 => ⟨x, G1, E1.pop, fun vy G2 H2 x2 E2 => hr x G2 H2 σ (ρa x) vx vy _ E2.pop (E1.top.ex x2) E2.top (R.post_mono (R.post_bind.mp q1) fun z q2 v G3 H3 x3 E3 => ⟨_, E3.top.bl_inv, q2 G3 H3 (x1.trans (x2.trans x3)) E3.pop⟩)⟩⟩
theorem jt_opR {r : R2} (ht : ∀ ta tb, PE X a ta → PE X b tb → PT X e (tTest (tOp r ta tb))) {β : Type} {x : D} {mb : R β} {xb : β → D} {ρb : β → List Slot} {bn : β → Bool} (ha : JP X B ρ a x) (hb : JE X B ρ b mb (fun y => .val (xb y)) ρb) (hr : ∀ y, OpD X.K B r x (xb y) (.ok ()) (fun _ => .val (.bool (bn y)))) : JT X B ρ e mb bn ρb :=
  PT_imp (ht _ _ ha hb) fun σ H Q ⟨G, E, q⟩ => ⟨G, E, fun vx G1 H1 x1 E1 => ⟨G1, E1.pop, R.post_mono q fun y q1 vy G2 H2 x2 E2 => hr y G2 H2 σ (ρb y) vx vy _ E2.pop (E1.top.ex x2) E2.top fun v G3 H3 x3 E3 => ⟨_, E3.top.bl_inv, q1 G3 H3 (x1.trans (x2.trans x3)) E3.pop⟩⟩⟩
theorem jt_opRG {r : R2} (ht : ∀ ta tb, PE X a ta → PE X b tb → PT X e (tTest (tOp r ta tb))) {β γ : Type} {x : D} {mb : R β} {xb : β → D} {ρb : β → List Slot} {mr : β → R γ} {bn : β → γ → Bool} (ha : JP X B ρ a x) (hb : JE X B ρ b mb (fun y => .val (xb y)) ρb) (hr : ∀ y, OpD X.K B r x (xb y) (mr y) (fun z => .val (.bool (bn y z)))) :
    JT X B ρ e (mb.bind fun y => (mr y).bind fun z => .ok (y, z)) (fun p => bn p.1 p.2) (fun p => ρb p.1) :=
  PT_imp (ht _ _ ha hb) fun σ H Q ⟨G, E, q⟩ => ⟨G, E, fun vx G1 H1 x1 E1 => ⟨G1, E1.pop, R.post_mono (R.post_bind.mp q) fun y q1 vy G2 H2 x2 E2 => hr y G2 H2 σ (ρb y) vx vy _ E2.pop (E1.top.ex x2) E2.top (R.post_mono (R.post_bind.mp q1) fun z q2 v G3 H3 x3 E3 => ⟨_, E3.top.bl_inv, q2 G3 H3 (x1.trans (x2.trans x3)) E3.pop⟩)⟩⟩
theorem ja_el {α : Type} {ma : R α} {xa : α → D} {ρa : α → List Slot} {as : α → List Ar} (h : JE X B ρ e ma (fun x => .val (xa x)) ρa) (t : ∀ x, JA X B (ρa x) es (.ok ()) (fun _ => as x) (fun _ => ρa x)) (hst : starEach (e :: es) X.env = (false, eval e X.env) :: starEach es X.env := by rfl) :
    JA X B ρ (e :: es) ma (fun x => .val (xa x) :: as x) ρa := by
  have t' : PA X es (fun σ H Q => ∃ x, tJA X.K B (ρa x) (.ok ()) (fun _ => as x) (fun _ => ρa x) σ H Q) := ⟨fun pos pins s σ H Q I ⟨x, q⟩ => (t x).run pos pins s σ H Q I q⟩
  exact PA_imp (pa_cons h t' hst) fun σ H Q ⟨G, E, q⟩ => ⟨G, E, R.post_mono q fun x k v G1 H1 x1 E1 => ⟨x, G1, E1.pop, fun vs G2 H2 x2 E2 ok => k _ G2 H2 (x1.trans x2) E2 (.val (E1.top.ex x2) ok)⟩⟩
theorem je_cbN {E0 : Expr} {r : List V → Hp → VK → Prop} (hp : ∀ t, PA X es t → PE X E0 (tCB r t)) {β : Type} {ma : R β} {as : β → List Ar} {ρa : β → List Slot} {s : β → Slot} (ha : JA X B ρ es ma as ρa) (hr : ∀ x, CbD X.K B (ρa x) r (as x) (.ok ()) (fun _ => s x)) :
    JE X B ρ E0 ma s ρa :=
  PE_imp (hp _ ha) fun σ H Q ⟨G, E, q⟩ => ⟨G, E, R.post_mono q fun x q1 vs G1 H1 x1 E1 ok => hr x G1 H1 σ vs Q E1 ok fun v G2 H2 x2 E2 => q1 v G2 H2 (x1.trans x2) E2⟩
/-! what needs no look: written numbers -/
theorem od_mulC {K : PySem.W.Frag} {i j : Int} (h : CMul i j := by first | exact .inl (by decide) | exact .inr (by decide)) : OpD K B (rI CMul fun i j => .int (i * j)) (.int i) (.int j) (.ok ()) (fun _ => .val (.int (i * j))) :=
  od_val0 (fun G H vx vy Q _ hx hy q => ⟨i, j, hx.int_inv, hy.int_inv, h, q⟩) fun _ => .int _
theorem od_modC {K : PySem.W.Frag} {i j : Int} (h : 0 < j := by decide) : OpD K B (rI (fun _ j => 0 < j) fun i j => .int (i % j)) (.int i) (.int j) (.ok ()) (fun _ => .val (.int (i % j))) :=
  od_val0 (fun G H vx vy Q _ hx hy q => ⟨i, j, hx.int_inv, hy.int_inv, h, q⟩) fun _ => .int _
theorem od_fdivC {K : PySem.W.Frag} {i j : Int} (h : 0 < j ∧ j < 1073741824 := by decide) : OpD K B (rI CDiv fun i j => .int (i / j)) (.int i) (.int j) (.ok ()) (fun _ => .val (.int (i / j))) :=
  od_val0 (fun G H vx vy Q _ hx hy q => ⟨i, j, hx.int_inv, hy.int_inv, h, q⟩) fun _ => .int _
theorem od_powC {K : PySem.W.Frag} {i j : Int} (h : CPow i j := by decide) : OpD K B (rI CPow fun i j => .int (i ^ j.toNat)) (.int i) (.int j) (.ok ()) (fun _ => .val (.int (i ^ j.toNat))) :=
  od_val0 (fun G H vx vy Q _ hx hy q => ⟨i, j, hx.int_inv, hy.int_inv, h, q⟩) fun _ => .int _
theorem cb_lenP2 {K : PySem.W.Frag} {α β : Type} {f : α → D} {g : β → D} {p : α × β} : CbD K B ρ (fun xs H Q => ∃ p ys, xs = [.ref p] ∧ (SqL K H p ys ∨ SqT K H p ys) ∧ Q (.int ys.length) H) [.val (eP2 f g p)] (.ok ()) (fun _ => .val (.int 2)) := cb_lenT (ds := [f p.1, g p.2])
theorem cb_lenP3 {K : PySem.W.Frag} {α β γ : Type} {f : α → D} {g : β → D} {h : γ → D} {p : α × β × γ} : CbD K B ρ (fun xs H Q => ∃ p ys, xs = [.ref p] ∧ (SqL K H p ys ∨ SqT K H p ys) ∧ Q (.int ys.length) H) [.val (eP3 f g h p)] (.ok ()) (fun _ => .val (.int 3)) := cb_lenT (ds := [f p.1, g p.2.1, h p.2.2])
theorem cb_lenP4 {K : PySem.W.Frag} {α β γ δ : Type} {f : α → D} {g : β → D} {h : γ → D} {k : δ → D} {p : α × β × γ × δ} : CbD K B ρ (fun xs H Q => ∃ p ys, xs = [.ref p] ∧ (SqL K H p ys ∨ SqT K H p ys) ∧ Q (.int ys.length) H) [.val (eP4 f g h k p)] (.ok ()) (fun _ => .val (.int 4)) := cb_lenT (ds := [f p.1, g p.2.1, h p.2.2.1, k p.2.2.2])
/-! calls that change nothing here -/
section
variable {CX : CXT} {k : Nat} {f : Addr} {fd : FuncData} {ps : List Str} {EE : XK} {x : Str} {p : Pos}
theorem je_callV {α β : Type} {ins : α → List Slot} {mf : α → R β} {sl : β → Slot} {outs : β → List Slot} (F : FnOk X.prog X.w X.K X.mg X.base CX k f fd ps (spM X.K ins mf sl outs)) (hr : Room k X.A) (hg : Gl X x) (hm : X.mg x = some (.ref f)) (hk : PySem.W.keepIn X.K (.ref f) = true)
    (hb : Binds X.K fd ps []) (hx : Passes CX X EE) {as : List Ar} (arg : α) (ha : JA X B ρ (e :: es) (.ok ()) (fun _ => as) (fun _ => ρ)) (hne : ∀ e, ¬ B.rs e) (hi : goodIn ρ as = true := by rfl) (hins : insAt 0 ρ as = ins arg := by rfl)
    (ho : ∀ b, goodOut 0 as (outs b) = true := by intro _; rfl) (hal : aliOk ρ as = true := by rfl) (hres : ∀ b, resOk (sl b) = true := by intro _; rfl) (hns : noSlots as = true := by rfl)
    (hdb : (x == ("__debug__" : Str)) = false := by decide) (he : starEach (e :: es) X.env = (false, eval e X.env) :: starEach es X.env := by rfl) (hpl : (backTo pos (starEach es X.env)).any (·.1) = false := by rfl) :
    JE X B ρ (.Call (.Name x p) (e :: es) [] pos) (mf arg) sl (fun _ => ρ) := by
  have := je_callP (pos := pos) (p := p) F hr hg hm hk hb hx arg ha hne hi hins ho hal hres hdb he hpl
  simp only [backAt_noSlots hns, movedAt_noSlots hns] at this
  exact this
theorem je_callVE {α β γ : Type} {ins : α → List Slot} {mf : α → R β} {sl : β → Slot} {outs : β → List Slot} (F : FnOk X.prog X.w X.K X.mg X.base CX k f fd ps (spM X.K ins mf sl outs)) (hr : Room k X.A) (hg : Gl X x) (hm : X.mg x = some (.ref f)) (hk : PySem.W.keepIn X.K (.ref f) = true)
    (hb : Binds X.K fd ps []) (hx : Passes CX X EE) {ma : R γ} {as : γ → List Ar} {ρa : γ → List Slot} (arg : γ → α) (ha : JA X B ρ (e :: es) ma as ρa) (hne : ∀ e, ¬ B.rs e) (hi : ∀ c, goodIn (ρa c) (as c) = true := by intro _; rfl) (hins : ∀ c, insAt 0 (ρa c) (as c) = ins (arg c) := by intro _; rfl)
    (ho : ∀ c b, goodOut 0 (as c) (outs b) = true := by intro _ _; rfl) (hal : ∀ c, aliOk (ρa c) (as c) = true := by intro _; rfl) (hres : ∀ b, resOk (sl b) = true := by intro _; rfl) (hns : ∀ c, noSlots (as c) = true := by intro _; rfl)
    (hdb : (x == ("__debug__" : Str)) = false := by decide) (he : starEach (e :: es) X.env = (false, eval e X.env) :: starEach es X.env := by rfl) (hpl : (backTo pos (starEach es X.env)).any (·.1) = false := by rfl) :
    JE X B ρ (.Call (.Name x p) (e :: es) [] pos) (ma.bind fun c => (mf (arg c)).bind fun b => .ok (c, b)) (fun y => sl y.2) (fun y => ρa y.1) := by
  have := je_call (pos := pos) (p := p) F hr hg hm hk hb hx arg ha hne hi hins ho hal hres hdb he hpl
  simp only [backAt_noSlots (hns _), movedAt_noSlots (hns _)] at this
  exact this
end
end
/-- the law's own promise, from its mirror's answer -/
theorem law_sp {K : PySem.W.Frag} {H : Hp} {a : Addr} {ns : List Int} {E : XK} (hS : SqL K H a (ns.map V.int)) {ins : List Int → List Slot} {m : List Int → R Bool} {sl : Bool → Slot} {outs : Bool → List Slot} (hm : m ns = .ok true) (hi : ins ns = [.val (.scr ns)] := by rfl) (hs : sl true = .val (.bool true) := by rfl) :
    spM K ins m sl outs [.ref a] H (fun v _ => v = .bl true) E := by
  refine ⟨ns, H, [], ⟨⟨fun x o _ e => e, fun x l m => ?_, Ex.refl H, fun x _ e => e, Ex.refl H⟩, ⟨[], ?_, List.nodup_nil, fun _ m => nomatch m⟩, ?_, fun i j p e => ?_⟩, ?_⟩
  · cases l with
    | zero => exact nomatch m
    | succ l => exact nomatch m
  · rw [hi]
    exact .cons (A := []) (.val (.scr hS)) .nil
  · rw [hi]
    rfl
  · rw [hi] at e
    cases i with
    | zero => cases e
    | succ i => cases e
  · rw [hm]
    intro v G' H' E'
    rw [hs] at E'
    exact E'.top.bl_inv
end DL

/-! DL10: list comprehensions -/
namespace DL
open PySem PySem.Spec L2

/-! ### targets that are names: what they touch -/
def tJN (K : PySem.W.Frag) (B : Base) (ρ : List Slot) (d : D) (ts : List Nat) (ρ' : List Slot) : TG := fun v σ H Q =>
  ∃ G, En K B G H σ ρ [] ∧ Rp K G v d ∧ ∀ σ', (∀ i, i ∉ ts → σ'[i]? = σ[i]?) → σ'.length = σ.length → En K B G H σ' ρ' [] → Q σ' H
def JN (X : Cx) (B : Base) (ρ : List Slot) (tg : Expr) (d : D) (ts : List Nat) (ρ' : List Slot) : Prop := PG X tg (tJN X.K B ρ d ts ρ')
def tJNs (K : PySem.W.Frag) (B : Base) (ρ : List Slot) (ds : List D) (ts : List Nat) (ρ' : List Slot) : TGs := fun vs σ H Q =>
  ∃ G, En K B G H σ ρ [] ∧ RpAll K G vs ds ∧ ∀ σ', (∀ i, i ∉ ts → σ'[i]? = σ[i]?) → σ'.length = σ.length → En K B G H σ' ρ' [] → Q σ' H
def JNs (X : Cx) (B : Base) (ρ : List Slot) (es : List Expr) (ds : List D) (ts : List Nat) (ρ' : List Slot) : Prop := PGs X es (tJNs X.K B ρ ds ts ρ')
section
variable {X : Cx} {B : Base} {ρ : List Slot} {pos : Pos} {e : Expr}
theorem jn_name (i : Nat) {x : Str} {d : D} (hN : X.N.Nodup) (hi : X.N[i]? = some x := by rfl) (hx : Loc X.env.scope x := by first | exact Or.inl rfl | exact Or.inr rfl) (hf : X.fn x = true ∨ X.env.scope.names.lookup x = some .local := by first | exact .inl rfl | exact .inr rfl)
    (hlt : i < ρ.length := by exact of_decide_eq_true rfl) (hal : noAli i ρ = true := by rfl) : JN X B ρ (.Name x pos) d [i] (ρ.set i (.val d)) :=
  PG_imp (pg_name (i := i) hN hi hx hf) fun v σ H Q ⟨G, E, r, q⟩ => q (σ.set i (some v)) (fun j hj => by
    rw [List.getElem?_set_ne (fun z => hj (by rw [z]; exact List.mem_singleton.mpr rfl))]) (by rw [List.length_set]) ((E.push r).set hlt (fun _ _ z => nomatch z) hal)
theorem jns_nil : JNs X B ρ [] [] [] ρ := PGs_imp pgs_nil fun vs σ H Q ⟨G, E, r, q⟩ => by
  cases r
  exact ⟨rfl, q σ (fun _ _ => rfl) rfl E⟩
theorem jns_cons {es : List Expr} {d : D} {ds : List D} {ts ts2 : List Nat} {ρ1 ρ2 : List Slot} (h : JN X B ρ e d ts ρ1) (t : JNs X B ρ1 es ds ts2 ρ2)
    (hs : (assignEach (e :: es) X.env).map (·.2) = assign e X.env :: (assignEach es X.env).map (·.2) := by rfl) : JNs X B ρ (e :: es) (d :: ds) (ts ++ ts2) ρ2 := by
  refine PGs_imp (pgs_cons h t hs) fun vs σ H Q ⟨G, E, r, q⟩ => ?_
  cases r with
  | cons r rr => exact ⟨_, _, rfl, G, E, r, fun σ' h1 l1 E' => ⟨G, E', rr, fun σ2 h2 l2 E2 => q σ2 (fun i hi => by
      have hi' : i ∉ ts ∧ i ∉ ts2 := by
        constructor
        · exact fun z => hi (List.mem_append_left _ z)
        · exact fun z => hi (List.mem_append_right _ z)
      rw [h2 i hi'.2, h1 i hi'.1]) (l2.trans l1) E2⟩⟩
theorem jn_tup {es : List Expr} {k : Nat} {ds : List D} {ts : List Nat} {ρ' : List Slot} (hc : X.calm = true) (h : JNs X B ρ es ds ts ρ') (hn : (assignEach es X.env).length = ds.length := by rfl) (hst : (assignEach es X.env).findIdx? (·.1) = none := by rfl) : JN X B ρ (.Tuple es k pos) (.tuple ds) ts ρ' :=
  PG_imp (pg_tup (n := ds.length) hc h hn hst) fun v σ H Q ⟨G, E, r, q⟩ => by
    obtain ⟨a, xs, rfl, hS, hr⟩ := r.tup_inv
    exact ⟨a, xs, rfl, E.sub.t hS, hr.len, G, E, hr, q⟩
end
/-! ### slots within, slots behind -/
/-- the block's own slots forgotten -/
def blot : Nat → List Nat → List Slot → List Slot
  | _, _, [] => []
  | n, vs, s :: ρ => (if vs.contains n then .non else s) :: blot (n + 1) vs ρ
/-- the outer slots, but for what the block's own ones hide -/
def unblot : Nat → List Nat → List Slot → List Slot → List Slot
  | n, vs, s :: ρ, t :: ρ2 => (if vs.contains n then s else t) :: unblot (n + 1) vs ρ ρ2
  | _, _, _, _ => []
def isPlain : Slot → Bool
  | .non => true
  | .val _ => true
  | .own _ _ => false
  | .ali _ _ => false
/-- the block's own slots hold no owned thing -/
def plainAt : Nat → List Nat → List Slot → Bool
  | _, _, [] => true
  | n, vs, s :: ρ => (if vs.contains n then isPlain s else true) && plainAt (n + 1) vs ρ
section
variable {K : PySem.W.Frag} {B : Base} {G G' H H' : Hp}
theorem Cells.blot : ∀ {σ σ2 : L2.St} {ρ : List Slot} {A : List Addr} (n : Nat) (vs : List Nat), Cells K B G H σ ρ A → plainAt n vs ρ = true → σ2.length = σ.length → (∀ i, (n + i) ∉ vs → σ2[i]? = σ[i]?) → Cells K B G H σ2 (blot n vs ρ) A
  | _, σ2, _, _, n, vs, .nil, _, hl, _ => by
    cases σ2 with
    | nil => exact .nil
    | cons a b => cases hl
  | _, σ2, _, _, n, vs, .cons (s := s) (A := A1) c r, hp, hl, hk => by
    cases σ2 with
    | nil => cases hl
    | cons y σ2 =>
      rw [plainAt, Bool.and_eq_true] at hp
      have r' := Cells.blot (n + 1) vs r hp.2 (by simpa using hl) (σ2 := σ2) (fun i hi => by
        have := hk (i + 1) (by rw [show n + (i + 1) = n + 1 + i by omega]; exact hi)
        simpa using this)
      rw [DL.blot]
      by_cases hc : vs.contains n = true
      · rw [if_pos hc]
        have h1 := hp.1
        rw [if_pos hc] at h1
        have e : A1 = [] := by
          cases c with
          | non => rfl
          | val _ => rfl
          | own _ _ _ => simp [isPlain] at h1
          | ali => rfl
        subst e
        exact .cons .non r'
      · rw [if_neg hc]
        have := hk 0 (by
          intro z
          exact hc (List.contains_iff_mem.mpr (by simpa using z)))
        simp at this
        rw [this]
        exact .cons c r'
theorem Cells.unblot : ∀ {σ σ2 : L2.St} {ρ ρ2 : List Slot} {A A0 : List Addr} (n : Nat) (vs : List Nat), Cells K B G H σ ρ A0 → Ex G G' → Cells K B G' H' σ2 ρ2 A → plainAt n vs ρ = true → plainAt n vs ρ2 = true → (∀ i, (n + i) ∉ vs → σ2[i]? = σ[i]?) → σ2.length = σ.length → Cells K B G' H' σ (unblot n vs ρ ρ2) A
  | _, σ2, _, _, A, _, n, vs, .nil, _, c2, _, _, _, hl => by
    cases c2 with
    | nil => exact .nil
    | cons _ _ => cases hl
  | _, σ2, _, _, A, _, n, vs, .cons (s := s) (A := A1) c r, e, c2, hp, hp2, hk, hl => by
    cases c2 with
    | nil => cases hl
    | @cons y t B1 σ2 ρ2 B2 d r2 =>
      rw [plainAt, Bool.and_eq_true] at hp hp2
      have r' := Cells.unblot (n + 1) vs r e r2 hp.2 hp2.2 (fun i hi => by
        have := hk (i + 1) (by rw [show n + (i + 1) = n + 1 + i by omega]; exact hi)
        simpa using this) (by simpa using hl)
      rw [DL.unblot]
      by_cases hc : vs.contains n = true
      · rw [if_pos hc]
        have h1 := hp.1
        have h2 := hp2.1
        rw [if_pos hc] at h1 h2
        have e2 : B1 = [] := by
          cases d with
          | non => rfl
          | val _ => rfl
          | own _ _ _ => simp [isPlain] at h2
          | ali => rfl
        subst e2
        cases c with
        | non => exact .cons .non r'
        | val h => exact .cons (.val (h.ex e)) r'
        | own _ _ _ => simp [isPlain] at h1
        | ali => simp [isPlain] at h1
      · rw [if_neg hc]
        have := hk 0 (by
          intro z
          exact hc (List.contains_iff_mem.mpr (by simpa using z)))
        simp at this
        rw [← this]
        exact .cons d r'
theorem blot_len : ∀ (n : Nat) (vs : List Nat) (ρ : List Slot), (blot n vs ρ).length = ρ.length
  | _, _, [] => rfl
  | n, vs, s :: ρ => by rw [blot, List.length_cons, List.length_cons, blot_len]
theorem unblot_len : ∀ (n : Nat) (vs : List Nat) (ρ ρ2 : List Slot), ρ2.length = ρ.length → (unblot n vs ρ ρ2).length = ρ.length
  | _, _, [], [], _ => rfl
  | n, vs, s :: ρ, t :: ρ2, h => by rw [unblot, List.length_cons, List.length_cons, unblot_len _ _ _ _ (by simpa using h)]
theorem blot_noAli : ∀ {ρ : List Slot} (n : Nat) (vs : List Nat), noAlis ρ = true → noAlis (blot n vs ρ) = true
  | [], _, _, _ => rfl
  | s :: ρ, n, vs, h => by
    rw [blot]
    have h' : noAlis ρ = true := by
      cases s <;> simp [noAlis] at h <;> exact h
    by_cases hc : vs.contains n = true
    · rw [if_pos hc]
      exact blot_noAli (n + 1) vs h'
    · rw [if_neg hc]
      cases s with
      | non => exact blot_noAli (n + 1) vs h'
      | val _ => exact blot_noAli (n + 1) vs h'
      | own _ _ => exact blot_noAli (n + 1) vs h'
      | ali _ _ => simp [noAlis] at h
theorem unblot_noAli : ∀ {ρ ρ2 : List Slot} (n : Nat) (vs : List Nat), noAlis ρ = true → noAlis ρ2 = true → noAlis (unblot n vs ρ ρ2) = true
  | [], [], _, _, _, _ => rfl
  | [], _ :: _, _, _, _, _ => rfl
  | _ :: _, [], _, _, _, _ => rfl
  | s :: ρ, t :: ρ2, n, vs, h, h2 => by
    rw [unblot]
    have h' : noAlis ρ = true := by
      cases s <;> simp [noAlis] at h <;> exact h
    have h2' : noAlis ρ2 = true := by
      cases t <;> simp [noAlis] at h2 <;> exact h2
    by_cases hc : vs.contains n = true
    · rw [if_pos hc]
      cases s with
      | non => exact unblot_noAli (n + 1) vs h' h2'
      | val _ => exact unblot_noAli (n + 1) vs h' h2'
      | own _ _ => exact unblot_noAli (n + 1) vs h' h2'
      | ali _ _ => simp [noAlis] at h
    · rw [if_neg hc]
      cases t with
      | non => exact unblot_noAli (n + 1) vs h' h2'
      | val _ => exact unblot_noAli (n + 1) vs h' h2'
      | own _ _ => exact unblot_noAli (n + 1) vs h' h2'
      | ali _ _ => simp [noAlis] at h2
/-- into the block -/
theorem En.inB {σ σ2 : L2.St} {ρ : List Slot} (E : En K B G H σ ρ []) (vs : List Nat) (hp : plainAt 0 vs ρ = true) (ha : noAlis ρ = true) (hl : σ2.length = σ.length) (hk : ∀ i, i ∉ vs → σ2[i]? = σ[i]?) : En K B G H σ2 (blot 0 vs ρ) [] := by
  obtain ⟨A, c, n, f⟩ := E.own
  exact ⟨E.anc, ⟨A, Cells.blot 0 vs (show Cells K B G H σ ρ A from c) hp hl (fun i hi => hk i (by simpa using hi)), n, f⟩, by rw [blot_len, hl, E.len], fun i j p e => absurd e (noAlis_get (blot_noAli 0 vs ha))⟩
/-- out of it -/
theorem En.outB {σ σ2 : L2.St} {ρ ρ2 : List Slot} (E : En K B G H σ ρ []) (E2 : En K B G' H' σ2 ρ2 []) (e : Ex G G') (vs : List Nat) (hp : plainAt 0 vs ρ = true) (hp2 : plainAt 0 vs ρ2 = true) (ha : noAlis ρ = true) (ha2 : noAlis ρ2 = true) (hk : ∀ i, i ∉ vs → σ2[i]? = σ[i]?) (hl : σ2.length = σ.length) : En K B G' H' σ (unblot 0 vs ρ ρ2) [] := by
  obtain ⟨A0, c0, _, _⟩ := E.own
  obtain ⟨A, c, n, f⟩ := E2.own
  refine ⟨E2.anc, ⟨A, Cells.unblot 0 vs (show Cells K B G H σ ρ A0 from c0) e (show Cells K B G' H' σ2 ρ2 A from c) hp hp2 (fun i hi => hk i (by simpa using hi)) hl, n, f⟩, ?_, fun i j p e => absurd e (noAlis_get (unblot_noAli 0 vs ha ha2))⟩
  rw [unblot_len _ _ _ _ (by rw [← E2.len, hl, E.len])]
  exact E.len
/-! ### the list that is made, out of reach -/
def Base.hide (B : Base) (p : Addr) (o : HO) : Base := { B with H0 := fun a => if a = p then some o else B.H0 a }
/-- an address that was free at En is none of the caller's -/
theorem En.noMo {σ : L2.St} {ρ : List Slot} {ex : List (V × Slot)} {p : Addr} (E : En K B G H σ ρ ex) (hp : H p = none) : (∀ l, p ∉ B.Mo l) ∧ B.H0 p = none := ⟨fun l m => E.anc.there p l m hp, E.fresh hp⟩
theorem En.hideIn {σ : L2.St} {ρ : List Slot} {p : Addr} {ds : List D} (E : En K B G H σ ρ [(.ref p, .own 0 (.lst (ds.map OT.dat)))]) (hm : ∀ l, p ∉ B.Mo l) (h0 : B.H0 p = none) : ∃ vs, H p = some (.lst vs) ∧ RpAll K G vs ds ∧ En K (B.hide p (.lst vs)) G H σ ρ [] := by
  obtain ⟨A, c, n, f⟩ := E.own
  cases c with
  | @cons _ _ A1 _ _ A2 c1 cr =>
    cases c1 with
    | own hO hr hv =>
      cases hO with
      | @lst _ ws _ A3 hH hall =>
        obtain ⟨e3, r⟩ := own_dats_inv hall
        subst e3
        have hG : G p = none := f p (by simp)
        have hn : p ∉ A2 := (List.nodup_cons.mp n).1
        refine ⟨ws, hH, r, ⟨⟨fun a o ha e => ?_, E.anc.there, E.anc.gsub, fun a e1 e2 => ?_, E.anc.sub⟩, ⟨A2, ?_, (List.nodup_cons.mp n).2, fun a m => f a (List.mem_cons_of_mem _ m)⟩, E.len, E.ali⟩⟩
        · have e : (if a = p then some (HO.lst ws) else B.H0 a) = some o := e
          by_cases hap : a = p
          · rw [if_pos hap] at e
            rw [hap, hH]
            exact e
          · rw [if_neg hap] at e
            exact E.anc.keep a o ha e
        · by_cases hap : a = p
          · rw [hap]
            exact hG
          · have e1 : (if a = p then some (HO.lst ws) else B.H0 a) ≠ none := e1
            rw [if_neg hap] at e1
            exact E.anc.gnew a e1 e2
        · have gen : ∀ {σ : L2.St} {ρ : List Slot} {A : List Addr}, Cells K B G H σ ρ A → p ∉ A → Cells K (B.hide p (.lst ws)) G H σ ρ A := by
            intro σ ρ A h
            induction h with
            | nil => exact fun _ => .nil
            | cons c r ih =>
              intro hn
              refine .cons ?_ (ih fun z => hn (List.mem_append_right _ z))
              cases c with
              | non => exact .non
              | val h => exact .val h
              | ali => exact .ali
              | own h l v =>
                refine .own h (fun a m => (l a m).imp id fun z => ?_) v
                show (if a = p then _ else B.H0 a) = none
                rw [if_neg fun e => hn (List.mem_append_left _ (by rw [← e]; exact m))]
                exact z
          exact gen (show Cells K B G H σ ρ A2 from cr) hn
theorem En.hideOut {σ : L2.St} {ρ : List Slot} {p : Addr} {vs : List V} {ds : List D} (E : En K (B.hide p (.lst vs)) G H σ ρ []) (hm : ∀ l, p ∉ B.Mo l) (h0 : B.H0 p = none) (hG0 : B.G0 p = none) (r : RpAll K G vs ds) (ha : noAlis ρ = true) : H p = some (.lst vs) ∧ G p = none ∧
    ∀ (vs' : List V) (ds' : List D), RpAll K G vs' ds' → En K B G (upd H p (.lst vs')) σ ρ [(.ref p, .own 0 (.lst (ds'.map OT.dat)))] := by
  have hH : H p = some (.lst vs) := E.anc.keep p _ hm (by
    show (if p = p then some (HO.lst vs) else B.H0 p) = _
    rw [if_pos rfl])
  have hG : G p = none := E.anc.gnew p (by
    show (if p = p then some (HO.lst vs) else B.H0 p) ≠ none
    rw [if_pos rfl]
    exact fun z => nomatch z) hG0
  refine ⟨hH, hG, fun vs' ds' r' => ?_⟩
  obtain ⟨A, c, n, f⟩ := E.own
  have hn : p ∉ A := by
    intro m
    rcases Cells.region (show Cells K _ G H σ ρ A from c) p m with ⟨l, z⟩ | z
    · exact hm l z
    · have z : (if p = p then some (HO.lst vs) else B.H0 p) = none := z
      rw [if_pos rfl] at z
      cases z
  have gen : ∀ {σ : L2.St} {ρ : List Slot} {A : List Addr}, Cells K (B.hide p (.lst vs)) G H σ ρ A → p ∉ A → Cells K B G (upd H p (.lst vs')) σ ρ A := by
    intro σ ρ A h
    induction h with
    | nil => exact fun _ => .nil
    | cons c r ih =>
      intro hn
      refine .cons ?_ (ih fun z => hn (List.mem_append_right _ z))
      cases c with
      | non => exact .non
      | val h => exact .val h
      | ali => exact .ali
      | own h l v =>
        have hA := fun z => hn (List.mem_append_left _ z)
        refine .own (h.ex (Ex.refl _) fun a m u e => ?_) (fun a m => (l a m).imp id fun z => ?_) v
        · rw [upd_ne (fun z => hA (by rw [← z]; exact m))]
          exact e
        · have z : (if a = p then some (HO.lst vs) else B.H0 a) = none := z
          by_cases hap : a = p
          · rw [if_pos hap] at z
            cases z
          · rw [if_neg hap] at z
            exact z
  refine ⟨⟨fun a o ha e => ?_, fun a l m => ?_, E.anc.gsub, fun a e1 e2 => ?_, fun a o e => ?_⟩, ⟨p :: A, .cons (A := [p]) (.own (.lst upd_same (own_dats r')) (fun a m => .inr ?_) (.inl rfl)) (gen (show Cells K _ G H σ ρ A from c) hn), List.nodup_cons.mpr ⟨hn, n⟩, fun a m => ?_⟩, E.len, fun i j q e => ?_⟩
  · have hap : a ≠ p := fun z => by
      rw [z, h0] at e
      cases e
    rw [upd_ne hap]
    refine E.anc.keep a o ha ?_
    show (if a = p then some (HO.lst vs) else B.H0 a) = _
    rw [if_neg hap]
    exact e
  · have hap : a ≠ p := fun z => hm l (by rw [← z]; exact m)
    rw [upd_ne hap]
    exact E.anc.there a l m
  · refine E.anc.gnew a ?_ e2
    show (if a = p then some (HO.lst vs) else B.H0 a) ≠ none
    by_cases hap : a = p
    · rw [if_pos hap]
      exact fun z => nomatch z
    · rw [if_neg hap]
      exact e1
  · rw [upd_ne (ne_of_none e hG)]
    exact E.anc.sub a o e
  · rw [List.mem_singleton.mp m]
    exact h0
  · rcases List.mem_cons.mp m with rfl | m
    · exact hG
    · exact f a m
  · exact absurd e (noAlis_get ha)
end
theorem upd_id {H : Hp} {p : Addr} {o : HO} (h : H p = some o) : upd H p o = H := by
  funext a
  by_cases ha : a = p
  · subst ha
    rw [upd_same, h]
  · rw [upd_ne ha]
/-! ### the comprehension -/
def compR {α S γ : Type} (f : α → S → R (Option γ × S)) : List α → List γ → S → R (List γ × S)
  | [], acc, s => .ok (acc, s)
  | x :: xs, acc, s => (f x s).bind fun p => compR f xs (match p.1 with | some v => acc ++ [v] | none => acc) p.2
def compF {α S δ ε γ : Type} (c : α → S → R δ) (bn : δ → Bool) (me : α → S → R ε) (v : ε → γ) (st : ε → S) (x : α) (s : S) : R (Option γ × S) :=
  (c x s).bind fun d => if bn d = true then (me x s).bind fun y => .ok (some (v y), st y) else .ok (none, s)
def JTs (X : Cx) (B : Base) (ρ : List Slot) (es : List Expr) {β : Type} (m : R β) (bn : β → Bool) : Prop := PTs X es (tJT X.K B ρ m bn fun _ => ρ)
section
variable {X : Cx} {B : Base} {ρ : List Slot} {pos : Pos} {e a b tg it elt : Expr}
theorem jts_nil : JTs X B ρ [] (.ok ()) (fun _ => true) := ⟨fun pins s σ H Q I ⟨G, E, q⟩ => pts_nil.run pins s σ H Q I (q G H (Ex.refl G) E)⟩
theorem jts_one {β : Type} {m : R β} {bn : β → Bool} (h : JT X B ρ e m bn (fun _ => ρ)) : JTs X B ρ [e] m bn := pts_one h
abbrev Blk (X : Cx) (sc : Scope) (P : Cx → Prop) : Prop := ∀ (s : Shared) (H : Hp) (C : Addr) (cl : List (Str × Addr)) (fp : List Addr), P (X.blk s H sc (compEnvC sc cl C X.env) fp)
theorem wipe_eq {σ σ2 : L2.St} : ∀ {vs : List Nat}, σ2.length = σ.length → (∀ i, i ∉ vs → σ2[i]? = σ[i]?) → wipe σ2 vs = wipe σ vs := by
  have key : ∀ (σ : L2.St) (vs : List Nat) (i : Nat), (wipe σ vs)[i]? = if i ∈ vs ∧ i < σ.length then some none else σ[i]? := by
    intro σ vs
    induction vs with
    | nil => intro i; simp [wipe]
    | cons v vs ih =>
      intro i
      rw [wipe]
      by_cases hv : v = i
      · subst hv
        by_cases hl : v < σ.length
        · rw [List.getElem?_set_self (by rw [wipe_length]; exact hl), if_pos ⟨List.mem_cons_self, hl⟩]
        · rw [List.getElem?_eq_none (by rw [List.length_set, wipe_length]; omega), if_neg (fun z => hl z.2), List.getElem?_eq_none (by omega)]
      · rw [List.getElem?_set_ne hv, ih]
        have : (i ∈ v :: vs) ↔ i ∈ vs := by
          constructor
          · intro z
            rcases List.mem_cons.mp z with z | z
            · exact absurd z.symm hv
            · exact z
          · exact List.mem_cons_of_mem _
        simp only [this]
  intro vs hl hk
  apply List.ext_getElem?
  intro i
  rw [key, key, hl]
  by_cases hi : i ∈ vs
  · by_cases hlt : i < σ.length
    · rw [if_pos ⟨hi, hlt⟩, if_pos ⟨hi, hlt⟩]
    · rw [if_neg (fun z => hlt z.2), if_neg (fun z => hlt z.2), List.getElem?_eq_none (by omega), List.getElem?_eq_none (by omega)]
  · rw [if_neg (fun z => hi z.1), if_neg (fun z => hi z.1), hk i hi]
theorem tlc_of {K : PySem.W.Frag} {α S γ δ ε β0 : Type} {m : R β0} {xs : β0 → List α} {ea : α → D} {en : γ → D} {ρ1 : β0 → List Slot} {vs ts : List Nat} {ρS : S → List Slot} {s0 : β0 → S} {ρB : α → S → List Slot} {c : α → S → R δ} {bn : δ → Bool} {me : α → S → R ε} {v : ε → γ} {st : ε → S}
    (hw : ∀ b, ρ1 b = ρS (s0 b)) (hpl : ∀ s, plainAt 0 vs (ρS s) = true) (hna : ∀ s, noAlis (ρS s) = true) (hts : ∀ i ∈ ts, i ∈ vs) (hplB : ∀ x s, plainAt 0 vs (ρB x s) = true) (hnaB : ∀ x s, noAlis (ρB x s) = true) (hun : ∀ x s s', unblot 0 vs (ρS s) (ρB x s') = ρS s')
    {σ : L2.St} {H : Hp} {Q : VK}
    (q : tJ K B ρ (m.bind fun b => (R.guard ((xs b).length ≤ sizeLine)).bind fun _ => compR (compF c bn me v st) (xs b) [] (s0 b)) (fun p => .own 0 (oL en p.1)) (fun p => ρS p.2) σ H Q) :
    tLc (tJI K B ρ m (fun b => (xs b).map ea) ρ1) (fun w σ H Q => ∃ B' x s, B'.rs = B.rs ∧ tJN K B' (blot 0 vs (ρS s)) (ea x) ts (ρB x s) w σ H Q) (fun σ H Q => ∃ B' x s, B'.rs = B.rs ∧ tJT K B' (ρB x s) (c x s) bn (fun _ => ρB x s) σ H Q)
      (fun σ H Q => ∃ B' x s, B'.rs = B.rs ∧ tJ K B' (ρB x s) (me x s) (fun y => .val (en (v y))) (fun y => ρB x (st y)) σ H Q) vs σ H Q := by
  obtain ⟨G, E, q⟩ := q
  refine ⟨G, E, R.post_mono (R.post_bind.mp q) fun b q1 J G' H' xG E' Y p hp => ?_⟩
  obtain ⟨hsz, q2⟩ := R.post_guard (R.post_bind.mp q1)
  have hlen : ((xs b).map ea).length = (xs b).length := List.length_map _
  obtain ⟨hMo, hH0⟩ := E'.noMo hp
  have hG0 : B.G0 p = none := (E'.anc.gsub.trans E'.sub).back hp
  let W : Nat → Hp → Prop := fun i H1 => ∃ G1 s acc, Ex G' G1 ∧ En K B G1 H1 σ (ρS s) [(.ref p, .own 0 (oL en acc))] ∧ acc.length ≤ i ∧
    (compR (compF c bn me v st) ((xs b).drop i) acc s).post (fun r => ∀ w G2 H2, Ex G1 G2 → En K B G2 H2 σ (ρS r.2) [(w, .own 0 (oL en r.1))] → Q w H2) B.rs
  refine ⟨fun i mm H1 => mm = (xs b).length - i ∧ i ≤ (xs b).length ∧ W i H1, ⟨_, rfl, Nat.zero_le _, G', s0 b, [], Ex.refl _, ?_, Nat.le_refl _, R.post_mono q2 fun r h w G2 H2 x2 E2 => h w G2 H2 (xG.trans x2) E2⟩, ?_⟩
  · rw [hw b] at E'
    exact E'.newL (ds := []) hp .nil
  · rintro i mm H1 ⟨rfl, hi1, G1, s, acc, x1, E1, hacc, q3⟩
    by_cases hlt : i < (xs b).length
    · refine .inr ⟨Y.go i H1 (by rw [hlen]; exact hlt) (x1.trans E1.sub), fun H' => W (i + 1) H', fun H' w => ⟨_, ?_, rfl, hlt, w⟩, fun w H2 hy => ?_⟩
      · omega
      · obtain ⟨us, hus, rus, Eh⟩ := E1.hideIn hMo hH0
        have hd : ((xs b).map ea)[i]? = some (ea (xs b)[i]) := by rw [List.getElem?_map, List.getElem?_eq_getElem hlt]; rfl
        obtain ⟨G2, x2, E2, r2⟩ := Y.yld _ i G1 H1 σ (ρS s) w H2 x1 Eh hy _ hd
        rw [List.drop_eq_getElem_cons hlt, compR] at q3
        generalize hx : (xs b)[i] = x at q3 r2
        have Eb : En K _ G2 H2 (wipe σ vs) (blot 0 vs (ρS s)) [] := E2.inB vs (hpl s) (hna s) (wipe_length σ vs) fun j hj => wipe_out hj
        refine ⟨B.hide p (.lst us), x, s, rfl, G2, Eb, r2, fun σ2 h2 l2 E3 => ?_⟩
        have l2' : σ2.length = σ.length := l2.trans (wipe_length σ vs)
        have k2 : ∀ j, j ∉ vs → σ2[j]? = σ[j]? := fun j hj => by
          rw [h2 j fun z => hj (hts j z), wipe_out hj]
        refine ⟨wipe_eq l2' k2, B.hide p (.lst us), x, s, rfl, G2, E3, ?_⟩
        unfold compF at q3
        have q4 := R.post_bind.mp (R.post_bind.mp q3)
        refine R.post_mono q4 fun d q5 G3 H3 x3 E3' => ?_
        cases hbn : bn d with
        | false =>
          rw [if_neg (by decide)]
          rw [hbn, if_neg (by decide)] at q5
          have Eo := E2.outB E3' x3 vs (hpl s) (hplB x s) (hna s) (hnaB x s) k2 l2'
          rw [hun x s s] at Eo
          have x13 := x2.trans x3
          obtain ⟨g1, g2, g3⟩ := Eo.hideOut hMo hH0 hG0 (RpAll.ex x13 rus) (hna s)
          have Ef := g3 us (acc.map en) (RpAll.ex x13 rus)
          rw [upd_id g1] at Ef
          exact ⟨G3, s, acc, x1.trans x13, Ef, by omega, R.post_mono q5 fun r h w G4 H4 x4 E4 => h w G4 H4 (x13.trans x4) E4⟩
        | true =>
          rw [if_pos rfl]
          rw [hbn, if_pos rfl] at q5
          refine ⟨B.hide p (.lst us), x, s, rfl, G3, E3', R.post_mono (R.post_bind.mp q5) fun y q6 w2 G4 H4 x4 E4 => ?_⟩
          have Eo := E2.outB E4.pop (x3.trans x4) vs (hpl s) (hplB x _) (hna s) (hnaB x _) k2 l2'
          rw [hun x s (st y)] at Eo
          have x14 := x2.trans (x3.trans x4)
          obtain ⟨g1, g2, g3⟩ := Eo.hideOut hMo hH0 hG0 (RpAll.ex x14 rus) (hna _)
          have Ef := g3 (us ++ [w2]) (acc.map en ++ [en (v y)]) ((RpAll.ex x14 rus).append (.cons E4.top .nil))
          have hl : us.length = acc.length := by rw [rus.len, List.length_map]
          refine ⟨us, g1, by omega, G4, st y, acc ++ [v y], x1.trans x14, ?_, by rw [List.length_append]; simp; omega, R.post_mono q6 fun r h w G5 H5 x5 E5 => h w G5 H5 (x14.trans x5) E5⟩
          show En K B G4 _ σ _ [(_, .own 0 (.lst (((acc ++ [v y]).map en).map OT.dat)))]
          rw [List.map_append (f := en)]
          exact Ef
    · refine .inl ⟨Y.stop i H1 (by rw [hlen]; omega) (x1.trans E1.sub), ?_⟩
      rw [List.drop_eq_nil_of_le (by omega)] at q3
      exact q3 _ G1 H1 (Ex.refl _) E1
theorem PTs_ex {X : Cx} {es : List Expr} {ι : Type} {t : ι → TT} (h : ∀ i, PTs X es (t i)) : PTs X es (fun σ H Q => ∃ i, t i σ H Q) := ⟨fun pins s σ H Q I ⟨i, q⟩ => (h i).run pins s σ H Q I q⟩
/-- [elt for tg in it if ..] -/
theorem je_lc {α S γ δ ε β0 : Type} {ifs : List Expr} {sc : Scope} {m : R β0} {xs : β0 → List α} {ea : α → D} {ρ1 : β0 → List Slot} (own : List (Str × Nat)) {ts : List Nat} (en : γ → D) (ρS : S → List Slot) (s0 : β0 → S) (ρB : α → S → List Slot) {c : α → S → R δ} {bn : δ → Bool} {me : α → S → R ε} (v : ε → γ) (st : ε → S)
    (hc : X.calm = true) (hN : X.N.Nodup) (hi : JI X B ρ tg it m (fun b => (xs b).map ea) ρ1) (ok : BlkOk X.N X.env.scope sc own) (hw : ∀ b, ρ1 b = ρS (s0 b))
    (hg : Blk X sc fun X' => ∀ B' : Base, B'.rs = B.rs → ∀ x s, JN X' B' (blot 0 (own.map (·.2)) (ρS s)) tg (ea x) ts (ρB x s))
    (ht : Blk X sc fun X' => ∀ B' : Base, B'.rs = B.rs → ∀ x s, JTs X' B' (ρB x s) ifs (c x s) bn)
    (he : Blk X sc fun X' => ∀ B' : Base, B'.rs = B.rs → ∀ x s, JE X' B' (ρB x s) elt (me x s) (fun y => .val (en (v y))) (fun y => ρB x (st y)))
    (hpl : ∀ s, plainAt 0 (own.map (·.2)) (ρS s) = true := by intro _; rfl) (hna : ∀ s, noAlis (ρS s) = true := by intro _; rfl) (hts : ∀ i ∈ ts, i ∈ own.map (·.2) := by decide) (hplB : ∀ x s, plainAt 0 (own.map (·.2)) (ρB x s) = true := by intro _ _; rfl)
    (hnaB : ∀ x s, noAlis (ρB x s) = true := by intro _ _; rfl) (hun : ∀ x s s', unblot 0 (own.map (·.2)) (ρS s) (ρB x s') = ρS s' := by intro _ _ _; rfl) (hs : ∀ x, foldedSetIterable it X.env x = pure x := by intro _; rfl) :
    JE X B ρ (.ListComp elt [⟨tg, it, ifs, 0⟩] sc pos) (m.bind fun b => (R.guard ((xs b).length ≤ sizeLine)).bind fun _ => compR (compF c bn me v st) (xs b) [] (s0 b)) (fun p => .own 0 (oL en p.1)) (fun p => ρS p.2) := by
  refine PE_imp (pe_lc (own := own) hc hN hi ok (fun s H C cl fp => ?_) (fun s H C cl fp => ?_) (fun s H C cl fp => ?_) hs) fun σ H Q q => tlc_of (ts := ts) (ρB := ρB) (c := c) (bn := bn) (me := me) (v := v) (st := st) hw hpl hna hts hplB hnaB hun q
  · exact ⟨fun pins s σ H v u Q I r ⟨B', x, s', h, q⟩ => (hg _ _ _ _ _ B' h x s').run pins s σ H v u Q I r q⟩
  · exact ⟨fun pins s σ H Q I ⟨B', x, s', h, q⟩ => (ht _ _ _ _ _ B' h x s').run pins s σ H Q I q⟩
  · exact ⟨fun pins s σ H Q I ⟨B', x, s', h, q⟩ => (he _ _ _ _ _ B' h x s').run pins s σ H Q I q⟩
/-- y = [..] on one line -/
theorem j1_setLc (i : Nat) {y : Str} {py spos : Pos} {α S γ δ ε β0 : Type} {ifs : List Expr} {sc : Scope} {m : R β0} {xs : β0 → List α} {ea : α → D} {ρ1 : β0 → List Slot} (own : List (Str × Nat)) {ts : List Nat} (en : γ → D) (ρS : S → List Slot) (s0 : β0 → S) (ρB : α → S → List Slot) {c : α → S → R δ} {bn : δ → Bool} {me : α → S → R ε} (v : ε → γ) (st : ε → S)
    (hc : X.calm = true) (hN : X.N.Nodup) (hi : JI X B ρ tg it m (fun b => (xs b).map ea) ρ1) (ok : BlkOk X.N X.env.scope sc own) (hw : ∀ b, ρ1 b = ρS (s0 b))
    (hg : Blk X sc fun X' => ∀ B' : Base, B'.rs = B.rs → ∀ x s, JN X' B' (blot 0 (own.map (·.2)) (ρS s)) tg (ea x) ts (ρB x s))
    (ht : Blk X sc fun X' => ∀ B' : Base, B'.rs = B.rs → ∀ x s, JTs X' B' (ρB x s) ifs (c x s) bn)
    (he : Blk X sc fun X' => ∀ B' : Base, B'.rs = B.rs → ∀ x s, JE X' B' (ρB x s) elt (me x s) (fun y => .val (en (v y))) (fun y => ρB x (st y)))
    (hy : X.N[i]? = some y := by rfl) (hyl : X.env.scope.names.lookup y = some .local := by rfl) (hsw : swapsWith (.ListComp elt [⟨tg, it, ifs, 0⟩] sc pos) (some (.Name y py)) spos.line X.env = pure true := by exact sw_true rfl rfl rfl (by decide +kernel))
    (hpl : ∀ s, plainAt 0 (own.map (·.2)) (ρS s) = true := by intro _; rfl) (hna : ∀ s, noAlis (ρS s) = true := by intro _; rfl) (hts : ∀ i ∈ ts, i ∈ own.map (·.2) := by decide) (hplB : ∀ x s, plainAt 0 (own.map (·.2)) (ρB x s) = true := by intro _ _; rfl)
    (hnaB : ∀ x s, noAlis (ρB x s) = true := by intro _ _; rfl) (hun : ∀ x s s', unblot 0 (own.map (·.2)) (ρS s) (ρB x s') = ρS s' := by intro _ _ _; rfl) (hs : ∀ x, foldedSetIterable it X.env x = pure x := by intro _; rfl)
    (hlt : ∀ s, i < (ρS s).length := by intro _; exact of_decide_eq_true rfl) (hal : ∀ s, noAli i (ρS s) = true := by intro _; rfl) :
    J1 X B ρ (.Assign [.Name y py] (.ListComp elt [⟨tg, it, ifs, 0⟩] sc pos) spos) (m.bind fun b => (R.guard ((xs b).length ≤ sizeLine)).bind fun _ => compR (compF c bn me v st) (xs b) [] (s0 b)) (fun p => (ρS p.2).set i (.own 0 (oL en p.1))) := by
  have h1 := ps_setLc (X := X) (i := i) (own := own) (spos := spos) (py := py) (y := y) (elt := elt) (pos := pos) (g := fun w σ H Q => ∃ B' x s, B'.rs = B.rs ∧ tJN X.K B' (blot 0 (own.map (·.2)) (ρS s)) (ea x) ts (ρB x s) w σ H Q) (tt := fun σ H Q => ∃ B' x s, B'.rs = B.rs ∧ tJT X.K B' (ρB x s) (c x s) bn (fun _ => ρB x s) σ H Q)
    (te := fun σ H Q => ∃ B' x s, B'.rs = B.rs ∧ tJ X.K B' (ρB x s) (me x s) (fun y => .val (en (v y))) (fun y => ρB x (st y)) σ H Q) hc hN hy hyl hsw hi ok
    (fun s H C cl fp => ⟨fun pins s σ H v u Q I r ⟨B', x, s', h, q⟩ => (hg _ _ _ _ _ B' h x s').run pins s σ H v u Q I r q⟩)
    (fun s H C cl fp => ⟨fun pins s σ H Q I ⟨B', x, s', h, q⟩ => (ht _ _ _ _ _ B' h x s').run pins s σ H Q I q⟩)
    (fun s H C cl fp => ⟨fun pins s σ H Q I ⟨B', x, s', h, q⟩ => (he _ _ _ _ _ B' h x s').run pins s σ H Q I q⟩) hs
  refine PS_imp h1 fun D σ H ⟨G, E, q⟩ => ?_
  show tLc _ _ _ _ _ σ H (fun x H1 => D.nx (σ.set i (some x)) H1)
  refine tlc_of (ts := ts) (ρB := ρB) (c := c) (bn := bn) (me := me) (v := v) (st := st) (en := en) (ρS := ρS) (s0 := s0) hw hpl hna hts hplB hnaB hun ⟨G, E, R.post_mono q fun p q1 w G' H' x E' => q1 _ G' H' x (E'.set (hlt _) (fun _ _ z => nomatch z) (hal _))⟩
end
end DL

/-! DL11: more expressions -/
namespace DL
open PySem PySem.Spec L2

/-! ### comprehensions whose parts are pure -/
theorem compR_pure {α S γ : Type} (t : α → Bool) (f : α → γ) : ∀ (xs : List α) (acc : List γ) (s : S), compR (compF (fun x (_ : S) => R.ok (t x)) (fun b => b) (fun x s => R.ok (f x, s)) Prod.fst Prod.snd) xs acc s = .ok (acc ++ (xs.filter t).map f, s)
  | [], acc, s => by rw [compR, List.filter_nil, List.map_nil, List.append_nil]
  | x :: xs, acc, s => by
    have e : compF (fun x (_ : S) => R.ok (t x)) (fun b => b) (fun x s => R.ok (f x, s)) Prod.fst Prod.snd x s = .ok (if t x = true then (some (f x), s) else (none, s)) := by
      cases h : t x <;> simp [compF, R.bind, h]
    rw [compR, e]
    cases h : t x with
    | true =>
      rw [if_pos rfl, List.filter_cons_of_pos h, List.map_cons]
      have := compR_pure t f xs (acc ++ [f x]) s
      rw [List.append_assoc] at this
      exact this
    | false =>
      rw [if_neg (by decide), List.filter_cons_of_neg (by rw [h]; decide)]
      exact compR_pure t f xs acc s
section
variable {X : Cx} {B : Base} {ρ : List Slot} {pos : Pos} {e a b tg it elt : Expr} {es : List Expr}
theorem je_pe {α : Type} {en : α → D} (v : α) (h : JP X B ρ e (en v)) : JE X B ρ e (.ok v) (fun y => .val (en y)) (fun _ => ρ) := h
theorem je_mapS {α β S : Type} {m : R β} {en : α → D} {v : β → α} {st : β → S} {ρ' : S → List Slot} (h : JE X B ρ e m (fun b => .val (en (v b))) (fun b => ρ' (st b))) : JE X B ρ e (m.bind fun b => .ok (v b, st b)) (fun p => .val (en p.1)) (fun p => ρ' p.2) :=
  PE_imp h fun σ H Q ⟨G, E, q⟩ => ⟨G, E, R.post_mono (R.post_bind.mp q) fun b k => k⟩
/-- [f(x) for x in it if t(x)] -/
theorem je_lcP {α γ β0 : Type} {ifs : List Expr} {sc : Scope} {m : R β0} {xs : β0 → List α} {ea : α → D} (own : List (Str × Nat)) {ts : List Nat} (en : γ → D) (ρB : α → List Slot) (t : α → Bool) (f : α → γ)
    (hc : X.calm = true) (hN : X.N.Nodup) (hi : JI X B ρ tg it m (fun b => (xs b).map ea) (fun _ => ρ)) (ok : BlkOk X.N X.env.scope sc own)
    (hg : Blk X sc fun X' => ∀ B' : Base, B'.rs = B.rs → ∀ x, JN X' B' (blot 0 (own.map (·.2)) ρ) tg (ea x) ts (ρB x))
    (ht : Blk X sc fun X' => ∀ B' : Base, B'.rs = B.rs → ∀ x, JTs X' B' (ρB x) ifs (.ok (t x)) (fun b => b))
    (he : Blk X sc fun X' => ∀ B' : Base, B'.rs = B.rs → ∀ x, JP X' B' (ρB x) elt (en (f x)))
    (hpl : plainAt 0 (own.map (·.2)) ρ = true := by rfl) (hna : noAlis ρ = true := by rfl) (hts : ∀ i ∈ ts, i ∈ own.map (·.2) := by decide) (hplB : ∀ x, plainAt 0 (own.map (·.2)) (ρB x) = true := by intro _; rfl)
    (hnaB : ∀ x, noAlis (ρB x) = true := by intro _; rfl) (hun : ∀ x, unblot 0 (own.map (·.2)) ρ (ρB x) = ρ := by intro _; rfl) (hs : ∀ x, foldedSetIterable it X.env x = pure x := by intro _; rfl) :
    JE X B ρ (.ListComp elt [⟨tg, it, ifs, 0⟩] sc pos) (m.bind fun b => (R.guard ((xs b).length ≤ sizeLine)).bind fun _ => .ok b) (fun b => .own 0 (oL en (((xs b).filter t).map f))) (fun _ => ρ) := by
  have h := je_lc (X := X) (B := B) (ρ := ρ) (pos := pos) (S := Unit) (xs := xs) (ea := ea) (ts := ts) own en (fun _ => ρ) (fun _ => ()) (fun x _ => ρB x) (c := fun x _ => R.ok (t x)) (bn := fun b => b) (me := fun x s => R.ok (f x, s)) Prod.fst Prod.snd hc hN hi ok (fun _ => rfl)
    (fun s H C cl fp B' h x _ => hg s H C cl fp B' h x) (fun s H C cl fp B' h x _ => ht s H C cl fp B' h x) (fun s H C cl fp B' h x _ => he s H C cl fp B' h x) (fun _ => hpl) (fun _ => hna) hts (fun x _ => hplB x) (fun x _ => hnaB x) (fun x _ _ => hun x) hs
  refine PE_imp h fun σ H Q ⟨G, E, q⟩ => ⟨G, E, ?_⟩
  refine R.post_bind.mpr (R.post_mono (R.post_bind.mp q) fun b q1 => R.post_bind.mpr (R.post_mono (R.post_bind.mp q1) fun u q2 => ?_))
  rw [compR_pure]
  rw [List.nil_append]
  exact q2
theorem j1_setLcP (i : Nat) {y : Str} {py spos : Pos} {α γ β0 : Type} {ifs : List Expr} {sc : Scope} {m : R β0} {xs : β0 → List α} {ea : α → D} (own : List (Str × Nat)) {ts : List Nat} (en : γ → D) (ρB : α → List Slot) (t : α → Bool) (f : α → γ)
    (hc : X.calm = true) (hN : X.N.Nodup) (hi : JI X B ρ tg it m (fun b => (xs b).map ea) (fun _ => ρ)) (ok : BlkOk X.N X.env.scope sc own)
    (hg : Blk X sc fun X' => ∀ B' : Base, B'.rs = B.rs → ∀ x, JN X' B' (blot 0 (own.map (·.2)) ρ) tg (ea x) ts (ρB x))
    (ht : Blk X sc fun X' => ∀ B' : Base, B'.rs = B.rs → ∀ x, JTs X' B' (ρB x) ifs (.ok (t x)) (fun b => b))
    (he : Blk X sc fun X' => ∀ B' : Base, B'.rs = B.rs → ∀ x, JP X' B' (ρB x) elt (en (f x)))
    (hy : X.N[i]? = some y := by rfl) (hyl : X.env.scope.names.lookup y = some .local := by rfl) (hsw : swapsWith (.ListComp elt [⟨tg, it, ifs, 0⟩] sc pos) (some (.Name y py)) spos.line X.env = pure true := by exact sw_true rfl rfl rfl (by decide +kernel))
    (hpl : plainAt 0 (own.map (·.2)) ρ = true := by rfl) (hna : noAlis ρ = true := by rfl) (hts : ∀ i ∈ ts, i ∈ own.map (·.2) := by decide) (hplB : ∀ x, plainAt 0 (own.map (·.2)) (ρB x) = true := by intro _; rfl)
    (hnaB : ∀ x, noAlis (ρB x) = true := by intro _; rfl) (hun : ∀ x, unblot 0 (own.map (·.2)) ρ (ρB x) = ρ := by intro _; rfl) (hs : ∀ x, foldedSetIterable it X.env x = pure x := by intro _; rfl)
    (hlt : i < ρ.length := by exact of_decide_eq_true rfl) (hal : noAli i ρ = true := by rfl) :
    J1 X B ρ (.Assign [.Name y py] (.ListComp elt [⟨tg, it, ifs, 0⟩] sc pos) spos) (m.bind fun b => (R.guard ((xs b).length ≤ sizeLine)).bind fun _ => .ok b) (fun b => ρ.set i (.own 0 (oL en (((xs b).filter t).map f)))) := by
  have h := j1_setLc (X := X) (B := B) (ρ := ρ) (pos := pos) (spos := spos) (py := py) (y := y) i (S := Unit) (xs := xs) (ea := ea) (ts := ts) own en (fun _ => ρ) (fun _ => ()) (fun x _ => ρB x) (c := fun x _ => R.ok (t x)) (bn := fun b => b) (me := fun x s => R.ok (f x, s)) Prod.fst Prod.snd hc hN hi ok (fun _ => rfl)
    (fun s H C cl fp B' h x _ => hg s H C cl fp B' h x) (fun s H C cl fp B' h x _ => ht s H C cl fp B' h x) (fun s H C cl fp B' h x _ => he s H C cl fp B' h x) hy hyl hsw (fun _ => hpl) (fun _ => hna) hts (fun x _ => hplB x) (fun x _ => hnaB x) (fun x _ _ => hun x) hs (fun _ => hlt) (fun _ => hal)
  refine PS_imp h fun D σ H ⟨G, E, q⟩ => ⟨G, E, ?_⟩
  refine R.post_bind.mpr (R.post_mono (R.post_bind.mp q) fun b q1 => R.post_bind.mpr (R.post_mono (R.post_bind.mp q1) fun u q2 => ?_))
  rw [compR_pure]
  rw [List.nil_append]
  exact q2
/-! ### and, or with owned things that change -/
variable {rest : List Expr}
theorem jt_mapS {β S : Type} {m : R β} {bn : β → Bool} {st : β → S} {ρS : S → List Slot} (h : JT X B ρ e m bn (fun b => ρS (st b))) : JT X B ρ e (m.bind fun b => .ok (bn b, st b)) (fun p => p.1) (fun p => ρS p.2) :=
  PT_imp h fun σ H Q ⟨G, E, q⟩ => ⟨G, E, R.post_mono (R.post_bind.mp q) fun b k => k⟩
theorem jw_andS {α S : Type} {ma : R α} {xa : α → Bool} (st : α → S) (ρS : S → List Slot) {mb : α → R (Bool × S)} (ha : JT X B ρ a ma xa (fun x => ρS (st x))) (hb : ∀ x, JW X B (ρS (st x)) (.BoolOp .And (b :: rest) pos) (mb x) (fun p => p.1) (fun p => ρS p.2)) :
    JW X B ρ (.BoolOp .And (a :: b :: rest) pos) (ma.bind fun x => if xa x = true then mb x else .ok (false, st x)) (fun p => p.1) (fun p => ρS p.2) := by
  have hb' : PW X (.BoolOp .And (b :: rest) pos) (fun σ H Q => ∃ x, tJT X.K B (ρS (st x)) (mb x) (fun p => p.1) (fun p => ρS p.2) σ H Q) := ⟨fun wh pins s σ H Q I ⟨x, q⟩ => (hb x).run wh pins s σ H Q I q⟩
  exact PW_imp (pw_and ha hb') fun σ H Q ⟨G, E, q⟩ => ⟨G, E, R.post_mono (R.post_bind.mp q) fun x k G1 H1 x1 E1 => by
    cases hx : xa x with
    | true =>
      rw [if_pos hx] at k
      exact ⟨x, G1, E1, R.post_mono k fun b k G2 H2 x2 E2 => k G2 H2 (x1.trans x2) E2⟩
    | false =>
      rw [if_neg (by rw [hx]; decide)] at k
      exact k G1 H1 x1 E1⟩
theorem jw_orS {α S : Type} {ma : R α} {xa : α → Bool} (st : α → S) (ρS : S → List Slot) {mb : α → R (Bool × S)} (ha : JT X B ρ a ma xa (fun x => ρS (st x))) (hb : ∀ x, JW X B (ρS (st x)) (.BoolOp .Or (b :: rest) pos) (mb x) (fun p => p.1) (fun p => ρS p.2)) :
    JW X B ρ (.BoolOp .Or (a :: b :: rest) pos) (ma.bind fun x => if xa x = true then .ok (true, st x) else mb x) (fun p => p.1) (fun p => ρS p.2) := by
  have hb' : PW X (.BoolOp .Or (b :: rest) pos) (fun σ H Q => ∃ x, tJT X.K B (ρS (st x)) (mb x) (fun p => p.1) (fun p => ρS p.2) σ H Q) := ⟨fun wh pins s σ H Q I ⟨x, q⟩ => (hb x).run wh pins s σ H Q I q⟩
  exact PW_imp (pw_or ha hb') fun σ H Q ⟨G, E, q⟩ => ⟨G, E, R.post_mono (R.post_bind.mp q) fun x k G1 H1 x1 E1 => by
    cases hx : xa x with
    | false =>
      rw [if_neg (by rw [hx]; decide)] at k
      exact ⟨x, G1, E1, R.post_mono k fun b k G2 H2 x2 E2 => k G2 H2 (x1.trans x2) E2⟩
    | true =>
      rw [if_pos hx] at k
      exact k G1 H1 x1 E1⟩
/-! ### data of any depth, compared -/
end
def toPy : D → PyData
  | .none => .none
  | .bool b => .bool b
  | .int i => .int i
  | .str s => .str s
  | .list xs => .list (toPys xs)
  | .tuple xs => .tuple (toPys xs)
  | .dict _ => .dict []
  | .scr ns => .list (ns.map PyData.int)
where toPys : List D → List PyData
  | [] => []
  | x :: xs => toPy x :: toPys xs
theorem dp_ints {K : PySem.W.Frag} {G : Hp} : ∀ ns : List Int, DpAll K G (ns.map V.int) (ns.map PyData.int)
  | [] => .nil
  | n :: ns => .cons (.int n) (dp_ints ns)
mutual
theorem Rp.dp {K : PySem.W.Frag} {G H : Hp} (e : Ex G H) : ∀ {v : V} {d : D}, Rp K G v d → (toPy d).canLay0 = true → Dp K H v (toPy d)
  | _, _, .non, _ => by
    rw [toPy]
    exact .non
  | _, _, .bl b, _ => by
    rw [toPy]
    exact .bl b
  | _, _, .int i, _ => by
    rw [toPy]
    exact .int i
  | _, _, .str x, _ => by
    rw [toPy]
    exact .str x
  | _, _, .lst h r, c => by
    rw [toPy] at c ⊢
    exact .lst (.inl (e.rd h)) (RpAll.dp e r (by simpa [PyData.canLay0] using c))
  | _, _, .tup h r, c => by
    rw [toPy] at c ⊢
    exact .tup (e.t h) (RpAll.dp e r (by simpa [PyData.canLay0] using c))
  | _, _, .scr h, _ => by
    rw [toPy]
    exact .lst (e.l h) (dp_ints _)
  | _, _, .dK _ _, c => by
    rw [toPy] at c
    simp [PyData.canLay0] at c
  | _, _, .dT _ _, c => by
    rw [toPy] at c
    simp [PyData.canLay0] at c
theorem RpAll.dp {K : PySem.W.Frag} {G H : Hp} (e : Ex G H) : ∀ {v : List V} {d : List D}, RpAll K G v d → PyData.canLayAll0 (toPy.toPys d) = true → DpAll K H v (toPy.toPys d)
  | _, _, .nil, _ => by
    rw [toPy.toPys]
    exact .nil
  | _, _, .cons h r, c => by
    rw [toPy.toPys] at c ⊢
    rw [PyData.canLayAll0, Bool.and_eq_true] at c
    exact .cons (Rp.dp e h c.1) (RpAll.dp e r c.2)
end
/-- encodings whose values are equal just where the data are, at most n deep -/
structure EqE {α : Type} [DecidableEq α] (n : Nat) (f : α → D) : Prop where
  lay : ∀ x, (toPy (f x)).canLay0 = true
  dep : ∀ x, (toPy (f x)).depth ≤ n
  eqv : ∀ x y, PyData.eqv (toPy (f x)) (toPy (f y)) = decide (x = y)
theorem EqE.shaped {α : Type} [DecidableEq α] {n : Nat} {f : α → D} (h : EqE n f) (hn : n ≤ 64) (x : α) : SeqAt.shaped (toPy (f x)) = true := by
  unfold SeqAt.shaped
  rw [h.lay x, Bool.true_and]
  exact decide_eq_true (Nat.le_trans (h.dep x) hn)
theorem ee_int : EqE 0 D.int := ⟨fun _ => by simp [toPy, PyData.canLay0], fun _ => by simp [toPy, PyData.depth], fun x y => by
  simp only [toPy, PyData.eqv]
  exact Bool.beq_eq_decide_eq ..⟩
theorem ee_bool : EqE 0 D.bool := ⟨fun _ => by simp [toPy, PyData.canLay0], fun _ => by simp [toPy, PyData.depth], fun x y => by
  simp only [toPy, PyData.eqv]
  exact Bool.beq_eq_decide_eq ..⟩
theorem ee_p2 {α β : Type} [DecidableEq α] [DecidableEq β] {n : Nat} {f : α → D} {g : β → D} (hf : EqE n f) (hg : EqE n g) : EqE (n + 1) (eP2 f g) := by
  refine ⟨fun x => ?_, fun x => ?_, fun x y => ?_⟩
  · simp [toPy, toPy.toPys, PyData.canLay0, PyData.canLayAll0, hf.lay, hg.lay]
  · have h1 := hf.dep x.1
    have h2 := hg.dep x.2
    simp [toPy, toPy.toPys, PyData.depth, PyData.depthAll]
    omega
  · obtain ⟨a, b⟩ := x
    obtain ⟨c, d⟩ := y
    simp only [toPy, toPy.toPys, PyData.eqv, PyData.eqvAll, hf.eqv, hg.eqv, Bool.and_true]
    rw [← Bool.decide_and]
    exact decide_eq_decide.mpr ⟨fun h => by rw [h.1, h.2], fun h => by
      injection h with h1 h2
      exact ⟨h1, h2⟩⟩
theorem ee_p3 {α β γ : Type} [DecidableEq α] [DecidableEq β] [DecidableEq γ] {n : Nat} {f : α → D} {g : β → D} {h : γ → D} (hf : EqE n f) (hg : EqE n g) (hh : EqE n h) : EqE (n + 1) (eP3 f g h) := by
  refine ⟨fun x => ?_, fun x => ?_, fun x y => ?_⟩
  · simp [toPy, toPy.toPys, PyData.canLay0, PyData.canLayAll0, hf.lay, hg.lay, hh.lay]
  · have h1 := hf.dep x.1
    have h2 := hg.dep x.2.1
    have h3 := hh.dep x.2.2
    simp [toPy, toPy.toPys, PyData.depth, PyData.depthAll]
    omega
  · obtain ⟨a, b, c⟩ := x
    obtain ⟨a', b', c'⟩ := y
    simp only [toPy, toPy.toPys, PyData.eqv, PyData.eqvAll, hf.eqv, hg.eqv, hh.eqv, Bool.and_true]
    rw [← Bool.decide_and, ← Bool.decide_and]
    exact decide_eq_decide.mpr ⟨fun h => by rw [h.1, h.2.1, h.2.2], fun h => by
      injection h with h1 h2
      injection h2 with h2 h3
      exact ⟨h1, h2, h3⟩⟩
section
variable {α : Type} [DecidableEq α] {n : Nat} {f : α → D}
theorem ee_lay (h : EqE n f) : ∀ l : List α, PyData.canLayAll0 (toPy.toPys (l.map f)) = true
  | [] => by simp [toPy.toPys, PyData.canLayAll0]
  | x :: l => by
    rw [List.map_cons, toPy.toPys, PyData.canLayAll0, h.lay, ee_lay h l]
    rfl
theorem ee_dep (h : EqE n f) : ∀ l : List α, PyData.depthAll (toPy.toPys (l.map f)) ≤ n
  | [] => by simp [toPy.toPys, PyData.depthAll]
  | x :: l => by
    have h1 := h.dep x
    have h2 := ee_dep h l
    rw [List.map_cons, toPy.toPys, PyData.depthAll]
    omega
theorem ee_eqv (h : EqE n f) : ∀ l m : List α, PyData.eqvAll (toPy.toPys (l.map f)) (toPy.toPys (m.map f)) = decide (l = m)
  | [], [] => by simp [toPy.toPys, PyData.eqvAll]
  | [], _ :: _ => by simp [toPy.toPys, PyData.eqvAll]
  | _ :: _, [] => by simp [toPy.toPys, PyData.eqvAll]
  | x :: l, y :: m => by
    rw [List.map_cons, List.map_cons, toPy.toPys, toPy.toPys, PyData.eqvAll, h.eqv, ee_eqv h l m, ← Bool.decide_and]
    exact decide_eq_decide.mpr ⟨fun h => by rw [h.1, h.2], fun h => by
      injection h with h1 h2
      exact ⟨h1, h2⟩⟩
theorem ee_T (h : EqE n f) : EqE (n + 1) (eT f) := ⟨fun l => by
  rw [toPy, PyData.canLay0]
  exact ee_lay h l, fun l => by
  rw [toPy, PyData.depth]
  exact Nat.succ_le_succ (ee_dep h l), fun l m => by
  rw [toPy, toPy, PyData.eqv]
  exact ee_eqv h l m⟩
theorem ee_L (h : EqE n f) : EqE (n + 1) (eL f) := ⟨fun l => by
  rw [toPy, PyData.canLay0]
  exact ee_lay h l, fun l => by
  rw [toPy, PyData.depth]
  exact Nat.succ_le_succ (ee_dep h l), fun l m => by
  rw [toPy, toPy, PyData.eqv]
  exact ee_eqv h l m⟩
variable {K : PySem.W.Frag} {B : Base}
theorem od_eqD (h : EqE n f) (hn : n ≤ 64 := by decide) {x y : α} : OpD K B (rEqD K) (f x) (f y) (.ok ()) (fun _ => .val (.bool (decide (x = y)))) :=
  od_val0 (w := .bl (decide (x = y))) (fun G H vx vy Q e hx hy q => ⟨_, _, hx.dp e (h.lay x), hy.dp e (h.lay y), h.shaped hn x, h.shaped hn y, by rw [h.eqv]; exact q⟩) fun _ => .bl _
theorem od_neD (h : EqE n f) (hn : n ≤ 64 := by decide) {x y : α} : OpD K B (rNeD K) (f x) (f y) (.ok ()) (fun _ => .val (.bool (!decide (x = y)))) :=
  od_val0 (w := .bl (!decide (x = y))) (fun G H vx vy Q e hx hy q => ⟨_, _, hx.dp e (h.lay x), hy.dp e (h.lay y), h.shaped hn x, h.shaped hn y, by rw [h.eqv]; exact q⟩) fun _ => .bl _
theorem any_eqv (h : EqE n f) (x : α) : ∀ l : List α, ((toPy.toPys (l.map f)).any fun z => PyData.eqv z (toPy (f x))) = decide (x ∈ l)
  | [] => by simp [toPy.toPys]
  | y :: l => by
    rw [List.map_cons, toPy.toPys, List.any_cons, h.eqv, any_eqv h x l, ← Bool.decide_or]
    exact decide_eq_decide.mpr ⟨fun h => by
      rcases h with h | h
      · rw [h]
        exact List.mem_cons_self
      · exact List.mem_cons_of_mem _ h, fun h => by
      rcases List.mem_cons.mp h with h | h
      · exact .inl h.symm
      · exact .inr h⟩
theorem od_inD (h : EqE n f) (hn : n + 1 ≤ 64 := by decide) {x : α} {l : List α} : OpD K B (rInD K) (f x) (eL f l) (.ok ()) (fun _ => .val (.bool (decide (x ∈ l)))) :=
  od_val0 (w := .bl (decide (x ∈ l))) (fun G H vx vy Q e hx hy q => by
    have hL := ee_L h
    have d2 := hy.dp e (hL.lay l)
    have s2 := hL.shaped hn l
    rw [toPy] at d2 s2
    exact ⟨_, _, hx.dp e (h.lay x), d2, h.shaped (by omega) x, s2, by rw [any_eqv h]; exact q⟩) fun _ => .bl _
theorem od_niD (h : EqE n f) (hn : n + 1 ≤ 64 := by decide) {x : α} {l : List α} : OpD K B (rNotInD K) (f x) (eL f l) (.ok ()) (fun _ => .val (.bool (!decide (x ∈ l)))) :=
  od_val0 (w := .bl (!decide (x ∈ l))) (fun G H vx vy Q e hx hy q => by
    have hL := ee_L h
    have d2 := hy.dp e (hL.lay l)
    have s2 := hL.shaped hn l
    rw [toPy] at d2 s2
    exact ⟨_, _, hx.dp e (h.lay x), d2, h.shaped (by omega) x, s2, by rw [any_eqv h]; exact q⟩) fun _ => .bl _
end
/-! ### sums of tuples, greatest ones, lists made tuples -/
section
variable {K : PySem.W.Frag} {B : Base} {ρ : List Slot}
theorem od_catT {ds es : List D} (h1 : ds ≠ []) (h2 : es ≠ []) (h3 : ds.length + es.length ≤ 1000) : OpD K B (rCatT K) (.tuple ds) (.tuple es) (.ok ()) (fun _ => .val (.tuple (ds ++ es))) := fun G H σ ρ vx vy Q E hx hy q => by
  obtain ⟨a, xs, rfl, hS, hr⟩ := hx.tup_inv
  obtain ⟨b, ys, rfl, hS2, hr2⟩ := hy.tup_inv
  have l1 := hr.len
  have l2 := hr2.len
  refine ⟨a, b, xs, ys, rfl, rfl, E.sub.t hS, E.sub.t hS2, fun z => h1 (by rw [z] at l1; exact List.length_eq_zero_iff.mp l1.symm), by rw [l1, l2]; exact Nat.le_of_lt (small1000 h3), fun z => absurd (by rw [z] at l2; exact List.length_eq_zero_iff.mp l2.symm) h2, fun _ p hp => ?_⟩
  have e := Ex.new (o := HO.tup (xs ++ ys)) (E.sub.back hp)
  exact q _ _ _ e ((E.new hp _).push (.tup (.inl (.inl upd_same)) (RpAll.ex e (hr.append hr2))))
def maxL (ns : List Int) : Int := ns.foldl max (ns.headD 0)
def minL (ns : List Int) : Int := ns.foldl min (ns.headD 0)
theorem foldl_max (ns : List Int) : ∀ a : Int, a ≤ ns.foldl max a ∧ (∀ y ∈ ns, y ≤ ns.foldl max a) ∧ (ns.foldl max a = a ∨ ns.foldl max a ∈ ns) := by
  induction ns with
  | nil => exact fun a => ⟨Int.le_refl _, (fun _ m => nomatch m), .inl rfl⟩
  | cons x r ih =>
    intro a
    obtain ⟨h1, h2, h3⟩ := ih (max a x)
    rw [List.foldl_cons]
    refine ⟨by omega, fun y m => ?_, ?_⟩
    · rcases List.mem_cons.mp m with rfl | m
      · omega
      · exact h2 y m
    · rcases h3 with h | h
      · rw [h]
        rcases Int.le_total a x with l | l
        · right
          rw [show max a x = x by omega]
          exact List.mem_cons_self
        · left
          omega
      · exact .inr (List.mem_cons_of_mem _ h)
theorem foldl_min (ns : List Int) : ∀ a : Int, ns.foldl min a ≤ a ∧ (∀ y ∈ ns, ns.foldl min a ≤ y) ∧ (ns.foldl min a = a ∨ ns.foldl min a ∈ ns) := by
  induction ns with
  | nil => exact fun a => ⟨Int.le_refl _, (fun _ m => nomatch m), .inl rfl⟩
  | cons x r ih =>
    intro a
    obtain ⟨h1, h2, h3⟩ := ih (min a x)
    rw [List.foldl_cons]
    refine ⟨by omega, fun y m => ?_, ?_⟩
    · rcases List.mem_cons.mp m with rfl | m
      · omega
      · exact h2 y m
    · rcases h3 with h | h
      · rw [h]
        rcases Int.le_total a x with l | l
        · left
          omega
        · right
          rw [show min a x = x by omega]
          exact List.mem_cons_self
      · exact .inr (List.mem_cons_of_mem _ h)
theorem maxL_is {ns : List Int} (h : ns ≠ []) : maxL ns ∈ ns ∧ ∀ y ∈ ns, y ≤ maxL ns := by
  cases ns with
  | nil => exact absurd rfl h
  | cons a r =>
    obtain ⟨h1, h2, h3⟩ := foldl_max r (max a a)
    show List.foldl max (max a a) r ∈ _ ∧ _
    refine ⟨?_, fun y m => ?_⟩
    · rcases h3 with h | h
      · rw [h, show max a a = a by omega]
        exact List.mem_cons_self
      · exact List.mem_cons_of_mem _ h
    · show y ≤ List.foldl max (max a a) r
      rcases List.mem_cons.mp m with rfl | m
      · omega
      · exact h2 y m
theorem minL_is {ns : List Int} (h : ns ≠ []) : minL ns ∈ ns ∧ ∀ y ∈ ns, minL ns ≤ y := by
  cases ns with
  | nil => exact absurd rfl h
  | cons a r =>
    obtain ⟨h1, h2, h3⟩ := foldl_min r (min a a)
    show List.foldl min (min a a) r ∈ _ ∧ _
    refine ⟨?_, fun y m => ?_⟩
    · rcases h3 with h | h
      · rw [h, show min a a = a by omega]
        exact List.mem_cons_self
      · exact List.mem_cons_of_mem _ h
    · show List.foldl min (min a a) r ≤ y
      rcases List.mem_cons.mp m with rfl | m
      · omega
      · exact h2 y m
theorem cb_maxL {ns : List Int} : CbD K B ρ (rMax K) [.val (eL D.int ns)] (R.guard (ns ≠ [])) (fun _ => .val (.int (maxL ns))) :=
  cb_val (w := .int (maxL ns)) (fun hc G H σ vs Q e ok q => by
    obtain ⟨v, rfl, r⟩ := ok.one
    obtain ⟨a, xs, rfl, hS, hr⟩ := r.lst_inv
    have hx := hr.ints
    subst hx
    refine ⟨a, ns, rfl, .inl (e.rd hS), List.length_pos_iff.mpr hc, fun m hm hle => ?_⟩
    obtain ⟨h1, h2⟩ := maxL_is hc
    rw [show m = maxL ns from Int.le_antisymm (h2 m hm) (hle _ h1)]
    exact q) fun _ => .int _
theorem cb_minL {ns : List Int} : CbD K B ρ (rMin K) [.val (eL D.int ns)] (R.guard (ns ≠ [])) (fun _ => .val (.int (minL ns))) :=
  cb_val (w := .int (minL ns)) (fun hc G H σ vs Q e ok q => by
    obtain ⟨v, rfl, r⟩ := ok.one
    obtain ⟨a, xs, rfl, hS, hr⟩ := r.lst_inv
    have hx := hr.ints
    subst hx
    refine ⟨a, ns, rfl, .inl (e.rd hS), List.length_pos_iff.mpr hc, fun m hm hle => ?_⟩
    obtain ⟨h1, h2⟩ := minL_is hc
    rw [show m = minL ns from Int.le_antisymm (hle _ h1) (h2 m hm)]
    exact q) fun _ => .int _
theorem cb_anyL {bs : List Bool} : CbD K B ρ (rAny K) [.val (eL D.bool bs)] (.ok ()) (fun _ => .val (.bool (bs.any id))) :=
  cb_val0 (w := .bl (bs.any id)) (fun G H σ vs Q e ok q => by
    obtain ⟨v, rfl, r⟩ := ok.one
    obtain ⟨a, xs, rfl, hS, hr⟩ := r.lst_inv
    have hx := hr.bools
    subst hx
    exact ⟨a, bs, rfl, .inl (e.rd hS), q⟩) fun _ => .bl _
theorem cb_allL {bs : List Bool} : CbD K B ρ (rAll K) [.val (eL D.bool bs)] (.ok ()) (fun _ => .val (.bool (bs.all id))) :=
  cb_val0 (w := .bl (bs.all id)) (fun G H σ vs Q e ok q => by
    obtain ⟨v, rfl, r⟩ := ok.one
    obtain ⟨a, xs, rfl, hS, hr⟩ := r.lst_inv
    have hx := hr.bools
    subst hx
    exact ⟨a, bs, rfl, .inl (e.rd hS), q⟩) fun _ => .bl _
theorem cb_sumL {ns : List Int} : CbD K B ρ (rSum K) [.val (eL D.int ns)] (.ok ()) (fun _ => .val (.int ns.sum)) :=
  cb_val0 (w := .int ns.sum) (fun G H σ vs Q e ok q => by
    obtain ⟨v, rfl, r⟩ := ok.one
    obtain ⟨a, xs, rfl, hS, hr⟩ := r.lst_inv
    have hx := hr.ints
    subst hx
    exact ⟨a, ns, rfl, .inl (e.rd hS), q⟩) fun _ => .int _
/-- tuple(a list) -/
theorem cb_tupL {α : Type} {f : α → D} {xs : List α} : CbD K B ρ (fun xs H Q => ∃ p ys, xs = [.ref p] ∧ ((SqL K H p ys ∧ ∀ l, H l = none → Q (.ref l) (upd H l (.tup ys))) ∨ (SqT K H p ys ∧ Q (.ref p) H))) [.val (eL f xs)] (.ok ()) (fun _ => .val (eT f xs)) := fun G H σ vs Q E ok q => by
  obtain ⟨v, rfl, r⟩ := ok.one
  obtain ⟨a, ys, rfl, hS, hr⟩ := r.lst_inv
  refine ⟨a, ys, rfl, .inl ⟨.inl (E.sub.rd hS), fun p hp => ?_⟩⟩
  have e := Ex.new (o := HO.tup ys) (E.sub.back hp)
  exact q _ _ _ e ((E.new hp _).push (.tup (.inl (.inl upd_same)) (RpAll.ex e hr)))
theorem cb_tupT {α : Type} {f : α → D} {xs : List α} : CbD K B ρ (fun xs H Q => ∃ p ys, xs = [.ref p] ∧ ((SqL K H p ys ∧ ∀ l, H l = none → Q (.ref l) (upd H l (.tup ys))) ∨ (SqT K H p ys ∧ Q (.ref p) H))) [.val (eT f xs)] (.ok ()) (fun _ => .val (eT f xs)) := fun G H σ vs Q E ok q => by
  obtain ⟨v, rfl, r⟩ := ok.one
  obtain ⟨a, ys, rfl, hS, hr⟩ := r.tup_inv
  exact ⟨a, ys, rfl, .inr ⟨E.sub.t hS, q _ G H (Ex.refl _) (E.push r)⟩⟩
/-- list(..): a new one -/
theorem cb_lstL {α : Type} {f : α → D} {xs : List α} : CbD K B ρ (fun xs H Q => ∃ p ys, xs = [.ref p] ∧ (SqL K H p ys ∨ SqT K H p ys) ∧ ∀ l, H l = none → Q (.ref l) (upd H l (.lst ys))) [.val (eL f xs)] (.ok ()) (fun _ => .own 0 (oL f xs)) := fun G H σ vs Q E ok q => by
  obtain ⟨v, rfl, r⟩ := ok.one
  obtain ⟨a, ys, rfl, hS, hr⟩ := r.lst_inv
  exact ⟨a, ys, rfl, .inl (.inl (E.sub.rd hS)), fun p hp => q _ G _ (Ex.refl _) (E.newL hp hr)⟩
theorem cb_lstT {α : Type} {f : α → D} {xs : List α} : CbD K B ρ (fun xs H Q => ∃ p ys, xs = [.ref p] ∧ (SqL K H p ys ∨ SqT K H p ys) ∧ ∀ l, H l = none → Q (.ref l) (upd H l (.lst ys))) [.val (eT f xs)] (.ok ()) (fun _ => .own 0 (oL f xs)) := fun G H σ vs Q E ok q => by
  obtain ⟨v, rfl, r⟩ := ok.one
  obtain ⟨a, ys, rfl, hS, hr⟩ := r.tup_inv
  exact ⟨a, ys, rfl, .inr (E.sub.t hS), fun p hp => q _ G _ (Ex.refl _) (E.newL hp hr)⟩
end
/-! ### owned lists: read as data for good, grown, unpacked -/
section
variable {X : Cx} {B : Base} {ρ : List Slot} {pos : Pos} {e : Expr}
/-- an owned local, as data from now on -/
theorem je_name (i : Nat) {x : Str} {α : Type} {f : α → D} {xs : List α} (h : ρ[i]? = some (.own 0 (oL f xs)) := by rfl) (hal : noAlis ρ = true := by rfl) (hN : X.N[i]? = some x := by rfl) (hv : Vis X.env.scope x := by first | exact Or.inl rfl | exact Or.inr (Or.inl rfl) | exact Or.inr (Or.inr rfl))
    (hd : (x == ("__debug__" : Str)) = false := by decide) (hcd : (x == ("__classdict__" : Str)) = false := by decide) : JE X B ρ (.Name x pos) (.ok ()) (fun _ => .own 0 (oL f xs)) (fun _ => ρ.set i .non) :=
  PE_imp (pv i hN hv hd hcd) fun σ H Q ⟨G, E, q⟩ => by
    obtain ⟨A, c, n, g⟩ := E.own
    obtain ⟨v, A1, A2, e1, hO, hl, c2, pm⟩ := Cells.take1 (show Cells X.K B G H σ ρ A from c) h
    exact ⟨v, e1, q v G H (Ex.refl _) ⟨E.anc, ⟨A1 ++ A2, .cons (.own hO hl.1 hl.2) c2, pm.nodup_iff.mp n, fun a m => g a (pm.mem_iff.mpr m)⟩, by rw [List.length_set]; exact E.len, fun k j p e => by
      by_cases hk : i = k
      · subst hk
        rw [List.getElem?_set_self (List.getElem?_eq_some_iff.mp h).1] at e
        cases e
      · rw [List.getElem?_set_ne hk] at e
        exact absurd e (noAlis_get hal)⟩⟩
/-- xs.append(e) -/
theorem je_app (i : Nat) {x : Str} {px ap : Pos} {l l0 : Nat} {os0 : List OT} {α β : Type} {f : α → D} (xs : β → List α) {m : R β} {y : β → α} {ρ' : β → List Slot} (he : JE X B ρ e m (fun b => .val (f (y b))) ρ') (h : ∀ b, (ρ' b)[i]? = some (.own l (oL f (xs b))) := by intro _; rfl) (hal : ∀ b, noAlis (ρ' b) = true := by intro _; rfl)
    (h0 : ρ[i]? = some (.own l0 (.lst os0)) := by rfl) (hN : X.N[i]? = some x := by rfl) (hv : Vis X.env.scope x := by first | exact Or.inl rfl | exact Or.inr (Or.inl rfl) | exact Or.inr (Or.inr rfl))
    (hd : (x == ("__debug__" : Str)) = false := by decide) (hcd : (x == ("__classdict__" : Str)) = false := by decide) (hst : starEach [e] X.env = (false, eval e X.env) :: starEach [] X.env := by rfl)
    (hbase : attributeBase (.Name x px) "append" X.env (eval (.Name x px) X.env) = eval (.Name x px) X.env := by rfl)
    (hone : ((backTo pos (starEach [e] X.env)).all (fun x => !x.1) && (backToKw pos (keywordEach [] X.env)).all (fun x => x.1.isSome) && decide ([e].length + ([] : List Keyword).length + (if ([] : List Keyword).isEmpty then 0 else 1) < 30)) = true := by rfl)
    (hline : (ap.endLine == pos.line) = true := by rfl) (hnil : (backTo pos (starEach [] X.env)).any (·.1) = false := by rfl) :
    JE X B ρ (.Call (.Attribute (.Name x px) "append" ap) [e] [] pos) (m.bind fun b => (R.guard ((xs b).length < sizeLine)).bind fun _ => .ok b) (fun _ => .val .none) (fun b => (ρ' b).set i (.own l (oL f (xs b ++ [y b])))) :=
  PE_imp (pe_bm PySem.F.plainAttrs_list PySem.F.slot_list_append PySem.F.type_list_append mt_append (pv (X := X) (pos := px) i hN hv hd hcd) (pa_cons he pa_nil hst) hbase hone hline hst hnil) fun σ H Q ⟨G, E, q⟩ => by
    obtain ⟨A, c, n, g⟩ := E.own
    obtain ⟨w, A1, A2, e1, hO, hl, c2, pm⟩ := Cells.take1 (show Cells X.K B G H σ ρ A from c) h0
    cases hO with
    | @lst a vs _ A3 ha hall =>
      refine ⟨.ref a, e1, .inl ⟨rfl, _, .inl (.inl ha)⟩, G, E, R.post_mono (R.post_bind.mp q) (fun b hb => ?_)⟩
      intro v G1 H1 x1 E1
      obtain ⟨p, vs1, g1, g2, g3, g4⟩ := E1.pop.ownD (h b) (hal b)
      have ep : p = a := by
        have z := g1.symm.trans e1
        injection z with z
        injection z with z
        injection z
      subst ep
      have hlen : vs1.length = (xs b).length := by
        rw [g3.len, List.length_map]
      obtain ⟨hz, q⟩ := R.post_guard (R.post_bind.mp hb)
      refine ⟨p, vs1, v, rfl, rfl, g2, by omega, q _ G1 _ x1 ?_⟩
      have hr : RpAll X.K G1 (vs1 ++ [v]) ((xs b).map f ++ [f (y b)]) := g3.append (.cons (E1.top) .nil)
      have z := g4 G1 H1 [] (vs1 ++ [v]) ((xs b).map f ++ [f (y b)]) E1.pop (Ex.refl _) g2 hr
      have ez : (oL f (xs b ++ [y b])) = .lst (((xs b).map f ++ [f (y b)]).map OT.dat) := by rw [oL, List.map_append]; rfl
      show En X.K B G1 (upd H1 p (.lst (vs1 ++ [v]))) σ ((ρ' b).set i (.own l (oL f (xs b ++ [y b])))) [(.non, .val .none)]
      rw [ez]
      exact z.push .non
end
end DL

/-! DL12: owned lists lent out for a while, or given up -/
namespace DL
open PySem PySem.Spec L2

mutual
/-- no list in it -/
def Flat : D → Prop
  | .none => True
  | .bool _ => True
  | .int _ => True
  | .str _ => True
  | .tuple ds => FlatL ds
  | _ => False
def FlatL : List D → Prop
  | [] => True
  | d :: ds => Flat d ∧ FlatL ds
end
mutual
def FlatO : OT → Prop
  | .dat d => Flat d
  | .lst os => FlatOL os
def FlatOL : List OT → Prop
  | [] => True
  | o :: os => FlatO o ∧ FlatOL os
end
theorem fl_tup {ds : List D} (h : FlatL ds) : Flat (.tuple ds) := by
  rw [Flat]
  exact h
theorem fl_lst {ds : List OT} (h : FlatOL ds) : FlatO (.lst ds) := by
  rw [FlatO]
  exact h
theorem fl_nil : FlatL [] := by
  rw [FlatL]
  trivial
theorem fl_cons {d : D} {ds : List D} (h : Flat d) (r : FlatL ds) : FlatL (d :: ds) := by
  rw [FlatL]
  exact ⟨h, r⟩
theorem fl_int (i : Int) : Flat (.int i) := by
  rw [Flat]
  trivial
theorem fl_bool (i : Bool) : Flat (.bool i) := by
  rw [Flat]
  trivial
theorem fl_str (i : Str) : Flat (.str i) := by
  rw [Flat]
  trivial
theorem fl_U (i : Unit) : Flat (eU i) := by
  rw [eU, Flat]
  trivial
theorem FlatL.of {α : Type} {f : α → D} (h : ∀ x, Flat (f x)) : ∀ xs : List α, FlatL (xs.map f)
  | [] => fl_nil
  | x :: xs => fl_cons (h x) (FlatL.of h xs)
theorem FlatOL.of {α : Type} {f : α → D} (h : ∀ x, Flat (f x)) : ∀ xs : List α, FlatOL ((xs.map f).map OT.dat)
  | [] => by
    rw [List.map_nil, List.map_nil, FlatOL]
    trivial
  | x :: xs => by
    rw [List.map_cons, List.map_cons, FlatOL, FlatO]
    exact ⟨h x, FlatOL.of h xs⟩
theorem fl_T {α : Type} {f : α → D} (h : ∀ x, Flat (f x)) (xs : List α) : Flat (eT f xs) := fl_tup (FlatL.of h xs)
theorem fl_oL {α : Type} {f : α → D} (h : ∀ x, Flat (f x)) (xs : List α) : FlatO (oL f xs) := fl_lst (FlatOL.of h xs)
theorem fl_P2 {α β : Type} {f : α → D} {g : β → D} (h : ∀ x, Flat (f x)) (k : ∀ x, Flat (g x)) (p : α × β) : Flat (eP2 f g p) := fl_tup (fl_cons (h _) (fl_cons (k _) fl_nil))
theorem fl_P3 {α β γ : Type} {f : α → D} {g : β → D} {r : γ → D} (h : ∀ x, Flat (f x)) (k : ∀ x, Flat (g x)) (l : ∀ x, Flat (r x)) (p : α × β × γ) : Flat (eP3 f g r p) := fl_tup (fl_cons (h _) (fl_cons (k _) (fl_cons (l _) fl_nil)))
theorem fl_P4 {α β γ δ : Type} {f : α → D} {g : β → D} {r : γ → D} {s : δ → D} (h : ∀ x, Flat (f x)) (k : ∀ x, Flat (g x)) (l : ∀ x, Flat (r x)) (m : ∀ x, Flat (s x)) (p : α × β × γ × δ) : Flat (eP4 f g r s p) := fl_tup (fl_cons (h _) (fl_cons (k _) (fl_cons (l _) (fl_cons (m _) fl_nil))))

section
variable {K : PySem.W.Frag} {G1 G2 H1 : Hp} {A : List Addr}
/-- what has no list in it does without the lent lists -/
theorem SqT.less (k : ∀ a u, G1 a = some u → (∀ vs, u ≠ .lst vs) → G2 a = some u) {a : Addr} {xs : List V} (h : SqT K G1 a xs) : SqT K G2 a xs := by
  rcases h with h | h
  · rcases h with h | ⟨o, h⟩
    · exact .inl (.inl (k _ _ h (fun _ z => nomatch z)))
    · exact .inl (.inr ⟨o, k _ _ h (fun _ z => nomatch z)⟩)
  · exact .inr h
mutual
theorem Rp.less (k : ∀ a u, G1 a = some u → (∀ vs, u ≠ .lst vs) → G2 a = some u) : ∀ {v : V} {d : D}, Rp K G1 v d → Flat d → Rp K G2 v d
  | _, _, .non, _ => .non
  | _, _, .bl b, _ => .bl b
  | _, _, .int i, _ => .int i
  | _, _, .str x, _ => .str x
  | _, _, .tup h r, f => .tup (SqT.less k h) (RpAll.less k r (by rw [Flat] at f; exact f))
  | _, _, .lst h r, f => by
    rw [Flat] at f <;> first | exact f.elim | (intros; exact D.noConfusion)
  | _, _, .scr h, f => by
    rw [Flat] at f <;> first | exact f.elim | (intros; exact D.noConfusion)
  | _, _, .dK h r, f => by
    rw [Flat] at f <;> first | exact f.elim | (intros; exact D.noConfusion)
  | _, _, .dT h r, f => by
    rw [Flat] at f <;> first | exact f.elim | (intros; exact D.noConfusion)
theorem RpAll.less (k : ∀ a u, G1 a = some u → (∀ vs, u ≠ .lst vs) → G2 a = some u) : ∀ {v : List V} {d : List D}, RpAll K G1 v d → FlatL d → RpAll K G2 v d
  | _, _, .nil, _ => .nil
  | _, _, .cons h r, f => .cons (Rp.less k h (by rw [FlatL] at f; exact f.1)) (RpAll.less k r (by rw [FlatL] at f; exact f.2))
end
mutual
theorem Own.less (k : ∀ a u, G1 a = some u → (∀ vs, u ≠ .lst vs) → G2 a = some u) : ∀ {v : V} {o : OT} {A : List Addr}, Own K G1 H1 v o A → FlatO o → Own K G2 H1 v o A
  | _, _, _, .dat h, f => .dat (h.less k (by rw [FlatO] at f; exact f))
  | _, _, _, .lst h r, f => .lst h (OwnAll.less k r (by rw [FlatO] at f; exact f))
theorem OwnAll.less (k : ∀ a u, G1 a = some u → (∀ vs, u ≠ .lst vs) → G2 a = some u) : ∀ {v : List V} {o : List OT} {A : List Addr}, OwnAll K G1 H1 v o A → FlatOL o → OwnAll K G2 H1 v o A
  | _, _, _, .nil, _ => .nil
  | _, _, _, .cons h r, f => .cons (Own.less k h (by rw [FlatOL] at f; exact f.1)) (OwnAll.less k r (by rw [FlatOL] at f; exact f.2))
end
end
/-- the slots while a list was lent: s0 before, s1 then, s2 after -/
inductive BorS : Slot → Slot → Slot → Prop
  | f {s0 s1 : Slot} : BorS s0 s1 .non
  | k {d : D} : BorS (.val d) (.val d) (.val d)
  | v {s0 : Slot} {d : D} : Flat d → BorS s0 (.val d) (.val d)
  | o {s0 : Slot} {l : Nat} {o : OT} : FlatO o → BorS s0 (.own l o) (.own l o)
inductive Bor : List Slot → List Slot → List Slot → Prop
  | nil : Bor [] [] []
  | cons {s0 s1 s2 : Slot} {r0 r1 r2 : List Slot} : BorS s0 s1 s2 → Bor r0 r1 r2 → Bor (s0 :: r0) (s1 :: r1) (s2 :: r2)
def Base.lend (B : Base) (A : List Addr) : Base := { B with H0 := fun a => if a ∈ A then none else B.H0 a, Mo := fun l => (B.Mo l).filter (fun a => decide (a ∉ A)), m0 := by rw [B.m0]; rfl }
section
variable {K : PySem.W.Frag} {B B' : Base} {G G' H H' G1 G2 H1 : Hp}
theorem Cells.reb : ∀ {σ : L2.St} {ρ : List Slot} {A : List Addr}, Cells K B G H σ ρ A → (∀ l a, a ∈ A → (a ∈ B.Mo l ∨ B.H0 a = none) → (a ∈ B'.Mo l ∨ B'.H0 a = none)) → B'.pv = B.pv → Cells K B' G H σ ρ A
  | _, _, _, .nil, _, _ => .nil
  | _, _, _, .cons c r, k, e => .cons (match c with
    | .non => .non
    | .val h => .val h
    | .own h m p => .own h (fun a q => k _ a (List.mem_append_left _ q) (m a q)) (by rw [e]; exact p)
    | .ali => .ali) (Cells.reb r (fun l a q => k l a (List.mem_append_right _ q)) e)
theorem Cells.putV : ∀ {σ : L2.St} {ρ : List Slot} {A : List Addr}, Cells K B G H σ ρ A → ∀ {i : Nat} {v : V} {d : D}, ρ[i]? = some .non → σ[i]? = some (some v) → Rp K G v d → Cells K B G H σ (ρ.set i (.val d)) A
  | _, _, _, .nil, _, _, _, e, _, _ => by simp at e
  | _, _, _, .cons (A := A) c r, 0, v, d, e, e2, h => by
    simp at e e2
    subst e
    subst e2
    cases c
    exact .cons (A := []) (.val h) r
  | _, _, _, .cons c r, i + 1, v, d, e, e2, h => .cons c (Cells.putV r (by simpa using e) (by simpa using e2) h)
theorem Cells.bor (k : ∀ a u, G1 a = some u → (∀ vs, u ≠ .lst vs) → G2 a = some u) (x : Ex G G2) : ∀ {σ : L2.St} {ρ0 ρ1 ρ2 : List Slot} {A0 A : List Addr}, Cells K B G H σ ρ0 A0 → Cells K B' G1 H1 σ ρ1 A → Bor ρ0 ρ1 ρ2 → ∃ A', Cells K B' G2 H1 σ ρ2 A' ∧ A'.Sublist A
  | _, _, _, _, _, _, _, .nil, .nil => ⟨[], .nil, .refl _⟩
  | _, _, _, _, _, _, .cons c0 r0, .cons (A := A1) c1 r1, .cons s r => by
    obtain ⟨A', h1, h2⟩ := Cells.bor k x r0 r1 r
    cases s with
    | f => exact ⟨[] ++ A', .cons .non h1, h2.trans (List.sublist_append_right _ _)⟩
    | k =>
      cases c0 with
      | val h => exact ⟨[] ++ A', .cons (.val (h.ex x)) h1, h2.trans (List.sublist_append_right _ _)⟩
    | v f =>
      cases c1 with
      | val h => exact ⟨[] ++ A', .cons (.val (h.less k f)) h1, h2⟩
    | o f =>
      cases c1 with
      | own h m p => exact ⟨A1 ++ A', .cons (.own (h.less k f) m p) h1, h2.append_left _⟩
theorem Bor.len {ρ0 ρ1 ρ2 : List Slot} (h : Bor ρ0 ρ1 ρ2) : ρ2.length = ρ1.length := by
  induction h with
  | nil => rfl
  | cons s r ih => rw [List.length_cons, List.length_cons, ih]

mutual
theorem Own.thereL : ∀ {v : V} {o : OT} {A : List Addr}, Own K G H v o A → ∀ a ∈ A, ∃ vs, H a = some (.lst vs)
  | _, _, _, .dat _, _, m => nomatch m
  | _, _, _, .lst h r, a, m => by
    rcases List.mem_cons.mp m with rfl | m
    · exact ⟨_, h⟩
    · exact OwnAll.thereL r a m
theorem OwnAll.thereL : ∀ {v : List V} {o : List OT} {A : List Addr}, OwnAll K G H v o A → ∀ a ∈ A, ∃ vs, H a = some (.lst vs)
  | _, _, _, .nil, _, m => nomatch m
  | _, _, _, .cons h r, a, m => by
    rcases List.mem_append.mp m with m | m
    · exact Own.thereL h a m
    · exact OwnAll.thereL r a m
end
def FlatS : Slot → Prop
  | .non => True
  | .val d => Flat d
  | .own _ o => FlatO o
  | .ali _ _ => False
theorem BorS.of : ∀ {s : Slot}, FlatS s → BorS .non s s
  | .non, _ => .f
  | .val _, h => .v h
  | .own _ _, h => .o h
  | .ali _ _, h => h.elim
def FlatX : List (V × Slot) → Prop
  | [] => True
  | p :: ps => FlatS p.2 ∧ FlatX ps
theorem Bor.ex : ∀ {ex : List (V × Slot)} {r0 r1 r2 : List Slot}, FlatX ex → Bor r0 r1 r2 → Bor (ex.map (fun _ => Slot.non) ++ r0) (ex.map (·.2) ++ r1) (ex.map (·.2) ++ r2)
  | [], _, _, _, _, h => h
  | _ :: _, _, _, _, f, h => .cons (BorS.of f.1) (Bor.ex f.2 h)
theorem Cells.nons {σ : L2.St} {ρ : List Slot} {A : List Addr} (h : Cells K B G H σ ρ A) : ∀ (ex : List (V × Slot)), Cells K B G H (ex.map (fun p => some p.1) ++ σ) (ex.map (fun _ => Slot.non) ++ ρ) A
  | [] => h
  | _ :: ex => .cons (A := []) .non (Cells.nons h ex)
theorem Anc.lend {B : Base} {G H : Hp} (h : Anc B G H) {A : List Addr} (hA : ∀ a ∈ A, G a = none) : Anc (B.lend A) (fun a => if a ∈ A then H a else G a) H := by
  have eG : Ex G fun a => if a ∈ A then H a else G a := fun a u e => by
    show (if a ∈ A then H a else G a) = _
    by_cases ha : a ∈ A
    · rw [hA a ha] at e
      cases e
    · rw [if_neg ha]
      exact e
  refine ⟨fun a o hm e => ?_, fun a l hm => h.there a l (List.mem_filter.mp hm).1, h.gsub.trans eG, fun a e1 e2 => ?_, fun a u e => ?_⟩
  · have e : (if a ∈ A then none else B.H0 a) = some o := e
    by_cases ha : a ∈ A
    · rw [if_pos ha] at e
      cases e
    · rw [if_neg ha] at e
      exact h.keep a o (fun l m => hm l (List.mem_filter.mpr ⟨m, decide_eq_true ha⟩)) e
  · have e1 : (if a ∈ A then none else B.H0 a) ≠ none := e1
    by_cases ha : a ∈ A
    · rw [if_pos ha] at e1
      exact absurd rfl e1
    · rw [if_neg ha] at e1
      show (if a ∈ A then H a else G a) = _
      rw [if_neg ha]
      exact h.gnew a e1 e2
  · have e : (if a ∈ A then H a else G a) = some u := e
    by_cases ha : a ∈ A
    · rw [if_pos ha] at e
      exact e
    · rw [if_neg ha] at e
      exact h.sub a u e
theorem Anc.back {B : Base} {G H G1 H1 : Hp} (h0 : Anc B G H) {A : List Addr} (hA : ∀ a ∈ A, G a = none) (hM : ∃ l, ∀ a ∈ A, a ∈ B.Mo l ∨ B.H0 a = none) (hT : ∀ a ∈ A, H a ≠ none) (x : Ex (fun a => if a ∈ A then H a else G a) G1) (h : Anc (B.lend A) G1 H1) : Anc B (fun a => if a ∈ A then none else G1 a) H1 := by
  have hG1 : ∀ a ∈ A, G1 a = H a := fun a ha => by
    cases e : H a with
    | none => exact absurd e (hT a ha)
    | some u => exact x a u (by
        show (if a ∈ A then H a else G a) = _
        rw [if_pos ha, e])
  refine ⟨fun a o hm e => ?_, fun a l hm => ?_, fun a u e => ?_, fun a e1 e2 => ?_, fun a u e => ?_⟩
  · have ha : a ∉ A := fun ha => by
      obtain ⟨l, k⟩ := hM
      rcases k a ha with k | k
      · exact hm l k
      · rw [k] at e
        cases e
    exact h.keep a o (fun l m => hm l (List.mem_filter.mp m).1) (by
      show (if a ∈ A then none else B.H0 a) = _
      rw [if_neg ha, e])
  · by_cases ha : a ∈ A
    · intro z
      have z1 := hG1 a ha
      cases e : H a with
      | none => exact hT a ha e
      | some u =>
        rw [e] at z1
        rw [h.sub a u z1] at z
        cases z
    · exact h.there a l (List.mem_filter.mpr ⟨hm, decide_eq_true ha⟩)
  · have e' := h0.gsub a u e
    have ha : a ∉ A := fun ha => by
      rw [hA a ha] at e'
      cases e'
    show (if a ∈ A then none else G1 a) = _
    rw [if_neg ha]
    exact x a u (by
      show (if a ∈ A then H a else G a) = _
      rw [if_neg ha]
      exact e')
  · show (if a ∈ A then none else G1 a) = _
    by_cases ha : a ∈ A
    · rw [if_pos ha]
    · rw [if_neg ha]
      exact h.gnew a (by
        show (if a ∈ A then none else B.H0 a) ≠ none
        rw [if_neg ha]
        exact e1) e2
  · have e : (if a ∈ A then none else G1 a) = some u := e
    by_cases ha : a ∈ A
    · rw [if_pos ha] at e
      cases e
    · rw [if_neg ha] at e
      exact h.sub a u e
theorem En.lend {σ : L2.St} {ρ : List Slot} (E : En K B G H σ ρ []) {i l : Nat} {o : OT} (h : ρ[i]? = some (.own l o)) (hal : noAlis ρ = true) : ∃ B' : Base, B'.rs = B.rs ∧ ∃ G', Ex G G' ∧ En K B' G' H σ (ρ.set i (.val o.toD)) [] ∧
    ∀ G1 H1 ρ1 ρ2 ex, Ex G' G1 → En K B' G1 H1 σ ρ1 ex → Bor (ρ.set i .non) ρ1 ρ2 → ρ2[i]? = some .non → FlatX ex → noAlis ρ2 = true → ∃ G2, Ex G G2 ∧ En K B G2 H1 σ (ρ2.set i (.own l o)) ex := by
  obtain ⟨A0, c, n, g⟩ := E.own
  obtain ⟨v, A, A2, e1, hO, ⟨hl, hp⟩, c2, pm⟩ := Cells.take1 (show Cells K B G H σ ρ A0 from c) h
  have nn := pm.nodup_iff.mp n
  have n1 := List.nodup_append.mp nn
  have hA : ∀ a ∈ A, G a = none := fun a m => g a (pm.mem_iff.mpr (List.mem_append_left _ m))
  have hA2 : ∀ a ∈ A2, G a = none := fun a m => g a (pm.mem_iff.mpr (List.mem_append_right _ m))
  have hT : ∀ a ∈ A, H a ≠ none := fun a m z => by
    obtain ⟨vs, e⟩ := hO.thereL a m
    rw [e] at z
    cases z
  have eG : Ex G fun a => if a ∈ A then H a else G a := fun a u e => by
    show (if a ∈ A then H a else G a) = _
    by_cases ha : a ∈ A
    · rw [hA a ha] at e
      cases e
    · rw [if_neg ha]
      exact e
  have c3 : Cells K (B.lend A) (fun a => if a ∈ A then H a else G a) H σ (ρ.set i .non) A2 := by
    refine Cells.reb (B := B) (c2.ex eG fun _ _ _ e => e) (fun l a m k => ?_) rfl
    have ha : a ∉ A := fun z => n1.2.2 a z a m rfl
    rcases k with k | k
    · exact .inl (List.mem_filter.mpr ⟨k, decide_eq_true ha⟩)
    · refine .inr ?_
      show (if a ∈ A then none else B.H0 a) = _
      rw [if_neg ha, k]
  have hi : i < ρ.length := (List.getElem?_eq_some_iff.mp h).1
  have c4 := c3.putV (i := i) (v := v) (d := o.toD) (by rw [List.getElem?_set_self hi]) e1 (hO.rp eG fun a m u e => by
    show (if a ∈ A then H a else G a) = _
    rw [if_pos m, e])
  rw [List.set_set] at c4
  refine ⟨B.lend A, rfl, _, eG, ⟨E.anc.lend hA, ⟨A2, c4, n1.2.1, fun a m => ?_⟩, by rw [List.length_set]; exact E.len, fun k j p e => ?_⟩, fun G1 H1 ρ1 ρ2 ex x E1 bo h2 fl ha2 => ?_⟩
  · have ha : a ∉ A := fun z => n1.2.2 a z a m rfl
    show (if a ∈ A then H a else G a) = _
    rw [if_neg ha]
    exact hA2 a m
  · by_cases hk : i = k
    · subst hk
      rw [List.getElem?_set_self hi] at e
      cases e
    · rw [List.getElem?_set_ne hk] at e
      exact absurd e (noAlis_get hal)
  · obtain ⟨A5, c5, n5, g5⟩ := E1.own
    have hG1 : ∀ a ∈ A, G1 a = H a := fun a ha => by
      cases e : H a with
      | none => exact absurd e (hT a ha)
      | some u => exact x a u (by
          show (if a ∈ A then H a else G a) = _
          rw [if_pos ha, e])
    have x2 : Ex G fun a => if a ∈ A then none else G1 a := fun a u e => by
      have ha : a ∉ A := fun ha => by
        rw [hA a ha] at e
        cases e
      show (if a ∈ A then none else G1 a) = _
      rw [if_neg ha]
      exact x a u (eG a u e)
    have k : ∀ a u, G1 a = some u → (∀ vs, u ≠ .lst vs) → (if a ∈ A then none else G1 a) = some u := fun a u e ne => by
      by_cases ha : a ∈ A
      · obtain ⟨vs, e3⟩ := hO.thereL a ha
        rw [hG1 a ha, e3] at e
        injection e with e
        exact absurd e.symm (ne vs)
      · rw [if_neg ha]
        exact e
    have disj : ∀ a ∈ A5, a ∉ A := fun a m ha => by
      have z := g5 a m
      rw [hG1 a ha] at z
      exact hT a ha z
    obtain ⟨A6, c6, s6⟩ := Cells.bor (G := G) (H := H) (G2 := fun a => if a ∈ A then none else G1 a) k x2 (c2.nons ex) c5 (Bor.ex fl bo)
    have c7 : Cells K B (fun a => if a ∈ A then none else G1 a) H1 (ex.map (fun p => some p.1) ++ σ) (ex.map (·.2) ++ ρ2) A6 := by
      refine Cells.reb (B := B.lend A) c6 (fun l a m k => ?_) rfl
      have ha := disj a (s6.subset m)
      rcases k with k | k
      · exact .inl (List.mem_filter.mp k).1
      · refine .inr ?_
        have k : (if a ∈ A then none else B.H0 a) = none := k
        rw [if_neg ha] at k
        exact k
    have hO1 : Own K (fun a => if a ∈ A then none else G1 a) H1 v o A := hO.ex x2 fun a m u e => E1.anc.sub a u (by rw [hG1 a m, e])
    obtain ⟨A8, c8, p8⟩ := c7.put1 (i := ex.length + i) (l := l) (o := o) (v := v) (A1 := A) (by
      rw [List.getElem?_append_right (by simp), List.length_map]
      simpa using h2) (by
      rw [List.getElem?_append_right (by simp), List.length_map]
      simpa using e1) hO1 ⟨hl, hp⟩
    rw [List.set_append_right _ _ (by simp), List.length_map, Nat.add_sub_cancel_left] at c8
    have hi2 : i < ρ2.length := (List.getElem?_eq_some_iff.mp h2).1
    refine ⟨_, x2, ⟨Anc.back E.anc hA ⟨l, hl⟩ hT x E1.anc, ⟨A8, c8, p8.nodup_iff.mpr (List.nodup_append.mpr ⟨n1.1, s6.nodup n5, fun a m b m2 e => ?_⟩), fun a m => ?_⟩, ?_, fun k j p e => ?_⟩⟩
    · subst e
      exact disj a (s6.subset m2) m
    · show (if a ∈ A then none else G1 a) = _
      by_cases ha : a ∈ A
      · rw [if_pos ha]
      · rw [if_neg ha]
        rcases List.mem_append.mp (p8.mem_iff.mp m) with m | m
        · exact absurd m ha
        · exact g5 a (s6.subset m)
    · rw [List.length_set, bo.len]
      exact E1.len
    · by_cases hk : i = k
      · subst hk
        rw [List.getElem?_set_self hi2] at e
        cases e
      · rw [List.getElem?_set_ne hk] at e
        exact absurd e (noAlis_get ha2)
end
section
variable {X : Cx} {B : Base} {ρ : List Slot} {pos : Pos} {e : Expr}
/-- an owned list read, in one expression -/
theorem je_bor (i : Nat) {β : Type} {m : R β} {sl : β → Slot} {l : Nat} {o : OT} {d : D} {ρ1 ρ2 ρ' : β → List Slot} (h : ρ[i]? = some (.own l o) := by rfl) (hd : o.toD = d) (he : ∀ B' : Base, B'.rs = B.rs → JE X B' (ρ.set i (.val d)) e m sl ρ1) (hb : ∀ b, Bor (ρ.set i .non) (ρ1 b) (ρ2 b)) (hf : ∀ b, FlatS (sl b)) (hr : ∀ b, (ρ2 b).set i (.own l o) = ρ' b)
    (hal : noAlis ρ = true := by rfl) (h2 : ∀ b, (ρ2 b)[i]? = some .non := by intro _; rfl) (ha2 : ∀ b, noAlis (ρ2 b) = true := by intro _; rfl) : JE X B ρ e m sl ρ' := by
  refine ⟨fun pins s σ H Q I ⟨G, E, q⟩ => ?_⟩
  obtain ⟨B', hB, G', x, E', k⟩ := E.lend h hal
  rw [hd] at E'
  refine (he B' hB).run pins s σ H Q I ⟨G', E', ?_⟩
  rw [hB]
  refine R.post_mono q fun b q1 v G1 H1 x1 E1 => ?_
  obtain ⟨G2, x2, E2⟩ := k G1 H1 (ρ1 b) (ρ2 b) _ x1 E1 (hb b) (h2 b) ⟨hf b, trivial⟩ (ha2 b)
  rw [hr b] at E2
  exact q1 v G2 H1 x2 E2
theorem jt_bor (i : Nat) {β : Type} {m : R β} {bn : β → Bool} {l : Nat} {o : OT} {d : D} {ρ1 ρ2 ρ' : β → List Slot} (h : ρ[i]? = some (.own l o) := by rfl) (hd : o.toD = d) (he : ∀ B' : Base, B'.rs = B.rs → JT X B' (ρ.set i (.val d)) e m bn ρ1) (hb : ∀ b, Bor (ρ.set i .non) (ρ1 b) (ρ2 b)) (hr : ∀ b, (ρ2 b).set i (.own l o) = ρ' b)
    (hal : noAlis ρ = true := by rfl) (h2 : ∀ b, (ρ2 b)[i]? = some .non := by intro _; rfl) (ha2 : ∀ b, noAlis (ρ2 b) = true := by intro _; rfl) : JT X B ρ e m bn ρ' := by
  refine ⟨fun pins s σ H Q I ⟨G, E, q⟩ => ?_⟩
  obtain ⟨B', hB, G', x, E', k⟩ := E.lend h hal
  rw [hd] at E'
  refine (he B' hB).run pins s σ H Q I ⟨G', E', ?_⟩
  rw [hB]
  refine R.post_mono q fun b q1 G1 H1 x1 E1 => ?_
  obtain ⟨G2, x2, E2⟩ := k G1 H1 (ρ1 b) (ρ2 b) _ x1 E1 (hb b) (h2 b) trivial (ha2 b)
  rw [hr b] at E2
  exact q1 G2 H1 x2 E2
theorem toD_map {α : Type} {f : α → D} : ∀ xs : List α, OT.toDs ((xs.map f).map OT.dat) = xs.map f
  | [] => by rw [List.map_nil, List.map_nil, OT.toDs]
  | x :: xs => by rw [List.map_cons, List.map_cons, OT.toDs, OT.toD, toD_map xs]
theorem toD_oL {α : Type} (f : α → D) (xs : List α) : (oL f xs).toD = eL f xs := by
  rw [oL, OT.toD, toD_map]
/-- an owned local becomes data for good -/
theorem En.frzS {K : PySem.W.Frag} {G H : Hp} {σ : L2.St} {ρ : List Slot} (E : En K B G H σ ρ []) {i : Nat} {o : OT} (h : ρ[i]? = some (.own 0 o)) (hal : noAlis ρ = true) : ∃ G', Ex G G' ∧ En K B G' H σ (ρ.set i (.val o.toD)) [] := by
  obtain ⟨A0, c, n, g⟩ := E.own
  obtain ⟨v, A, A2, e1, hO, ⟨hl, hp⟩, c2, pm⟩ := Cells.take1 (show Cells K B G H σ ρ A0 from c) h
  have nn := pm.nodup_iff.mp n
  have n1 := List.nodup_append.mp nn
  have hA : ∀ a ∈ A, G a = none ∧ B.H0 a = none := fun a m => ⟨g a (pm.mem_iff.mpr (List.mem_append_left _ m)), (hl a m).resolve_left (by rw [B.m0]; exact fun z => nomatch z)⟩
  have eG : Ex G fun a => if a ∈ A then H a else G a := fun a u e => by
    show (if a ∈ A then H a else G a) = _
    by_cases ha : a ∈ A
    · rw [(hA a ha).1] at e
      cases e
    · rw [if_neg ha]
      exact e
  have hi : i < ρ.length := (List.getElem?_eq_some_iff.mp h).1
  have c4 := (c2.ex eG fun _ _ _ e => e).putV (i := i) (v := v) (d := o.toD) (by rw [List.getElem?_set_self hi]) e1 (hO.rp eG fun a m u e => by
    show (if a ∈ A then H a else G a) = _
    rw [if_pos m, e])
  rw [List.set_set] at c4
  refine ⟨_, eG, E.anc.frz hA, ⟨A2, c4, n1.2.1, fun a m => ?_⟩, by rw [List.length_set]; exact E.len, fun k j p e => ?_⟩
  · have ha : a ∉ A := fun z => n1.2.2 a z a m rfl
    show (if a ∈ A then H a else G a) = _
    rw [if_neg ha]
    exact g a (pm.mem_iff.mpr (List.mem_append_right _ m))
  · by_cases hk : i = k
    · subst hk
      rw [List.getElem?_set_self hi] at e
      cases e
    · rw [List.getElem?_set_ne hk] at e
      exact absurd e (noAlis_get hal)
theorem js_frz (i : Nat) {N L T : Type} {ss : List Stmt} {m : R (Fl N L T)} {F : Fin N L T} {o : OT} {d : D} (h : ρ[i]? = some (.own 0 o) := by rfl) (hd : o.toD = d) (r : JSs X B (ρ.set i (.val d)) ss m F) (hal : noAlis ρ = true := by rfl) : JSs X B ρ ss m F :=
  PSs_imp r fun D σ H ⟨G, E, q⟩ => by
    obtain ⟨G', x, E'⟩ := E.frzS h hal
    rw [hd] at E'
    exact ⟨G', E', R.post_mono q fun f q2 => flP_ex q2 x⟩
theorem je_frzS (i : Nat) {β : Type} {m : R β} {sl : β → Slot} {ρ' : β → List Slot} {o : OT} {d : D} (h : ρ[i]? = some (.own 0 o) := by rfl) (hd : o.toD = d) (r : JE X B (ρ.set i (.val d)) e m sl ρ') (hal : noAlis ρ = true := by rfl) : JE X B ρ e m sl ρ' :=
  PE_imp r fun σ H Q ⟨G, E, q⟩ => by
    obtain ⟨G', x, E'⟩ := E.frzS h hal
    rw [hd] at E'
    exact ⟨G', E', R.post_mono q fun b k v G1 H1 x1 E1 => k v G1 H1 (x.trans x1) E1⟩
/-! ### a list's items into names -/
def un2 {α : Type} : List α → Option (α × α)
  | [a, b] => some (a, b)
  | _ => none
def un3 {α : Type} : List α → Option (α × α × α)
  | [a, b, c] => some (a, b, c)
  | _ => none
def un4 {α : Type} : List α → Option (α × α × α × α)
  | [a, b, c, d] => some (a, b, c, d)
  | _ => none
theorem jg_un {α β : Type} {es : List Expr} {k n : Nat} {f : α → D} {xs : List α} {un : List α → Option β} {ds : β → List D} {ρ' : β → List Slot} (hu : ∀ p, un xs = some p → xs.map f = ds p ∧ xs.length = n) (hc : X.calm = true) (h : ∀ p, JGs X B ρ es (ds p) (.ok ()) (fun _ => ρ' p)) (hn : (assignEach es X.env).length = n := by rfl) (hst : (assignEach es X.env).findIdx? (·.1) = none := by rfl) : JG X B ρ (.Tuple es k pos) (eL f xs) (R.some (un xs)) ρ' := by
  have h' : PGs X es (fun vs σ H Q => ∃ p, tJGs X.K B ρ (ds p) (.ok ()) (fun _ => ρ' p) vs σ H Q) := ⟨fun pins s σ H v u Q I r ⟨p, q⟩ => (h p).run pins s σ H v u Q I r q⟩
  exact PG_imp (pg_unl (n := n) hc h' hn hst) fun v σ H Q ⟨G, E, r, q⟩ => by
    obtain ⟨a, vs, rfl, hS, hr⟩ := r.lst_inv
    obtain ⟨p, hp, q⟩ := R.post_some q
    obtain ⟨e1, e2⟩ := hu p hp
    refine ⟨a, vs, rfl, .inl (E.sub.rd hS), by rw [hr.len, List.length_map, e2], p, G, E, e1 ▸ hr, q⟩
theorem un2_ok {α : Type} {f : α → D} {xs : List α} : ∀ p, un2 xs = some p → xs.map f = [f p.1, f p.2] ∧ xs.length = 2 := fun p e => by
  match xs, e with
  | [a, b], e =>
    cases e
    exact ⟨rfl, rfl⟩
theorem un3_ok {α : Type} {f : α → D} {xs : List α} : ∀ p, un3 xs = some p → xs.map f = [f p.1, f p.2.1, f p.2.2] ∧ xs.length = 3 := fun p e => by
  match xs, e with
  | [a, b, c], e =>
    cases e
    exact ⟨rfl, rfl⟩
theorem un4_ok {α : Type} {f : α → D} {xs : List α} : ∀ p, un4 xs = some p → xs.map f = [f p.1, f p.2.1, f p.2.2.1, f p.2.2.2] ∧ xs.length = 4 := fun p e => by
  match xs, e with
  | [a, b, c, d], e =>
    cases e
    exact ⟨rfl, rfl⟩
theorem jts_t : JTs X B ρ [] (.ok true) (fun b => b) := ⟨fun pins s σ H Q I ⟨G, E, q⟩ => pts_nil.run pins s σ H Q I (q G H (Ex.refl G) E)⟩
theorem je_cast {β : Type} {m : R β} {s1 s2 : β → Slot} {ρ' : β → List Slot} (k : JE X B ρ e m s1 ρ') (h : ∀ b, s2 b = s1 b) : JE X B ρ e m s2 ρ' := (funext h) ▸ k
theorem js_lt {α N L T : Type} {ss : List Stmt} {F : Fin N L T} (ρ : α → List Slot) (v0 : α) {k : α → R (Fl N L T)} (h : ∀ v, JSs X B (ρ v) ss (k v) F) : JSs X B (ρ v0) ss (lt v0 k) F := by
  rw [lt]
  exact h v0
theorem noRs {B B' : Base} (h : B'.rs = B.rs) (k : ∀ e, ¬ B.rs e) : ∀ e, ¬ B'.rs e := fun e => by
  rw [h]
  exact k e
theorem un65 {k : Nat} {A : Around} (r : Room k A) : A.units + 65 < cLine := by
  have := r.un
  omega
theorem un64 {k : Nat} {A : Around} (r : Room k A) : A.units + 64 < cLine := by
  have := r.un
  omega
end
/-- x in l -/
def hasL {α : Type} [DecidableEq α] (x : α) (l : List α) : Bool := decide (x ∈ l)
theorem hasL_iff {α : Type} [DecidableEq α] {x : α} {l : List α} : hasL x l = true ↔ x ∈ l := by
  rw [hasL, decide_eq_true_eq]
theorem od_inL {K : PySem.W.Frag} {B : Base} {α : Type} [DecidableEq α] {n : Nat} {f : α → D} (h : EqE n f) (hn : n + 1 ≤ 64 := by decide) {x : α} {l : List α} : OpD K B (rInD K) (f x) (eL f l) (.ok ()) (fun _ => .val (.bool (hasL x l))) := od_inD h hn
theorem od_niL {K : PySem.W.Frag} {B : Base} {α : Type} [DecidableEq α] {n : Nat} {f : α → D} (h : EqE n f) (hn : n + 1 ≤ 64 := by decide) {x : α} {l : List α} : OpD K B (rNotInD K) (f x) (eL f l) (.ok ()) (fun _ => .val (.bool (!hasL x l))) := od_niD h hn
end DL

/-! DM1: plain laws about mirrors -/
namespace DL
open PySem L2

section
variable {α β γ N N1 L T S : Type}
theorem bind_ok (a : α) (f : α → R β) : (R.ok a).bind f = f a := rfl
theorem bind_assoc (m : R α) (f : α → R β) (g : β → R γ) : (m.bind f).bind g = m.bind fun a => (f a).bind g := by cases m <;> rfl
theorem lt_eq (v : α) (k : α → β) : lt v k = k v := rfl
theorem bindF_nx (n : N1) (k : N1 → R (Fl N L T)) : bindF (.ok (.nx n)) k = k n := rfl
theorem bindF_rt (t : T) (k : N1 → R (Fl N L T)) : bindF (.ok (.rt t)) k = .ok (.rt t) := rfl
theorem bindF_ct (t : L) (k : N1 → R (Fl N L T)) : bindF (.ok (.ct t)) k = .ok (.ct t) := rfl
theorem bindF_bk (t : L) (k : N1 → R (Fl N L T)) : bindF (.ok (.bk t)) k = .ok (.bk t) := rfl
theorem fin0_rt (t : T) : fin0 (.ok (.rt t) : R (Fl N L T)) = .ok t := rfl
theorem finN_nx (t : N) : finN (.ok (.nx t) : R (Fl N L T)) = .ok t := rfl
theorem guard_ok {c : Prop} [Decidable c] (h : c) : R.guard c = .ok () := if_pos h
theorem some_ok (a : α) : R.some (.some a) = .ok a := rfl
theorem and2_ok (a : α) (f : α → Bool) (m : R Bool) : and2 (.ok a) f m = if f a = true then m else .ok false := rfl
theorem or2_ok (a : α) (f : α → Bool) (m : R Bool) : or2 (.ok a) f m = if f a = true then .ok true else m := rfl
theorem op2_ok {δ : Type} (a : α) (f : α → R β) (g : α → β → R δ) : op2 (.ok a) f g = (f a).bind fun y => (g a y).bind fun z => .ok (a, y, z) := rfl
/-- a loop that goes through -/
theorem forR_ok {f : α → S → R (Fl S S T)} (P : S → Prop) : ∀ {xs : List α} {s : S}, P s → (∀ x ∈ xs, ∀ s, P s → ∃ s', (f x s = .ok (.nx s') ∨ f x s = .ok (.ct s')) ∧ P s') → ∃ s', (forR f xs s : R (Fl S L T)) = .ok (.nx s') ∧ P s'
  | [], s, h, _ => ⟨s, rfl, h⟩
  | x :: xs, s, h, k => by
    obtain ⟨s', h1, h2⟩ := k x (List.mem_cons_self) s h
    obtain ⟨s2, h3, h4⟩ := forR_ok P (xs := xs) h2 fun y m => k y (List.mem_cons_of_mem _ m)
    refine ⟨s2, ?_, h4⟩
    rw [forR]
    rcases h1 with h1 | h1 <;> rw [h1] <;> exact h3
/-- .. with the turn told -/
theorem forR_okI {f : α → S → R (Fl S S T)} (P : Nat → S → Prop) : ∀ {xs : List α} {i : Nat} {s : S}, P i s → (∀ (k : Nat) x, xs[k]? = some x → ∀ s, P (i + k) s → ∃ s', (f x s = .ok (.nx s') ∨ f x s = .ok (.ct s')) ∧ P (i + k + 1) s') → ∃ s', (forR f xs s : R (Fl S L T)) = .ok (.nx s') ∧ P (i + xs.length) s'
  | [], i, s, h, _ => ⟨s, rfl, h⟩
  | x :: xs, i, s, h, k => by
    obtain ⟨s', h1, h2⟩ := k 0 x rfl s h
    obtain ⟨s2, h3, h4⟩ := forR_okI P (xs := xs) (i := i + 1) h2 fun j y m s hs => by
      have := k (j + 1) y (by simpa using m) s (by rw [show i + (j + 1) = i + 1 + j by omega]; exact hs)
      rw [show i + (j + 1) + 1 = i + 1 + j + 1 by omega] at this
      exact this
    refine ⟨s2, ?_, by rw [List.length_cons, show i + (xs.length + 1) = i + 1 + xs.length by omega]; exact h4⟩
    rw [forR]
    rcases h1 with h1 | h1 <;> rw [h1] <;> exact h3
theorem whR_true {c : S → R Bool} {f : S → R (Fl S S T)} {s s' : S} {y : Fl S L T} (hc : c s = .ok true) (hf : f s = .ok (.nx s')) (h : whR (L := L) c f s' = .ok y) : whR (L := L) c f s = .ok y := by
  have hx : ∃ n, whN (L := L) c f n s' ≠ .bad := by
    apply Classical.byContradiction
    intro z
    unfold whR at h
    rw [dif_neg z] at h
    cases h
  obtain ⟨n, hn⟩ := hx
  rw [whR_of hn] at h
  have e : whN (L := L) c f (n + 1) s = .ok y := by
    rw [whN, hc]
    simp only [R.bind, if_true, hf]
    exact h
  have e2 : whN (L := L) c f (n + 1) s ≠ .bad := by
    rw [e]
    exact fun z => nomatch z
  rw [whR_of e2]
  exact e
theorem whR_false {c : S → R Bool} {f : S → R (Fl S S T)} {s : S} (hc : c s = .ok false) : whR (L := L) c f s = .ok (.nx s) := by
  have e : whN (L := L) c f 1 s = .ok (.nx s) := by
    rw [whN, hc]
    rfl
  rw [whR_of (n := 1) (by rw [e]; exact fun z => nomatch z)]
  exact e
end
/-! ### numbers -/
theorem mulx {i j : Int} (a : Nat) (hi : i.natAbs < 2 ^ a) (hj : j.natAbs < 2 ^ a) (h : a ≤ 67108864 := by decide) : CMulX i j := mulx_ok hi hj (by omega)
theorem div_ok {i j : Int} (h : j ≠ 0) (hj : j.natAbs < 2 ^ 8000) : divOk i j := by
  refine ⟨h, PyProof.noPylong_of_log2 ?_⟩
  have := (Nat.log2_lt (n := j.natAbs) (k := 8000) (by omega)).mpr hj
  omega
theorem divp_ok' {i j : Int} (h : 0 < j) (hj : j < 2 ^ 8000) : CDivP i j := ⟨h, (div_ok (i := i) (j := j) (by omega) (by omega)).2⟩
theorem rng_ok {i : Int} (h : 0 ≤ i) (h2 : i < 1000000) : rngOk i := ⟨by omega, by omega⟩
theorem mem_rng {lo hi x : Int} (h : x ∈ rng lo hi) : lo ≤ x ∧ x < hi := by
  unfold rng at h
  obtain ⟨k, hk, rfl⟩ := List.mem_map.mp h
  have := List.mem_range.mp hk
  omega
/-- two whole numbers cleared: what stands behind -/
theorem fr_low {n d g : Int} (hg : g = (if d < 0 then -(Int.gcd n d : Int) else (Int.gcd n d : Int))) (hd : d ≠ 0) : g ≠ 0 ∧ n.fdiv g * g = n ∧ d.fdiv g * g = d ∧ 0 < d.fdiv g ∧ Int.gcd (n.fdiv g) (d.fdiv g) = 1 := by
  have h0 : 0 < Int.gcd n d := Nat.pos_of_ne_zero fun z => hd (Int.gcd_eq_zero_iff.mp z).2
  have hn : (Int.gcd n d : Int) ∣ n := Int.gcd_dvd_left ..
  have hdd : (Int.gcd n d : Int) ∣ d := Int.gcd_dvd_right ..
  have hg0 : g ≠ 0 := by
    rw [hg]
    split <;> omega
  have gn : g ∣ n := by
    rw [hg]
    split
    · exact Int.neg_dvd.mpr hn
    · exact hn
  have gd : g ∣ d := by
    rw [hg]
    split
    · exact Int.neg_dvd.mpr hdd
    · exact hdd
  have e1 : n.fdiv g * g = n := Int.fdiv_mul_cancel gn
  have e2 : d.fdiv g * g = d := Int.fdiv_mul_cancel gd
  refine ⟨hg0, e1, e2, ?_, ?_⟩
  · have hs : 0 < d.fdiv g * g * g := by
      rw [e2, hg]
      split
      · rename_i h
        exact Int.mul_pos_of_neg_of_neg h (by omega)
      · rename_i h
        exact Int.mul_pos (by omega) (by omega)
    have hgg : 0 < g * g := by
      rcases Int.lt_or_gt_of_ne hg0 with h | h
      · exact Int.mul_pos_of_neg_of_neg h h
      · exact Int.mul_pos h h
    rw [Int.mul_assoc] at hs
    apply Classical.byContradiction
    intro z
    have := Int.mul_nonneg (show 0 ≤ -(d.fdiv g) by omega) (Int.le_of_lt hgg)
    rw [Int.neg_mul] at this
    omega
  · have hgcd : Int.gcd (n.fdiv g * g) (d.fdiv g * g) = Int.gcd (n.fdiv g) (d.fdiv g) * g.natAbs := Int.gcd_mul_right ..
    rw [e1, e2] at hgcd
    have ga : g.natAbs = Int.gcd n d := by
      rw [hg]
      split <;> simp
    rw [ga] at hgcd
    have : Int.gcd n d * 1 = Int.gcd n d * Int.gcd (n.fdiv g) (d.fdiv g) := by
      rw [Nat.mul_one, Nat.mul_comm]
      exact hgcd
    exact (Nat.eq_of_mul_eq_mul_left h0 this).symm
theorem cell_ok (ns : List Int) (k : Int) (h0 : 0 ≤ k) : ∃ c, atI (cut ns (some k) (some (k + (1 : Int))) ++ [(0 : Int)]) (0 : Int) = some c ∧ (cut ns (some k) (some (k + (1 : Int)))).length ≤ 1 := by
  have hc : (cut ns (some k) (some (k + 1))).length ≤ 1 := by
    unfold cut
    rw [List.length_take]
    simp only [HT.sIx]
    rw [if_neg (by omega), if_neg (by omega)]
    omega
  generalize cut ns (some k) (some (k + 1)) = l at *
  match l, hc with
  | [], _ => exact ⟨0, rfl, by simp⟩
  | [c], _ => exact ⟨c, rfl, by simp⟩
theorem line_ok {n : Nat} (h : n ≤ 1000) : n ≤ sizeLine := Nat.le_of_lt (small1000 h)
end DL

namespace W
open PySem PySem.Spec L2 DL
def topS (i : Nat) : Stmt := PySem.Challenge.pw_restdraw_k41_hands.main.body.getD i (.Pass ⟨0, 0, 0, 0⟩)
structure Top (K : PySem.W.Frag) (mg : Str → Option Value) where
  law_pot : DT K mg "_law_pot" (topS 6) ["_law_script", "_law_k"]
  law_digit : DT K mg "_law_digit" (topS 7) ["_law_pot_here", "_law_many"]
  law_low : DT K mg "_law_low" (topS 8) ["_law_n", "_law_d"]
  law_plus : DT K mg "_law_plus" (topS 9) ["_law_one", "_law_other"]
  law_times : DT K mg "_law_times" (topS 11) ["_law_one", "_law_other"]
  law_less : DT K mg "_law_less" (topS 10) ["_law_one", "_law_other"]
  law_between : DT K mg "_law_between" (topS 14) ["_law_one", "_law_other", "_law_part"]
  law_number : DT K mg "_law_number" (topS 13) ["_law_pot_here", "_law_mode"]
  law_point : DT K mg "_law_point" (topS 15) ["_law_pot_here", "_law_points_here", "_law_mode"]
  law_points : DT K mg "_law_points" (topS 16) ["_law_pot_here", "_law_many"]
  law_apart : DT K mg "_law_apart" (topS 17) ["_law_one", "_law_other"]
  law_sign : DT K mg "_law_sign" (topS 12) ["_law_one"]
  law_hand : DT K mg "_law_hand" (topS 18) ["_law_p", "_law_q", "_law_r"]
  law_is : DT K mg "_law_is" (topS 19) ["_law_found", "_law_due"]
  apart : DT K mg "apart" (topS 1) ["one", "other"]
  way : DT K mg "way" (topS 2) ["p", "q"]
  sign_of : DT K mg "sign_of" (topS 3) ["number"]
  hand : DT K mg "hand" (topS 4) ["p", "q", "r"]
  law_right : DT K mg "_law_right" (topS 22) ["_law_p", "_law_q", "_law_r", "_law_due"]
  law_greatest : DT K mg "_law_greatest" (topS 21) ["_law_points_here"]
  law_moved : DT K mg "_law_moved" (topS 20) ["_law_point_here", "_law_by", "_law_many"]
  law : DT K mg "law" (topS 23) ["_law_script"]
  z_abs : mg "abs" = none
  z_bool : mg "bool" = none
  z_divmod : mg "divmod" = none
  z_int : mg "int" = none
  z_isinstance : mg "isinstance" = none
  z_len : mg "len" = none
  z_max : mg "max" = none
  z_min : mg "min" = none
  z_range : mg "range" = none
  z_tuple : mg "tuple" = none
/-! law_pot -/
abbrev s_law_pot : Stmt := topS 6
theorem sc_law_pot : FnScope ["_law_script", "_law_k", "_law_cell"] ["_law_script", "_law_k"] (defScope s_law_pot) := ⟨rfl, rfl, rfl, by decide +kernel, rfl, by decide +kernel, by decide +kernel⟩
noncomputable def mb_law_pot (v_script : List Int) (v_k : Int) : R (Fl Unit Unit (List Int)) :=
(((R.guard (List.length (cut v_script (some v_k) (some (v_k + (1 : Int)))) + List.length [(0 : Int)] ≤ sizeLine)).bind fun (x13 : Unit) => (R.some (atI ((cut v_script (some v_k) (some (v_k + (1 : Int)))) ++ [(0 : Int)]) (0 : Int))).bind fun (z15 : Int) => R.ok (x13, z15)).bind fun (b17 : (Unit × Int)) => lt b17.2 fun v_cell_16 =>
(R.ok (.rt [(max (0 : Int) (v_cell_16 - ((10 : Int) ^ (Int.toNat (18 : Int))))), (((((if v_cell_16 < 0 then -v_cell_16 else v_cell_16) + ((7919 : Int) * v_k)) + (3 : Int)) % (2147483629 : Int)) + (1 : Int))])))
noncomputable def m_law_pot (a : (List Int × Int)) : R (List Int) := fin0 (mb_law_pot a.1 a.2)
abbrev i_law_pot (a : (List Int × Int)) : List Slot := [.val (D.scr a.1), .val (D.int a.2)]
abbrev l_law_pot (b : (List Int)) : Slot := .own 0 ((oL D.int) b)
abbrev o_law_pot (b : (List Int)) : List Slot := [.non, .non]
theorem ok_law_pot {P : Program} {w : World} {K : PySem.W.Frag} {mg : Str → Option Value} {base : Heap} (T : Top K mg) : FnOk P w K mg base CX0 1 T.law_pot.a T.law_pot.d ["_law_script", "_law_k"] (spM K i_law_pot m_law_pot l_law_pot o_law_pot) := by
  show FnOk P w K mg base CX0 (0 + 1) T.law_pot.a T.law_pot.d ["_law_script", "_law_k"] (spM K i_law_pot (fun (a : (List Int × Int)) => fin0 (mb_law_pot a.1 a.2)) l_law_pot o_law_pot)
  refine fn_ok (n1 := fun _ => []) (c1 := fun _ => []) (k1 := fun _ => []) (ins := i_law_pot) (sl := l_law_pot) (outs := o_law_pot) (fun (a : (List Int × Int)) => mb_law_pot a.1 a.2) 1 T.law_pot.f sc_law_pot rfl (fun _ => rfl) (fun _ => rfl) (fun _ => rfl) (fun cdv A outer s H E hr B hB a => ?_)
  show JSs _ B _ _ (mb_law_pot a.1 a.2) _
  unfold mb_law_pot
  exact ((js_setE 2 D.int (fun (b17 : (Unit × Int)) => b17.2) sc_law_pot.nd (je_opLG (ρa := fun _ => _) (s := fun (x13 : Unit) (z15 : Int) => (.val (D.int z15))) (xa := fun (x13 : Unit) => (eL D.int) ((cut a.1 (some a.2) (some (a.2 + (1 : Int)))) ++ [(0 : Int)])) (y := fun (x13 : Unit) => D.int (0 : Int)) (fun _ _ ha hb => pe_ix ix_list ha hb (fun _ _ => rfl)) (je_frzL (v := fun (b12 : Unit) => ((cut a.1 (some a.2) (some (a.2 + (1 : Int)))) ++ [(0 : Int)])) (je_op (fun _ _ ha hb => pe_op op_catR ha hb) (je_frzL (v := fun (b7 : Unit) => (cut a.1 (some a.2) (some (a.2 + (1 : Int))))) (je_slS (jp_var 0) (fun _ => (jo_some (jp_var 1))) (fun _ => (jo_some (je_op (fun _ _ ha hb => pe_op op_add ha hb) (jp_var 1) jp_int od_add))))) (je_frzL (v := fun (b11 : Unit) => [(0 : Int)]) (je_lstT D.int (fun (b10 : Unit) => ([(0 : Int)] : List Int)) (ja_p jp_int ja_nil))) od_catm)) (fun x13 => jp_int) (fun x13 => od_ixLm)) fun b17 v_cell_16 =>
(js_one (js_retP [(max (0 : Int) (v_cell_16 - ((10 : Int) ^ (Int.toNat (18 : Int))))), (((((if v_cell_16 < 0 then -v_cell_16 else v_cell_16) + ((7919 : Int) * a.2)) + (3 : Int)) % (2147483629 : Int)) + (1 : Int))] [false, false, false] (je_lstT D.int (fun (b32 : Unit) => ([(max (0 : Int) (v_cell_16 - ((10 : Int) ^ (Int.toNat (18 : Int))))), (((((if v_cell_16 < 0 then -v_cell_16 else v_cell_16) + ((7919 : Int) * a.2)) + (3 : Int)) % (2147483629 : Int)) + (1 : Int))] : List Int)) (ja_p (je_cb (fun _ ht => pe_callB (call_max2 rfl) (by rfl) T.z_max (by decide +kernel) ht) (ja_p jp_int (ja_p (je_op (fun _ _ ha hb => pe_op op_sub ha hb) (jp_var 2) (je_op (fun _ _ ha hb => pe_op op_pow ha hb) jp_int jp_int od_powC) od_sub) ja_nil)) cb_max) (ja_p (je_op (fun _ _ ha hb => pe_op op_add ha hb) (je_op (fun _ _ ha hb => pe_op op_mod ha hb) (je_op (fun _ _ ha hb => pe_op op_add ha hb) (je_op (fun _ _ ha hb => pe_op op_add ha hb) (je_cb (fun _ ht => pe_callB call_abs (by rfl) T.z_abs (by decide +kernel) ht) (ja_p (jp_var 2) ja_nil) cb_abs) (je_op (fun _ _ ha hb => pe_op op_mul ha hb) jp_int (jp_var 1) od_mulC) od_add) jp_int od_add) jp_int od_modC) jp_int od_add) ja_nil)))))))
/-! law_digit -/
abbrev s_law_digit : Stmt := topS 7
theorem sc_law_digit : FnScope ["_law_pot_here", "_law_many", "_law_digit_here"] ["_law_pot_here", "_law_many"] (defScope s_law_digit) := ⟨rfl, rfl, rfl, by decide +kernel, rfl, by decide +kernel, by decide +kernel⟩
noncomputable def mb_law_digit (v_pot_here : (List Int)) (v_many : Int) : R (Fl Unit Unit (Int × (List Int))) :=
(bindF ((R.some (atI v_pot_here (0 : Int))).bind fun (b38 : Int) => if (decide (b38 > (0 : Int))) = true then ((((R.some (atI v_pot_here (0 : Int))).bind fun (c40 : Int) => (R.guard (CDivP c40 v_many)).bind fun (z41 : Unit) => R.ok (c40, z41)).bind fun (b42 : (Int × Unit)) => ((R.some (ixN (List.length v_pot_here) (0 : Int))).bind fun (j43 : Nat) => (R.ok ()).bind fun (c_ : Unit) => R.ok (j43, c_)).bind fun (p44 : (Nat × Unit)) => R.ok (b42, p44)).bind fun (p45 : (Int × Unit) × (Nat × Unit)) =>
(R.ok (.rt ((p45.1.1 / v_many, p45.1.1 % v_many).2, (List.set v_pot_here p45.2.1 ((p45.1.1 / v_many, p45.1.1 % v_many).1)))))) else (R.ok (.nx ()))) fun n46 =>
(((R.some (atI v_pot_here (1 : Int))).bind fun (b56 : Int) => (R.some (ixN (List.length v_pot_here) (1 : Int))).bind fun (j57 : Nat) => R.ok (b56, j57)).bind fun (p58 : Int × Nat) =>
(((op2 (R.some (atI (List.set v_pot_here p58.2 (((p58.1 * (48271 : Int)) + (39373 : Int)) % (2147483647 : Int))) (1 : Int))) (fun (x59 : Int) => (R.some (atI (List.set v_pot_here p58.2 (((p58.1 * (48271 : Int)) + (39373 : Int)) % (2147483647 : Int))) (1 : Int)))) (fun (x59 : Int) (y60 : Int) => R.guard (CMulX x59 y60))).bind fun (x67 : (Int × Int × Unit)) => (R.guard (v_many ≠ (0 : Int))).bind fun (z69 : Unit) => R.ok (x67, z69)).bind fun (b70 : ((Int × Int × Unit) × Unit)) => R.ok (.rt ((Int.fmod (((b70.1.1 * b70.1.2.1) % (2147483629 : Int)) / (3 : Int)) v_many), (List.set v_pot_here p58.2 (((p58.1 * (48271 : Int)) + (39373 : Int)) % (2147483647 : Int))))))))
noncomputable def m_law_digit (a : ((List Int) × Int)) : R (Int × (List Int)) := fin0 (mb_law_digit a.1 a.2)
abbrev i_law_digit (a : ((List Int) × Int)) : List Slot := [.own 1 ((oL D.int) a.1), .val (D.int a.2)]
abbrev l_law_digit (b : (Int × (List Int))) : Slot := .val (D.int b.1)
abbrev o_law_digit (b : (Int × (List Int))) : List Slot := [.own 1 ((oL D.int) b.2), .non]
theorem ok_law_digit {P : Program} {w : World} {K : PySem.W.Frag} {mg : Str → Option Value} {base : Heap} (T : Top K mg) : FnOk P w K mg base CX0 1 T.law_digit.a T.law_digit.d ["_law_pot_here", "_law_many"] (spM K i_law_digit m_law_digit l_law_digit o_law_digit) := by
  show FnOk P w K mg base CX0 (0 + 1) T.law_digit.a T.law_digit.d ["_law_pot_here", "_law_many"] (spM K i_law_digit (fun (a : ((List Int) × Int)) => fin0 (mb_law_digit a.1 a.2)) l_law_digit o_law_digit)
  refine fn_ok (n1 := fun _ => []) (c1 := fun _ => []) (k1 := fun _ => []) (ins := i_law_digit) (sl := l_law_digit) (outs := o_law_digit) (fun (a : ((List Int) × Int)) => mb_law_digit a.1 a.2) 1 T.law_digit.f sc_law_digit rfl (fun _ => rfl) (fun _ => rfl) (fun _ => rfl) (fun cdv A outer s H E hr B hB a => ?_)
  show JSs _ B _ _ (mb_law_digit a.1 a.2) _
  unfold mb_law_digit
  exact ((js_cons (ρ1 := fun (n46 : Unit) => [.own 1 ((oL D.int) a.1), .val (D.int a.2), .non]) (js_if (jt_opL (ρa := fun _ => _) (bn := fun (x35 : Int) => (decide (x35 > (0 : Int)))) (xa := fun (x35 : Int) => D.int x35) (y := fun (x35 : Int) => D.int (0 : Int)) (fun _ _ ha hb => pt_cmpR op_gt ha hb (nomark _)) (je_ixO 0 (xs := a.1) (en := D.int) (k := (0 : Int)) rfl jp_int) (fun x35 => jp_int) (fun x35 => od_gt)) (fun b38 => (js_cons1 (j1_asg (d := fun (b42 : (Int × Unit)) => (eP2 D.int D.int) (b42.1 / a.2, b42.1 % a.2)) (je_cb2 (ρa := fun _ => _) (s := fun (c40 : Int) (z41 : Unit) => .val ((eP2 D.int D.int) (c40 / a.2, c40 % a.2))) (fun _ ht => pe_callB call_divmodW (by rfl) T.z_divmod (by decide +kernel) ht) (ja_el (ρa := fun _ => _) (xa := fun (x39 : Int) => D.int x39) (je_ixO 0 (xs := a.1) (en := D.int) (k := (0 : Int)) rfl jp_int) (fun x39 => (ja_p (jp_var 1) ja_nil))) (fun c40 => cb_divmod)) (fun b42 => jg_tup rfl (jgs_cons (jg_sub 0 (xs := a.1) (en := D.int) (y := (b42.1 / a.2, b42.1 % a.2).1) (k := (0 : Int)) rfl jp_int) (fun j43 => (jgs_p (jg_name 2 sc_law_digit.nd) jgs_nil))))) fun p45 =>
(js_one (js_retP ((p45.1.1 / a.2, p45.1.1 % a.2).2, (List.set a.1 p45.2.1 ((p45.1.1 / a.2, p45.1.1 % a.2).1))) [true, false, false] (jp_var 2))))) (fun b38 => (js_nil [true, true, true] ()))) fun n46 =>
(js_cons1 (j1_asg (d := fun (b56 : Int) => D.int (((b56 * (48271 : Int)) + (39373 : Int)) % (2147483647 : Int))) (je_opL (ρa := fun _ => _) (s := fun (x53 : Int) => (.val (D.int (((x53 * (48271 : Int)) + (39373 : Int)) % (2147483647 : Int))))) (xa := fun (x53 : Int) => D.int ((x53 * (48271 : Int)) + (39373 : Int))) (y := fun (x53 : Int) => D.int (2147483647 : Int)) (fun _ _ ha hb => pe_op op_mod ha hb) (je_opL (ρa := fun _ => _) (s := fun (x50 : Int) => (.val (D.int ((x50 * (48271 : Int)) + (39373 : Int))))) (xa := fun (x50 : Int) => D.int (x50 * (48271 : Int))) (y := fun (x50 : Int) => D.int (39373 : Int)) (fun _ _ ha hb => pe_op op_add ha hb) (je_opL (ρa := fun _ => _) (s := fun (x47 : Int) => (.val (D.int (x47 * (48271 : Int))))) (xa := fun (x47 : Int) => D.int x47) (y := fun (x47 : Int) => D.int (48271 : Int)) (fun _ _ ha hb => pe_op op_mul ha hb) (je_ixO 0 (xs := a.1) (en := D.int) (k := (1 : Int)) rfl jp_int) (fun x47 => jp_int) (fun x47 => od_mulC)) (fun x50 => jp_int) (fun x50 => od_add)) (fun x53 => jp_int) (fun x53 => od_modC)) (fun b56 => (jg_sub 0 (xs := a.1) (en := D.int) (y := (((b56 * (48271 : Int)) + (39373 : Int)) % (2147483647 : Int))) (k := (1 : Int)) rfl jp_int))) fun p58 =>
(js_one (js_ret (fun (b70 : ((Int × Int × Unit) × Unit)) => ((Int.fmod (((b70.1.1 * b70.1.2.1) % (2147483629 : Int)) / (3 : Int)) a.2), (List.set a.1 p58.2 (((p58.1 * (48271 : Int)) + (39373 : Int)) % (2147483647 : Int))))) [true, false, true] (je_opLG (ρa := fun _ => _) (s := fun (x67 : (Int × Int × Unit)) (z69 : Unit) => (.val (D.int (Int.fmod (((x67.1 * x67.2.1) % (2147483629 : Int)) / (3 : Int)) a.2)))) (xa := fun (x67 : (Int × Int × Unit)) => D.int (((x67.1 * x67.2.1) % (2147483629 : Int)) / (3 : Int))) (y := fun (x67 : (Int × Int × Unit)) => D.int a.2) (fun _ _ ha hb => pe_op op_modN ha hb) (je_opL (ρa := fun _ => _) (s := fun (x64 : (Int × Int × Unit)) => (.val (D.int (((x64.1 * x64.2.1) % (2147483629 : Int)) / (3 : Int))))) (xa := fun (x64 : (Int × Int × Unit)) => D.int ((x64.1 * x64.2.1) % (2147483629 : Int))) (y := fun (x64 : (Int × Int × Unit)) => D.int (3 : Int)) (fun _ _ ha hb => pe_op op_fdiv ha hb) (je_opL (ρa := fun _ => _) (s := fun (x61 : (Int × Int × Unit)) => (.val (D.int ((x61.1 * x61.2.1) % (2147483629 : Int))))) (xa := fun (x61 : (Int × Int × Unit)) => D.int (x61.1 * x61.2.1)) (y := fun (x61 : (Int × Int × Unit)) => D.int (2147483629 : Int)) (fun _ _ ha hb => pe_op op_mod ha hb) (je_op2 (ρa := fun _ => _) (ρb := fun _ _ => _) (s := fun (x59 : Int) (y60 : Int) (z0 : Unit) => (.val (D.int (x59 * y60)))) (xa := fun (x59 : Int) => D.int x59) (xb := fun (x59 : Int) (y60 : Int) => D.int y60) (fun _ _ ha hb => pe_op op_mulX ha hb) (je_ixO 0 (xs := (List.set a.1 p58.2 (((p58.1 * (48271 : Int)) + (39373 : Int)) % (2147483647 : Int)))) (en := D.int) (k := (1 : Int)) rfl jp_int) (fun x59 => (je_ixO 0 (xs := (List.set a.1 p58.2 (((p58.1 * (48271 : Int)) + (39373 : Int)) % (2147483647 : Int)))) (en := D.int) (k := (1 : Int)) rfl jp_int)) (fun x59 y60 => od_mul)) (fun x61 => jp_int) (fun x61 => od_modC)) (fun x64 => jp_int) (fun x64 => od_fdivC)) (fun x67 => (jp_var 1)) (fun x67 => od_mod)))))))
/-! law_low -/
abbrev s_law_low : Stmt := topS 8
theorem sc_law_low : FnScope ["_law_n", "_law_d", "_law_one", "_law_other"] ["_law_n", "_law_d"] (defScope s_law_low) := ⟨rfl, rfl, rfl, by decide +kernel, rfl, by decide +kernel, by decide +kernel⟩
noncomputable def mb_law_low (v_n : Int) (v_d : Int) : R (Fl Unit Unit (Int × Int)) :=
(bindF (whR (fun (s123 : (Int × Int)) => R.ok (decide (s123.2 > (0 : Int)))) (fun s123 =>
((R.guard (s123.2 ≠ (0 : Int))).bind fun (b131 : Unit) =>
(R.ok (.nx (s123.2, (Int.fmod s123.1 s123.2)))))) ((if v_n < 0 then -v_n else v_n), (if v_d < 0 then -v_d else v_d))) fun n124 =>
(bindF (if (decide (v_d < (0 : Int))) = true then (lt (-n124.1) fun v_one_136 =>
(R.ok (.nx v_one_136))) else (R.ok (.nx n124.1))) fun n137 =>
(((R.guard (divOk v_n n137)).bind fun (x140 : Unit) => (R.guard (divOk v_d n137)).bind fun (z144 : Unit) => R.ok (x140, z144)).bind fun (b145 : (Unit × Unit)) => R.ok (.rt ((Int.fdiv v_n n137), (Int.fdiv v_d n137))))))
noncomputable def m_law_low (a : (Int × Int)) : R (Int × Int) := fin0 (mb_law_low a.1 a.2)
abbrev i_law_low (a : (Int × Int)) : List Slot := [.val (D.int a.1), .val (D.int a.2)]
abbrev l_law_low (b : (Int × Int)) : Slot := .val ((eP2 D.int D.int) b)
abbrev o_law_low (b : (Int × Int)) : List Slot := [.non, .non]
theorem ok_law_low {P : Program} {w : World} {K : PySem.W.Frag} {mg : Str → Option Value} {base : Heap} (T : Top K mg) : FnOk P w K mg base CX0 1 T.law_low.a T.law_low.d ["_law_n", "_law_d"] (spM K i_law_low m_law_low l_law_low o_law_low) := by
  show FnOk P w K mg base CX0 (0 + 1) T.law_low.a T.law_low.d ["_law_n", "_law_d"] (spM K i_law_low (fun (a : (Int × Int)) => fin0 (mb_law_low a.1 a.2)) l_law_low o_law_low)
  refine fn_ok (n1 := fun _ => []) (c1 := fun _ => []) (k1 := fun _ => []) (ins := i_law_low) (sl := l_law_low) (outs := o_law_low) (fun (a : (Int × Int)) => mb_law_low a.1 a.2) 2 T.law_low.f sc_law_low rfl (fun _ => rfl) (fun _ => rfl) (fun _ => rfl) (fun cdv A outer s H E hr B hB a => ?_)
  show JSs _ B _ _ (mb_law_low a.1 a.2) _
  unfold mb_law_low
  exact ((js_consP (j1_par 2 3 (d1 := fun (b122 : Unit) => D.int (if a.1 < 0 then -a.1 else a.1)) (d2 := fun (b122 : Unit) => D.int (if a.2 < 0 then -a.2 else a.2)) rfl sc_law_low.nd (ja_p (je_cb (fun _ ht => pe_callB call_abs (by rfl) T.z_abs (by decide +kernel) ht) (ja_p (jp_var 0) ja_nil) cb_abs) (ja_p (je_cb (fun _ ht => pe_callB call_abs (by rfl) T.z_abs (by decide +kernel) ht) (ja_p (jp_var 1) ja_nil) cb_abs) ja_nil)))
(js_cons (ρ1 := fun (n124 : (Int × Int)) => [.val (D.int a.1), .val (D.int a.2), .val (D.int n124.1), .val (D.int n124.2)]) (js_while (fun (s123 : (Int × Int)) => [.val (D.int a.1), .val (D.int a.2), .val (D.int s123.1), .val (D.int s123.2)]) PassesOwn.never ((if a.1 < 0 then -a.1 else a.1), (if a.2 < 0 then -a.2 else a.2)) [true, true, true, true] rfl (fun s123 => (jt_pb (jt_op (fun _ _ ha hb => pt_cmpR op_gt ha hb (nomark _)) (jp_var 3) jp_int od_gt))) (fun s123 =>
(js_cons1 (j1_par 2 3 (d1 := fun (b131 : Unit) => D.int s123.2) (d2 := fun (b131 : Unit) => D.int (Int.fmod s123.1 s123.2)) rfl sc_law_low.nd (ja_p (jp_var 3) (ja_el (ρa := fun _ => _) (xa := fun (x130 : Unit) => D.int (Int.fmod s123.1 s123.2)) (je_op (fun _ _ ha hb => pe_op op_modN ha hb) (jp_var 2) (jp_var 3) od_mod) (fun x130 => ja_nil)))) fun b131 =>
(js_nil [true, true, true, true] (s123.2, (Int.fmod s123.1 s123.2)))))) fun n124 =>
(js_cons (ρ1 := fun (n137 : Int) => [.val (D.int a.1), .val (D.int a.2), .val (D.int n137), .val (D.int n124.2)]) (js_ifP (jt_op (fun _ _ ha hb => pt_cmpR op_lt ha hb (nomark _)) (jp_var 1) jp_int od_lt) (js_setP 2 D.int (-n124.1) sc_law_low.nd (jp_neg (jp_var 2)) fun v_one_136 =>
(js_nil [true, true, true, true] v_one_136)) (js_nil [true, true, true, true] n124.1)) fun n137 =>
(js_one (js_ret (fun (b145 : (Unit × Unit)) => ((Int.fdiv a.1 n137), (Int.fdiv a.2 n137))) [false, false, false, false] (je_tup (ja_e (ρ' := fun _ _ => _) (ρa := fun _ => _) (xa := fun (x140 : Unit) => D.int (Int.fdiv a.1 n137)) (je_op (fun _ _ ha hb => pe_op op_fdivZ ha hb) (jp_var 0) (jp_var 2) od_fdiv) (fun x140 => (ja_el (ρa := fun _ => _) (xa := fun (x143 : Unit) => D.int (Int.fdiv a.2 n137)) (je_op (fun _ _ ha hb => pe_op op_fdivZ ha hb) (jp_var 1) (jp_var 2) od_fdiv) (fun x143 => ja_nil)))))))))))
/-! law_plus -/
abbrev s_law_plus : Stmt := topS 9
theorem sc_law_plus : FnScope ["_law_one", "_law_other"] ["_law_one", "_law_other"] (defScope s_law_plus) := ⟨rfl, rfl, rfl, by decide +kernel, rfl, by decide +kernel, by decide +kernel⟩
noncomputable def mb_law_plus (v_one : (Int × Int)) (v_other : (Int × Int)) : R (Fl Unit Unit (Int × Int)) :=
((((op2 (R.guard (CMulX v_one.1 v_other.2)) (fun (x152 : Unit) => R.guard (CMulX v_other.1 v_one.2)) (fun (x152 : Unit) (y153 : Unit) => R.ok ())).bind fun (x160 : (Unit × Unit × Unit)) => (R.guard (CMulX v_one.2 v_other.2)).bind fun (z168 : Unit) => R.ok (x160, z168)).bind fun (c169 : ((Unit × Unit × Unit) × Unit)) => (m_law_low (((v_one.1 * v_other.2) + (v_other.1 * v_one.2)), (v_one.2 * v_other.2))).bind fun (z170 : (Int × Int)) => R.ok (c169, z170)).bind fun (b171 : (((Unit × Unit × Unit) × Unit) × (Int × Int))) => R.ok (.rt b171.2))
noncomputable def m_law_plus (a : ((Int × Int) × (Int × Int))) : R (Int × Int) := fin0 (mb_law_plus a.1 a.2)
abbrev i_law_plus (a : ((Int × Int) × (Int × Int))) : List Slot := [.val ((eP2 D.int D.int) a.1), .val ((eP2 D.int D.int) a.2)]
abbrev l_law_plus (b : (Int × Int)) : Slot := .val ((eP2 D.int D.int) b)
abbrev o_law_plus (b : (Int × Int)) : List Slot := [.non, .non]
theorem ok_law_plus {P : Program} {w : World} {K : PySem.W.Frag} {mg : Str → Option Value} {base : Heap} (T : Top K mg) : FnOk P w K mg base CX0 2 T.law_plus.a T.law_plus.d ["_law_one", "_law_other"] (spM K i_law_plus m_law_plus l_law_plus o_law_plus) := by
  show FnOk P w K mg base CX0 (1 + 1) T.law_plus.a T.law_plus.d ["_law_one", "_law_other"] (spM K i_law_plus (fun (a : ((Int × Int) × (Int × Int))) => fin0 (mb_law_plus a.1 a.2)) l_law_plus o_law_plus)
  refine fn_ok (n1 := fun _ => []) (c1 := fun _ => []) (k1 := fun _ => []) (ins := i_law_plus) (sl := l_law_plus) (outs := o_law_plus) (fun (a : ((Int × Int) × (Int × Int))) => mb_law_plus a.1 a.2) 0 T.law_plus.f sc_law_plus rfl (fun _ => rfl) (fun _ => rfl) (fun _ => rfl) (fun cdv A outer s H E hr B hB a => ?_)
  show JSs _ B _ _ (mb_law_plus a.1 a.2) _
  unfold mb_law_plus
  exact ((js_one (js_ret (fun (b171 : (((Unit × Unit × Unit) × Unit) × (Int × Int))) => b171.2) [false, false] (je_callVE (ρa := fun _ => _) (ins := i_law_low) (mf := m_law_low) (sl := l_law_low) (outs := o_law_low) (ok_law_low T) (hr.mono (by decide)) (by rfl) T.law_low.g T.law_low.f.kp T.law_low.b pass0 (arg := fun (c169 : ((Unit × Unit × Unit) × Unit)) => (((a.1.1 * a.2.2) + (a.2.1 * a.1.2)), (a.1.2 * a.2.2))) (ja_e (ρ' := fun _ _ => _) (ρa := fun _ => _) (xa := fun (x160 : (Unit × Unit × Unit)) => D.int ((a.1.1 * a.2.2) + (a.2.1 * a.1.2))) (je_op2 (ρa := fun _ => _) (ρb := fun _ _ => _) (s := fun (x152 : Unit) (y153 : Unit) (z0 : Unit) => (.val (D.int ((a.1.1 * a.2.2) + (a.2.1 * a.1.2))))) (xa := fun (x152 : Unit) => D.int (a.1.1 * a.2.2)) (xb := fun (x152 : Unit) (y153 : Unit) => D.int (a.2.1 * a.1.2)) (fun _ _ ha hb => pe_op op_add ha hb) (je_op (fun _ _ ha hb => pe_op op_mulX ha hb) (je_op (fun _ _ ha hb => pe_ix ix_tup ha hb (fun _ _ => rfl)) (jp_var 0) jp_int (od_ixTs rfl)) (je_op (fun _ _ ha hb => pe_ix ix_tup ha hb (fun _ _ => rfl)) (jp_var 1) jp_int (od_ixTs rfl)) od_mul) (fun x152 => (je_op (fun _ _ ha hb => pe_op op_mulX ha hb) (je_op (fun _ _ ha hb => pe_ix ix_tup ha hb (fun _ _ => rfl)) (jp_var 1) jp_int (od_ixTs rfl)) (je_op (fun _ _ ha hb => pe_ix ix_tup ha hb (fun _ _ => rfl)) (jp_var 0) jp_int (od_ixTs rfl)) od_mul)) (fun x152 y153 => od_add)) (fun x160 => (ja_el (ρa := fun _ => _) (xa := fun (x167 : Unit) => D.int (a.1.2 * a.2.2)) (je_op (fun _ _ ha hb => pe_op op_mulX ha hb) (je_op (fun _ _ ha hb => pe_ix ix_tup ha hb (fun _ _ => rfl)) (jp_var 0) jp_int (od_ixTs rfl)) (je_op (fun _ _ ha hb => pe_ix ix_tup ha hb (fun _ _ => rfl)) (jp_var 1) jp_int (od_ixTs rfl)) od_mul) (fun x167 => ja_nil)))) hB))))
/-! law_times -/
abbrev s_law_times : Stmt := topS 11
theorem sc_law_times : FnScope ["_law_one", "_law_other"] ["_law_one", "_law_other"] (defScope s_law_times) := ⟨rfl, rfl, rfl, by decide +kernel, rfl, by decide +kernel, by decide +kernel⟩
noncomputable def mb_law_times (v_one : (Int × Int)) (v_other : (Int × Int)) : R (Fl Unit Unit (Int × Int)) :=
((((R.guard (CMulX v_one.1 v_other.1)).bind fun (x178 : Unit) => (R.guard (CMulX v_one.2 v_other.2)).bind fun (z186 : Unit) => R.ok (x178, z186)).bind fun (c187 : (Unit × Unit)) => (m_law_low ((v_one.1 * v_other.1), (v_one.2 * v_other.2))).bind fun (z188 : (Int × Int)) => R.ok (c187, z188)).bind fun (b189 : ((Unit × Unit) × (Int × Int))) => R.ok (.rt b189.2))
noncomputable def m_law_times (a : ((Int × Int) × (Int × Int))) : R (Int × Int) := fin0 (mb_law_times a.1 a.2)
abbrev i_law_times (a : ((Int × Int) × (Int × Int))) : List Slot := [.val ((eP2 D.int D.int) a.1), .val ((eP2 D.int D.int) a.2)]
abbrev l_law_times (b : (Int × Int)) : Slot := .val ((eP2 D.int D.int) b)
abbrev o_law_times (b : (Int × Int)) : List Slot := [.non, .non]
theorem ok_law_times {P : Program} {w : World} {K : PySem.W.Frag} {mg : Str → Option Value} {base : Heap} (T : Top K mg) : FnOk P w K mg base CX0 2 T.law_times.a T.law_times.d ["_law_one", "_law_other"] (spM K i_law_times m_law_times l_law_times o_law_times) := by
  show FnOk P w K mg base CX0 (1 + 1) T.law_times.a T.law_times.d ["_law_one", "_law_other"] (spM K i_law_times (fun (a : ((Int × Int) × (Int × Int))) => fin0 (mb_law_times a.1 a.2)) l_law_times o_law_times)
  refine fn_ok (n1 := fun _ => []) (c1 := fun _ => []) (k1 := fun _ => []) (ins := i_law_times) (sl := l_law_times) (outs := o_law_times) (fun (a : ((Int × Int) × (Int × Int))) => mb_law_times a.1 a.2) 0 T.law_times.f sc_law_times rfl (fun _ => rfl) (fun _ => rfl) (fun _ => rfl) (fun cdv A outer s H E hr B hB a => ?_)
  show JSs _ B _ _ (mb_law_times a.1 a.2) _
  unfold mb_law_times
  exact ((js_one (js_ret (fun (b189 : ((Unit × Unit) × (Int × Int))) => b189.2) [false, false] (je_callVE (ρa := fun _ => _) (ins := i_law_low) (mf := m_law_low) (sl := l_law_low) (outs := o_law_low) (ok_law_low T) (hr.mono (by decide)) (by rfl) T.law_low.g T.law_low.f.kp T.law_low.b pass0 (arg := fun (c187 : (Unit × Unit)) => ((a.1.1 * a.2.1), (a.1.2 * a.2.2))) (ja_e (ρ' := fun _ _ => _) (ρa := fun _ => _) (xa := fun (x178 : Unit) => D.int (a.1.1 * a.2.1)) (je_op (fun _ _ ha hb => pe_op op_mulX ha hb) (je_op (fun _ _ ha hb => pe_ix ix_tup ha hb (fun _ _ => rfl)) (jp_var 0) jp_int (od_ixTs rfl)) (je_op (fun _ _ ha hb => pe_ix ix_tup ha hb (fun _ _ => rfl)) (jp_var 1) jp_int (od_ixTs rfl)) od_mul) (fun x178 => (ja_el (ρa := fun _ => _) (xa := fun (x185 : Unit) => D.int (a.1.2 * a.2.2)) (je_op (fun _ _ ha hb => pe_op op_mulX ha hb) (je_op (fun _ _ ha hb => pe_ix ix_tup ha hb (fun _ _ => rfl)) (jp_var 0) jp_int (od_ixTs rfl)) (je_op (fun _ _ ha hb => pe_ix ix_tup ha hb (fun _ _ => rfl)) (jp_var 1) jp_int (od_ixTs rfl)) od_mul) (fun x185 => ja_nil)))) hB))))
/-! law_less -/
abbrev s_law_less : Stmt := topS 10
theorem sc_law_less : FnScope ["_law_one", "_law_other"] ["_law_one", "_law_other"] (defScope s_law_less) := ⟨rfl, rfl, rfl, by decide +kernel, rfl, by decide +kernel, by decide +kernel⟩
noncomputable def mb_law_less (v_one : (Int × Int)) (v_other : (Int × Int)) : R (Fl Unit Unit (Int × Int)) :=
((((op2 (R.guard (CMulX v_one.1 v_other.2)) (fun (x196 : Unit) => R.guard (CMulX v_other.1 v_one.2)) (fun (x196 : Unit) (y197 : Unit) => R.ok ())).bind fun (x204 : (Unit × Unit × Unit)) => (R.guard (CMulX v_one.2 v_other.2)).bind fun (z212 : Unit) => R.ok (x204, z212)).bind fun (c213 : ((Unit × Unit × Unit) × Unit)) => (m_law_low (((v_one.1 * v_other.2) - (v_other.1 * v_one.2)), (v_one.2 * v_other.2))).bind fun (z214 : (Int × Int)) => R.ok (c213, z214)).bind fun (b215 : (((Unit × Unit × Unit) × Unit) × (Int × Int))) => R.ok (.rt b215.2))
noncomputable def m_law_less (a : ((Int × Int) × (Int × Int))) : R (Int × Int) := fin0 (mb_law_less a.1 a.2)
abbrev i_law_less (a : ((Int × Int) × (Int × Int))) : List Slot := [.val ((eP2 D.int D.int) a.1), .val ((eP2 D.int D.int) a.2)]
abbrev l_law_less (b : (Int × Int)) : Slot := .val ((eP2 D.int D.int) b)
abbrev o_law_less (b : (Int × Int)) : List Slot := [.non, .non]
theorem ok_law_less {P : Program} {w : World} {K : PySem.W.Frag} {mg : Str → Option Value} {base : Heap} (T : Top K mg) : FnOk P w K mg base CX0 2 T.law_less.a T.law_less.d ["_law_one", "_law_other"] (spM K i_law_less m_law_less l_law_less o_law_less) := by
  show FnOk P w K mg base CX0 (1 + 1) T.law_less.a T.law_less.d ["_law_one", "_law_other"] (spM K i_law_less (fun (a : ((Int × Int) × (Int × Int))) => fin0 (mb_law_less a.1 a.2)) l_law_less o_law_less)
  refine fn_ok (n1 := fun _ => []) (c1 := fun _ => []) (k1 := fun _ => []) (ins := i_law_less) (sl := l_law_less) (outs := o_law_less) (fun (a : ((Int × Int) × (Int × Int))) => mb_law_less a.1 a.2) 0 T.law_less.f sc_law_less rfl (fun _ => rfl) (fun _ => rfl) (fun _ => rfl) (fun cdv A outer s H E hr B hB a => ?_)
  show JSs _ B _ _ (mb_law_less a.1 a.2) _
  unfold mb_law_less
  exact ((js_one (js_ret (fun (b215 : (((Unit × Unit × Unit) × Unit) × (Int × Int))) => b215.2) [false, false] (je_callVE (ρa := fun _ => _) (ins := i_law_low) (mf := m_law_low) (sl := l_law_low) (outs := o_law_low) (ok_law_low T) (hr.mono (by decide)) (by rfl) T.law_low.g T.law_low.f.kp T.law_low.b pass0 (arg := fun (c213 : ((Unit × Unit × Unit) × Unit)) => (((a.1.1 * a.2.2) - (a.2.1 * a.1.2)), (a.1.2 * a.2.2))) (ja_e (ρ' := fun _ _ => _) (ρa := fun _ => _) (xa := fun (x204 : (Unit × Unit × Unit)) => D.int ((a.1.1 * a.2.2) - (a.2.1 * a.1.2))) (je_op2 (ρa := fun _ => _) (ρb := fun _ _ => _) (s := fun (x196 : Unit) (y197 : Unit) (z0 : Unit) => (.val (D.int ((a.1.1 * a.2.2) - (a.2.1 * a.1.2))))) (xa := fun (x196 : Unit) => D.int (a.1.1 * a.2.2)) (xb := fun (x196 : Unit) (y197 : Unit) => D.int (a.2.1 * a.1.2)) (fun _ _ ha hb => pe_op op_sub ha hb) (je_op (fun _ _ ha hb => pe_op op_mulX ha hb) (je_op (fun _ _ ha hb => pe_ix ix_tup ha hb (fun _ _ => rfl)) (jp_var 0) jp_int (od_ixTs rfl)) (je_op (fun _ _ ha hb => pe_ix ix_tup ha hb (fun _ _ => rfl)) (jp_var 1) jp_int (od_ixTs rfl)) od_mul) (fun x196 => (je_op (fun _ _ ha hb => pe_op op_mulX ha hb) (je_op (fun _ _ ha hb => pe_ix ix_tup ha hb (fun _ _ => rfl)) (jp_var 1) jp_int (od_ixTs rfl)) (je_op (fun _ _ ha hb => pe_ix ix_tup ha hb (fun _ _ => rfl)) (jp_var 0) jp_int (od_ixTs rfl)) od_mul)) (fun x196 y197 => od_sub)) (fun x204 => (ja_el (ρa := fun _ => _) (xa := fun (x211 : Unit) => D.int (a.1.2 * a.2.2)) (je_op (fun _ _ ha hb => pe_op op_mulX ha hb) (je_op (fun _ _ ha hb => pe_ix ix_tup ha hb (fun _ _ => rfl)) (jp_var 0) jp_int (od_ixTs rfl)) (je_op (fun _ _ ha hb => pe_ix ix_tup ha hb (fun _ _ => rfl)) (jp_var 1) jp_int (od_ixTs rfl)) od_mul) (fun x211 => ja_nil)))) hB))))
/-! law_between -/
abbrev s_law_between : Stmt := topS 14
theorem sc_law_between : FnScope ["_law_one", "_law_other", "_law_part"] ["_law_one", "_law_other", "_law_part"] (defScope s_law_between) := ⟨rfl, rfl, rfl, by decide +kernel, rfl, by decide +kernel, by decide +kernel⟩
noncomputable def mb_law_between (v_one : (Int × Int)) (v_other : (Int × Int)) (v_part : (Int × Int)) : R (Fl Unit Unit (Int × Int)) :=
((((m_law_less (v_other, v_one)).bind fun (c217 : (Int × Int)) => (m_law_times (v_part, c217)).bind fun (z218 : (Int × Int)) => R.ok (c217, z218)).bind fun (c220 : ((Int × Int) × (Int × Int))) => (m_law_plus (v_one, c220.2)).bind fun (z221 : (Int × Int)) => R.ok (c220, z221)).bind fun (b222 : (((Int × Int) × (Int × Int)) × (Int × Int))) => R.ok (.rt b222.2))
noncomputable def m_law_between (a : ((Int × Int) × (Int × Int) × (Int × Int))) : R (Int × Int) := fin0 (mb_law_between a.1 a.2.1 a.2.2)
abbrev i_law_between (a : ((Int × Int) × (Int × Int) × (Int × Int))) : List Slot := [.val ((eP2 D.int D.int) a.1), .val ((eP2 D.int D.int) a.2.1), .val ((eP2 D.int D.int) a.2.2)]
abbrev l_law_between (b : (Int × Int)) : Slot := .val ((eP2 D.int D.int) b)
abbrev o_law_between (b : (Int × Int)) : List Slot := [.non, .non, .non]
theorem ok_law_between {P : Program} {w : World} {K : PySem.W.Frag} {mg : Str → Option Value} {base : Heap} (T : Top K mg) : FnOk P w K mg base CX0 3 T.law_between.a T.law_between.d ["_law_one", "_law_other", "_law_part"] (spM K i_law_between m_law_between l_law_between o_law_between) := by
  show FnOk P w K mg base CX0 (2 + 1) T.law_between.a T.law_between.d ["_law_one", "_law_other", "_law_part"] (spM K i_law_between (fun (a : ((Int × Int) × (Int × Int) × (Int × Int))) => fin0 (mb_law_between a.1 a.2.1 a.2.2)) l_law_between o_law_between)
  refine fn_ok (n1 := fun _ => []) (c1 := fun _ => []) (k1 := fun _ => []) (ins := i_law_between) (sl := l_law_between) (outs := o_law_between) (fun (a : ((Int × Int) × (Int × Int) × (Int × Int))) => mb_law_between a.1 a.2.1 a.2.2) 0 T.law_between.f sc_law_between rfl (fun _ => rfl) (fun _ => rfl) (fun _ => rfl) (fun cdv A outer s H E hr B hB a => ?_)
  show JSs _ B _ _ (mb_law_between a.1 a.2.1 a.2.2) _
  unfold mb_law_between
  exact ((js_one (js_ret (fun (b222 : (((Int × Int) × (Int × Int)) × (Int × Int))) => b222.2) [false, false, false] (je_callVE (ρa := fun _ => _) (ins := i_law_plus) (mf := m_law_plus) (sl := l_law_plus) (outs := o_law_plus) (ok_law_plus T) (hr.mono (by decide)) (by rfl) T.law_plus.g T.law_plus.f.kp T.law_plus.b pass0 (arg := fun (c220 : ((Int × Int) × (Int × Int))) => (a.1, c220.2)) (ja_p (jp_var 0) (ja_el (ρa := fun _ => _) (xa := fun (x219 : ((Int × Int) × (Int × Int))) => (eP2 D.int D.int) x219.2) (je_callVE (ρa := fun _ => _) (ins := i_law_times) (mf := m_law_times) (sl := l_law_times) (outs := o_law_times) (ok_law_times T) (hr.mono (by decide)) (by rfl) T.law_times.g T.law_times.f.kp T.law_times.b pass0 (arg := fun (c217 : (Int × Int)) => (a.2.2, c217)) (ja_p (jp_var 2) (ja_el (ρa := fun _ => _) (xa := fun (x216 : (Int × Int)) => (eP2 D.int D.int) x216) (je_callV (ins := i_law_less) (mf := m_law_less) (sl := l_law_less) (outs := o_law_less) (ok_law_less T) (hr.mono (by decide)) (by rfl) T.law_less.g T.law_less.f.kp T.law_less.b pass0 (arg := (a.2.1, a.1)) (ja_p (jp_var 1) (ja_p (jp_var 0) ja_nil)) hB) (fun x216 => ja_nil))) hB) (fun x219 => ja_nil))) hB))))
/-! law_number -/
abbrev s_law_number : Stmt := topS 13
theorem sc_law_number : FnScope ["_law_pot_here", "_law_mode", "_law_far"] ["_law_pot_here", "_law_mode"] (defScope s_law_number) := ⟨rfl, rfl, rfl, by decide +kernel, rfl, by decide +kernel, by decide +kernel⟩
noncomputable def mb_law_number (v_pot_here : (List Int)) (v_mode : Int) : R (Fl Unit Unit ((Int × Int) × (List Int))) :=
(bindF (if (decide (v_mode = (0 : Int))) = true then ((((m_law_digit (v_pot_here, (9 : Int))).bind fun (x242 : (Int × (List Int))) => (m_law_digit (x242.2, (3 : Int))).bind fun (z247 : (Int × (List Int))) => R.ok (x242, z247)).bind fun (c248 : ((Int × (List Int)) × (Int × (List Int)))) => (m_law_low ((c248.1.1 - (4 : Int)), ((1 : Int) + c248.2.1))).bind fun (z249 : (Int × Int)) => R.ok (c248, z249)).bind fun (b250 : (((Int × (List Int)) × (Int × (List Int))) × (Int × Int))) => R.ok (.rt (b250.2, b250.1.2.2))) else (R.ok (.nx ()))) fun n251 =>
(bindF (if (decide (v_mode = (1 : Int))) = true then ((m_law_digit (v_pot_here, (7 : Int))).bind fun (b259 : (Int × (List Int))) => R.ok (.rt (((b259.1 - (3 : Int)), (1 : Int)), b259.2))) else (R.ok (.nx ()))) fun n260 =>
(((m_law_digit (v_pot_here, (3 : Int))).bind fun (y270 : (Int × (List Int))) => (R.some (atI [((10 : Int) ^ (Int.toNat (3 : Int))), ((10 : Int) ^ (Int.toNat (12 : Int))), ((10 : Int) ^ (Int.toNat (57 : Int)))] y270.1)).bind fun (z271 : Int) => R.ok (y270, z271)).bind fun (b273 : ((Int × (List Int)) × Int)) => lt b273.2 fun v_far_272 =>
((((m_law_digit (b273.1.2, ((2 : Int) * v_far_272))).bind fun (x279 : (Int × (List Int))) => (m_law_digit (x279.2, v_far_272)).bind fun (z284 : (Int × (List Int))) => R.ok (x279, z284)).bind fun (c285 : ((Int × (List Int)) × (Int × (List Int)))) => (m_law_low ((c285.1.1 - v_far_272), ((1 : Int) + c285.2.1))).bind fun (z286 : (Int × Int)) => R.ok (c285, z286)).bind fun (b287 : (((Int × (List Int)) × (Int × (List Int))) × (Int × Int))) => R.ok (.rt (b287.2, b287.1.2.2))))))
noncomputable def m_law_number (a : ((List Int) × Int)) : R ((Int × Int) × (List Int)) := fin0 (mb_law_number a.1 a.2)
abbrev i_law_number (a : ((List Int) × Int)) : List Slot := [.own 1 ((oL D.int) a.1), .val (D.int a.2)]
abbrev l_law_number (b : ((Int × Int) × (List Int))) : Slot := .val ((eP2 D.int D.int) b.1)
abbrev o_law_number (b : ((Int × Int) × (List Int))) : List Slot := [.own 1 ((oL D.int) b.2), .non]
theorem ok_law_number {P : Program} {w : World} {K : PySem.W.Frag} {mg : Str → Option Value} {base : Heap} (T : Top K mg) : FnOk P w K mg base CX0 2 T.law_number.a T.law_number.d ["_law_pot_here", "_law_mode"] (spM K i_law_number m_law_number l_law_number o_law_number) := by
  show FnOk P w K mg base CX0 (1 + 1) T.law_number.a T.law_number.d ["_law_pot_here", "_law_mode"] (spM K i_law_number (fun (a : ((List Int) × Int)) => fin0 (mb_law_number a.1 a.2)) l_law_number o_law_number)
  refine fn_ok (n1 := fun _ => []) (c1 := fun _ => []) (k1 := fun _ => []) (ins := i_law_number) (sl := l_law_number) (outs := o_law_number) (fun (a : ((List Int) × Int)) => mb_law_number a.1 a.2) 1 T.law_number.f sc_law_number rfl (fun _ => rfl) (fun _ => rfl) (fun _ => rfl) (fun cdv A outer s H E hr B hB a => ?_)
  show JSs _ B _ _ (mb_law_number a.1 a.2) _
  unfold mb_law_number
  exact ((js_cons (ρ1 := fun (n251 : Unit) => [.own 1 ((oL D.int) a.1), .val (D.int a.2), .non]) (js_ifP (jt_op (fun _ _ ha hb => pt_cmpR op_eq ha hb (nomark _)) (jp_var 1) jp_int od_eqI) (js_one (js_ret (fun (b250 : (((Int × (List Int)) × (Int × (List Int))) × (Int × Int))) => (b250.2, b250.1.2.2)) [true, false, true] (je_callVE (ins := i_law_low) (mf := m_law_low) (sl := l_law_low) (outs := o_law_low) (ok_law_low T) (hr.mono (by decide)) (by rfl) T.law_low.g T.law_low.f.kp T.law_low.b pass0 (arg := fun (c248 : ((Int × (List Int)) × (Int × (List Int)))) => ((c248.1.1 - (4 : Int)), ((1 : Int) + c248.2.1))) (ja_e (xa := fun (x242 : (Int × (List Int))) => D.int (x242.1 - (4 : Int))) (je_opL (s := fun (x239 : (Int × (List Int))) => (.val (D.int (x239.1 - (4 : Int))))) (xa := fun (x239 : (Int × (List Int))) => D.int x239.1) (y := fun (x239 : (Int × (List Int))) => D.int (4 : Int)) (fun _ _ ha hb => pe_op op_sub ha hb) (je_callP (ins := i_law_digit) (mf := m_law_digit) (sl := l_law_digit) (outs := o_law_digit) (ok_law_digit T) (hr.mono (by decide)) (by rfl) T.law_digit.g T.law_digit.f.kp T.law_digit.b pass0 (arg := (a.1, (9 : Int))) (ja_s 0 (ja_p jp_int ja_nil)) hB) (fun x239 => jp_int) (fun x239 => od_sub)) (fun x242 => (ja_el (xa := fun (x246 : (Int × (List Int))) => D.int ((1 : Int) + x246.1)) (je_opR (s := fun (y244 : (Int × (List Int))) => (.val (D.int ((1 : Int) + y244.1)))) (xb := fun (y244 : (Int × (List Int))) => D.int y244.1) (fun _ _ ha hb => pe_op op_add ha hb) jp_int (je_callP (ins := i_law_digit) (mf := m_law_digit) (sl := l_law_digit) (outs := o_law_digit) (ok_law_digit T) (hr.mono (by decide)) (by rfl) T.law_digit.g T.law_digit.f.kp T.law_digit.b pass0 (arg := (x242.2, (3 : Int))) (ja_s 0 (ja_p jp_int ja_nil)) hB) (fun y244 => od_add)) (fun x246 => ja_nil)))) hB))) (js_nil [true, true, true] ())) fun n251 =>
(js_cons (ρ1 := fun (n260 : Unit) => [.own 1 ((oL D.int) a.1), .val (D.int a.2), .non]) (js_ifP (jt_op (fun _ _ ha hb => pt_cmpR op_eq ha hb (nomark _)) (jp_var 1) jp_int od_eqI) (js_one (js_ret (fun (b259 : (Int × (List Int))) => (((b259.1 - (3 : Int)), (1 : Int)), b259.2)) [true, false, true] (je_tup (ja_el (xa := fun (x258 : (Int × (List Int))) => D.int (x258.1 - (3 : Int))) (je_opL (s := fun (x255 : (Int × (List Int))) => (.val (D.int (x255.1 - (3 : Int))))) (xa := fun (x255 : (Int × (List Int))) => D.int x255.1) (y := fun (x255 : (Int × (List Int))) => D.int (3 : Int)) (fun _ _ ha hb => pe_op op_sub ha hb) (je_callP (ins := i_law_digit) (mf := m_law_digit) (sl := l_law_digit) (outs := o_law_digit) (ok_law_digit T) (hr.mono (by decide)) (by rfl) T.law_digit.g T.law_digit.f.kp T.law_digit.b pass0 (arg := (a.1, (7 : Int))) (ja_s 0 (ja_p jp_int ja_nil)) hB) (fun x255 => jp_int) (fun x255 => od_sub)) (fun x258 => (ja_p jp_int ja_nil)))))) (js_nil [true, true, true] ())) fun n260 =>
(js_setE 2 D.int (fun (b273 : ((Int × (List Int)) × Int)) => b273.2) sc_law_number.nd (je_opRG (s := fun (y270 : (Int × (List Int))) (z271 : Int) => (.val (D.int z271))) (xb := fun (y270 : (Int × (List Int))) => D.int y270.1) (fun _ _ ha hb => pe_ix ix_list ha hb (fun _ _ => rfl)) (je_frzL (v := fun (b268 : Unit) => [((10 : Int) ^ (Int.toNat (3 : Int))), ((10 : Int) ^ (Int.toNat (12 : Int))), ((10 : Int) ^ (Int.toNat (57 : Int)))]) (je_lstT D.int (fun (b267 : Unit) => ([((10 : Int) ^ (Int.toNat (3 : Int))), ((10 : Int) ^ (Int.toNat (12 : Int))), ((10 : Int) ^ (Int.toNat (57 : Int)))] : List Int)) (ja_p (je_op (fun _ _ ha hb => pe_op op_pow ha hb) jp_int jp_int od_powC) (ja_p (je_op (fun _ _ ha hb => pe_op op_pow ha hb) jp_int jp_int od_powC) (ja_p (je_op (fun _ _ ha hb => pe_op op_pow ha hb) jp_int jp_int od_powC) ja_nil))))) (je_callP (ins := i_law_digit) (mf := m_law_digit) (sl := l_law_digit) (outs := o_law_digit) (ok_law_digit T) (hr.mono (by decide)) (by rfl) T.law_digit.g T.law_digit.f.kp T.law_digit.b pass0 (arg := (a.1, (3 : Int))) (ja_s 0 (ja_p jp_int ja_nil)) hB) (fun y270 => od_ixLm)) fun b273 v_far_272 =>
(js_one (js_ret (fun (b287 : (((Int × (List Int)) × (Int × (List Int))) × (Int × Int))) => (b287.2, b287.1.2.2)) [true, false, false] (je_callVE (ins := i_law_low) (mf := m_law_low) (sl := l_law_low) (outs := o_law_low) (ok_law_low T) (hr.mono (by decide)) (by rfl) T.law_low.g T.law_low.f.kp T.law_low.b pass0 (arg := fun (c285 : ((Int × (List Int)) × (Int × (List Int)))) => ((c285.1.1 - v_far_272), ((1 : Int) + c285.2.1))) (ja_e (xa := fun (x279 : (Int × (List Int))) => D.int (x279.1 - v_far_272)) (je_opL (s := fun (x276 : (Int × (List Int))) => (.val (D.int (x276.1 - v_far_272)))) (xa := fun (x276 : (Int × (List Int))) => D.int x276.1) (y := fun (x276 : (Int × (List Int))) => D.int v_far_272) (fun _ _ ha hb => pe_op op_sub ha hb) (je_callP (ins := i_law_digit) (mf := m_law_digit) (sl := l_law_digit) (outs := o_law_digit) (ok_law_digit T) (hr.mono (by decide)) (by rfl) T.law_digit.g T.law_digit.f.kp T.law_digit.b pass0 (arg := (b273.1.2, ((2 : Int) * v_far_272))) (ja_s 0 (ja_p (je_op (fun _ _ ha hb => pe_op op_mul ha hb) jp_int (jp_var 2) od_mulC) ja_nil)) hB) (fun x276 => (jp_var 2)) (fun x276 => od_sub)) (fun x279 => (ja_el (xa := fun (x283 : (Int × (List Int))) => D.int ((1 : Int) + x283.1)) (je_opR (s := fun (y281 : (Int × (List Int))) => (.val (D.int ((1 : Int) + y281.1)))) (xb := fun (y281 : (Int × (List Int))) => D.int y281.1) (fun _ _ ha hb => pe_op op_add ha hb) jp_int (je_callP (ins := i_law_digit) (mf := m_law_digit) (sl := l_law_digit) (outs := o_law_digit) (ok_law_digit T) (hr.mono (by decide)) (by rfl) T.law_digit.g T.law_digit.f.kp T.law_digit.b pass0 (arg := (x279.2, v_far_272)) (ja_s 0 (ja_p (jp_var 2) ja_nil)) hB) (fun y281 => od_add)) (fun x283 => ja_nil)))) hB)))))))
/-! law_point -/
abbrev s_law_point : Stmt := topS 15
theorem sc_law_point : FnScope ["_law_pot_here", "_law_points_here", "_law_mode", "_law_p", "_law_q", "_law_part"] ["_law_pot_here", "_law_points_here", "_law_mode"] (defScope s_law_point) := ⟨rfl, rfl, rfl, by decide +kernel, rfl, by decide +kernel, by decide +kernel⟩
noncomputable def mb_law_point (v_pot_here : (List Int)) (v_points_here : (List ((Int × Int) × (Int × Int)))) (v_mode : Int) : R (Fl Unit Unit (((Int × Int) × (Int × Int)) × (List Int))) :=
(bindF (((R.ok ()).bind fun (y96 : Unit) => if (decide (v_mode < (2 : Int))) = true then ((R.ok ()).bind fun (y99 : Unit) => if (decide (((List.length v_points_here : Nat) : Int) > (1 : Int))) = true then ((m_law_digit (v_pot_here, (4 : Int))).bind fun (y103 : (Int × (List Int))) => R.ok ((decide (y103.1 = (0 : Int))), y103.2)) else (R.ok (false, v_pot_here))) else (R.ok (false, v_pot_here))).bind fun (b104 : (Bool × (List Int))) => if b104.1 = true then (((m_law_digit (b104.2, ((List.length v_points_here : Nat) : Int))).bind fun (y106 : (Int × (List Int))) => (R.some (atI v_points_here y106.1)).bind fun (z107 : ((Int × Int) × (Int × Int))) => R.ok (y106, z107)).bind fun (b109 : ((Int × (List Int)) × ((Int × Int) × (Int × Int)))) => lt b109.2 fun v_p_108 =>
(((m_law_digit (b109.1.2, ((List.length v_points_here : Nat) : Int))).bind fun (y111 : (Int × (List Int))) => (R.some (atI v_points_here y111.1)).bind fun (z112 : ((Int × Int) × (Int × Int))) => R.ok (y111, z112)).bind fun (b114 : ((Int × (List Int)) × ((Int × Int) × (Int × Int)))) => lt b114.2 fun v_q_113 =>
(((m_law_digit (b114.1.2, (4 : Int))).bind fun (y118 : (Int × (List Int))) => (R.some (atI [((1 : Int), (2 : Int)), ((2 : Int), (1 : Int)), ((-(1 : Int)), (1 : Int)), ((1 : Int), (3 : Int))] y118.1)).bind fun (z119 : (Int × Int)) => R.ok (y118, z119)).bind fun (b121 : ((Int × (List Int)) × (Int × Int))) => lt b121.2 fun v_part_120 =>
(((m_law_between (v_p_108.1, v_q_113.1, v_part_120)).bind fun (x227 : (Int × Int)) => (m_law_between (v_p_108.2, v_q_113.2, v_part_120)).bind fun (z233 : (Int × Int)) => R.ok (x227, z233)).bind fun (b234 : ((Int × Int) × (Int × Int))) => R.ok (.rt ((b234.1, b234.2), b121.1.2)))))) else (R.ok (.nx b104.2))) fun n235 =>
(((m_law_number (n235, v_mode)).bind fun (x288 : ((Int × Int) × (List Int))) => (m_law_number (x288.2, v_mode)).bind fun (z290 : ((Int × Int) × (List Int))) => R.ok (x288, z290)).bind fun (b291 : (((Int × Int) × (List Int)) × ((Int × Int) × (List Int)))) => R.ok (.rt ((b291.1.1, b291.2.1), b291.2.2))))
noncomputable def m_law_point (a : ((List Int) × (List ((Int × Int) × (Int × Int))) × Int)) : R (((Int × Int) × (Int × Int)) × (List Int)) := fin0 (mb_law_point a.1 a.2.1 a.2.2)
abbrev i_law_point (a : ((List Int) × (List ((Int × Int) × (Int × Int))) × Int)) : List Slot := [.own 1 ((oL D.int) a.1), .val ((eL (eP2 (eP2 D.int D.int) (eP2 D.int D.int))) a.2.1), .val (D.int a.2.2)]
abbrev l_law_point (b : (((Int × Int) × (Int × Int)) × (List Int))) : Slot := .val ((eP2 (eP2 D.int D.int) (eP2 D.int D.int)) b.1)
abbrev o_law_point (b : (((Int × Int) × (Int × Int)) × (List Int))) : List Slot := [.own 1 ((oL D.int) b.2), .non, .non]
theorem ok_law_point {P : Program} {w : World} {K : PySem.W.Frag} {mg : Str → Option Value} {base : Heap} (T : Top K mg) : FnOk P w K mg base CX0 4 T.law_point.a T.law_point.d ["_law_pot_here", "_law_points_here", "_law_mode"] (spM K i_law_point m_law_point l_law_point o_law_point) := by
  show FnOk P w K mg base CX0 (3 + 1) T.law_point.a T.law_point.d ["_law_pot_here", "_law_points_here", "_law_mode"] (spM K i_law_point (fun (a : ((List Int) × (List ((Int × Int) × (Int × Int))) × Int)) => fin0 (mb_law_point a.1 a.2.1 a.2.2)) l_law_point o_law_point)
  refine fn_ok (n1 := fun _ => []) (c1 := fun _ => []) (k1 := fun _ => []) (ins := i_law_point) (sl := l_law_point) (outs := o_law_point) (fun (a : ((List Int) × (List ((Int × Int) × (Int × Int))) × Int)) => mb_law_point a.1 a.2.1 a.2.2) 3 T.law_point.f sc_law_point rfl (fun _ => rfl) (fun _ => rfl) (fun _ => rfl) (fun cdv A outer s H E hr B hB a => ?_)
  show JSs _ B _ _ (mb_law_point a.1 a.2.1 a.2.2) _
  unfold mb_law_point
  exact ((js_cons (ρ1 := fun (n235 : (List Int)) => [.own 1 ((oL D.int) n235), .val ((eL (eP2 (eP2 D.int D.int) (eP2 D.int D.int))) a.2.1), .val (D.int a.2.2), .non, .non, .non]) (js_if (jt_w (jw_andS (xa := fun (y96 : Unit) => (decide (a.2.2 < (2 : Int)))) (fun (y96 : Unit) => a.1) (fun (s93 : (List Int)) => [.own 1 ((oL D.int) s93), .val ((eL (eP2 (eP2 D.int D.int) (eP2 D.int D.int))) a.2.1), .val (D.int a.2.2), .non, .non, .non]) (jt_op (fun _ _ ha hb => pt_cmpR op_lt ha hb (nomark _)) (jp_var 2) jp_int od_lt) (fun y96 => (jw_andS (xa := fun (y99 : Unit) => (decide (((List.length a.2.1 : Nat) : Int) > (1 : Int)))) (fun (y99 : Unit) => a.1) (fun (s93 : (List Int)) => [.own 1 ((oL D.int) s93), .val ((eL (eP2 (eP2 D.int D.int) (eP2 D.int D.int))) a.2.1), .val (D.int a.2.2), .non, .non, .non]) (jt_op (fun _ _ ha hb => pt_cmpR op_gt ha hb (nomark _)) (je_cb (fun _ ht => pe_callB call_len_seq (by rfl) T.z_len (by decide +kernel) ht) (ja_p (jp_var 1) ja_nil) cb_lenLm) jp_int od_gt) (fun y99 => (jw_and1 (jt_mapS (bn := fun (y103 : (Int × (List Int))) => (decide (y103.1 = (0 : Int)))) (st := fun (y103 : (Int × (List Int))) => y103.2) (ρS := (fun (s93 : (List Int)) => [.own 1 ((oL D.int) s93), .val ((eL (eP2 (eP2 D.int D.int) (eP2 D.int D.int))) a.2.1), .val (D.int a.2.2), .non, .non, .non])) (jt_opL (bn := fun (x100 : (Int × (List Int))) => (decide (x100.1 = (0 : Int)))) (xa := fun (x100 : (Int × (List Int))) => D.int x100.1) (y := fun (x100 : (Int × (List Int))) => D.int (0 : Int)) (fun _ _ ha hb => pt_cmpR op_eq ha hb (nomark _)) (je_callP (ins := i_law_digit) (mf := m_law_digit) (sl := l_law_digit) (outs := o_law_digit) (ok_law_digit T) (hr.mono (by decide)) (by rfl) T.law_digit.g T.law_digit.f.kp T.law_digit.b pass0 (arg := (a.1, (4 : Int))) (ja_s 0 (ja_p jp_int ja_nil)) hB) (fun x100 => jp_int) (fun x100 => od_eqI))))))))) (fun b104 => (js_setE 3 (eP2 (eP2 D.int D.int) (eP2 D.int D.int)) (fun (b109 : ((Int × (List Int)) × ((Int × Int) × (Int × Int)))) => b109.2) sc_law_point.nd (je_opRG (s := fun (y106 : (Int × (List Int))) (z107 : ((Int × Int) × (Int × Int))) => (.val ((eP2 (eP2 D.int D.int) (eP2 D.int D.int)) z107))) (xb := fun (y106 : (Int × (List Int))) => D.int y106.1) (fun _ _ ha hb => pe_ix ix_list ha hb (fun _ _ => rfl)) (jp_var 1) (je_callP (ins := i_law_digit) (mf := m_law_digit) (sl := l_law_digit) (outs := o_law_digit) (ok_law_digit T) (hr.mono (by decide)) (by rfl) T.law_digit.g T.law_digit.f.kp T.law_digit.b pass0 (arg := (b104.2, ((List.length a.2.1 : Nat) : Int))) (ja_s 0 (ja_p (je_cb (fun _ ht => pe_callB call_len_seq (by rfl) T.z_len (by decide +kernel) ht) (ja_p (jp_var 1) ja_nil) cb_lenLm) ja_nil)) hB) (fun y106 => od_ixLm)) fun b109 v_p_108 =>
(js_setE 4 (eP2 (eP2 D.int D.int) (eP2 D.int D.int)) (fun (b114 : ((Int × (List Int)) × ((Int × Int) × (Int × Int)))) => b114.2) sc_law_point.nd (je_opRG (s := fun (y111 : (Int × (List Int))) (z112 : ((Int × Int) × (Int × Int))) => (.val ((eP2 (eP2 D.int D.int) (eP2 D.int D.int)) z112))) (xb := fun (y111 : (Int × (List Int))) => D.int y111.1) (fun _ _ ha hb => pe_ix ix_list ha hb (fun _ _ => rfl)) (jp_var 1) (je_callP (ins := i_law_digit) (mf := m_law_digit) (sl := l_law_digit) (outs := o_law_digit) (ok_law_digit T) (hr.mono (by decide)) (by rfl) T.law_digit.g T.law_digit.f.kp T.law_digit.b pass0 (arg := (b109.1.2, ((List.length a.2.1 : Nat) : Int))) (ja_s 0 (ja_p (je_cb (fun _ ht => pe_callB call_len_seq (by rfl) T.z_len (by decide +kernel) ht) (ja_p (jp_var 1) ja_nil) cb_lenLm) ja_nil)) hB) (fun y111 => od_ixLm)) fun b114 v_q_113 =>
(js_setE 5 (eP2 D.int D.int) (fun (b121 : ((Int × (List Int)) × (Int × Int))) => b121.2) sc_law_point.nd (je_opRG (s := fun (y118 : (Int × (List Int))) (z119 : (Int × Int)) => (.val ((eP2 D.int D.int) z119))) (xb := fun (y118 : (Int × (List Int))) => D.int y118.1) (fun _ _ ha hb => pe_ix ix_list ha hb (fun _ _ => rfl)) (je_frzL (v := fun (b116 : Unit) => [((1 : Int), (2 : Int)), ((2 : Int), (1 : Int)), ((-(1 : Int)), (1 : Int)), ((1 : Int), (3 : Int))]) (je_lstT (eP2 D.int D.int) (fun (b115 : Unit) => ([((1 : Int), (2 : Int)), ((2 : Int), (1 : Int)), ((-(1 : Int)), (1 : Int)), ((1 : Int), (3 : Int))] : List (Int × Int))) (ja_p (je_tup (ja_p jp_int (ja_p jp_int ja_nil))) (ja_p (je_tup (ja_p jp_int (ja_p jp_int ja_nil))) (ja_p (je_tup (ja_p (jp_neg jp_int) (ja_p jp_int ja_nil))) (ja_p (je_tup (ja_p jp_int (ja_p jp_int ja_nil))) ja_nil)))))) (je_callP (ins := i_law_digit) (mf := m_law_digit) (sl := l_law_digit) (outs := o_law_digit) (ok_law_digit T) (hr.mono (by decide)) (by rfl) T.law_digit.g T.law_digit.f.kp T.law_digit.b pass0 (arg := (b114.1.2, (4 : Int))) (ja_s 0 (ja_p jp_int ja_nil)) hB) (fun y118 => od_ixLm)) fun b121 v_part_120 =>
(js_one (js_ret (fun (b234 : ((Int × Int) × (Int × Int))) => ((b234.1, b234.2), b121.1.2)) [true, false, false, false, false, false] (je_tup (ja_e (ρ' := fun _ _ => _) (ρa := fun _ => _) (xa := fun (x227 : (Int × Int)) => (eP2 D.int D.int) x227) (je_callV (ins := i_law_between) (mf := m_law_between) (sl := l_law_between) (outs := o_law_between) (ok_law_between T) (hr.mono (by decide)) (by rfl) T.law_between.g T.law_between.f.kp T.law_between.b pass0 (arg := (v_p_108.1, v_q_113.1, v_part_120)) (ja_p (je_op (fun _ _ ha hb => pe_ix ix_tup ha hb (fun _ _ => rfl)) (jp_var 3) jp_int (od_ixTs rfl)) (ja_p (je_op (fun _ _ ha hb => pe_ix ix_tup ha hb (fun _ _ => rfl)) (jp_var 4) jp_int (od_ixTs rfl)) (ja_p (jp_var 5) ja_nil))) hB) (fun x227 => (ja_el (ρa := fun _ => _) (xa := fun (x232 : (Int × Int)) => (eP2 D.int D.int) x232) (je_callV (ins := i_law_between) (mf := m_law_between) (sl := l_law_between) (outs := o_law_between) (ok_law_between T) (hr.mono (by decide)) (by rfl) T.law_between.g T.law_between.f.kp T.law_between.b pass0 (arg := (v_p_108.2, v_q_113.2, v_part_120)) (ja_p (je_op (fun _ _ ha hb => pe_ix ix_tup ha hb (fun _ _ => rfl)) (jp_var 3) jp_int (od_ixTs rfl)) (ja_p (je_op (fun _ _ ha hb => pe_ix ix_tup ha hb (fun _ _ => rfl)) (jp_var 4) jp_int (od_ixTs rfl)) (ja_p (jp_var 5) ja_nil))) hB) (fun x232 => ja_nil))))))))))) (fun b104 => (js_nil [true, true, true, true, true, true] b104.2))) fun n235 =>
(js_one (js_ret (fun (b291 : (((Int × Int) × (List Int)) × ((Int × Int) × (List Int)))) => ((b291.1.1, b291.2.1), b291.2.2)) [true, false, false, true, true, true] (je_tup (ja_e (xa := fun (x288 : ((Int × Int) × (List Int))) => (eP2 D.int D.int) x288.1) (je_callP (ins := i_law_number) (mf := m_law_number) (sl := l_law_number) (outs := o_law_number) (ok_law_number T) (hr.mono (by decide)) (by rfl) T.law_number.g T.law_number.f.kp T.law_number.b pass0 (arg := (n235, a.2.2)) (ja_s 0 (ja_p (jp_var 2) ja_nil)) hB) (fun x288 => (ja_el (xa := fun (x289 : ((Int × Int) × (List Int))) => (eP2 D.int D.int) x289.1) (je_callP (ins := i_law_number) (mf := m_law_number) (sl := l_law_number) (outs := o_law_number) (ok_law_number T) (hr.mono (by decide)) (by rfl) T.law_number.g T.law_number.f.kp T.law_number.b pass0 (arg := (x288.2, a.2.2)) (ja_s 0 (ja_p (jp_var 2) ja_nil)) hB) (fun x289 => ja_nil)))))))))
/-! law_points -/
abbrev s_law_points : Stmt := topS 16
theorem sc_law_points : FnScope ["_law_pot_here", "_law_many", "_law_mode", "_law_found", "_law_k", "_law_point_here"] ["_law_pot_here", "_law_many"] (defScope s_law_points) := ⟨rfl, rfl, rfl, by decide +kernel, rfl, by decide +kernel, by decide +kernel⟩
noncomputable def mb_law_points (v_pot_here : (List Int)) (v_many : Int) : R (Fl Unit Unit ((List ((Int × Int) × (Int × Int))) × (List Int))) :=
((m_law_digit (v_pot_here, (3 : Int))).bind fun (b72 : (Int × (List Int))) => lt b72.1 fun v_mode_71 =>
((R.ok ()).bind fun (b74 : Unit) => lt ([] : List ((Int × Int) × (Int × Int))) fun v_found_73 =>
(bindF ((R.guard (rngOk v_many)).bind fun (b75 : Unit) => forR (fun (x78 : Int) (s76 : ((List Int) × (List ((Int × Int) × (Int × Int))))) =>
((m_law_point (s76.1, s76.2, v_mode_71)).bind fun (b295 : (((Int × Int) × (Int × Int)) × (List Int))) => lt b295.1 fun v_point_here_294 =>
(bindF (((R.ok ()).bind fun (y315 : Unit) => if (hasL v_point_here_294 s76.2) = true then ((m_law_digit (b295.2, (8 : Int))).bind fun (y319 : (Int × (List Int))) => R.ok ((decide (y319.1 > (0 : Int))), y319.2)) else (R.ok (false, b295.2))).bind fun (b320 : (Bool × (List Int))) => if b320.1 = true then (((m_law_plus (v_point_here_294.1, ((x78 + (1 : Int)), ((7 : Int) + x78)))).bind fun (x342 : (Int × Int)) => (m_law_plus (v_point_here_294.2, ((1 : Int), ((11 : Int) + x78)))).bind fun (z348 : (Int × Int)) => R.ok (x342, z348)).bind fun (b350 : ((Int × Int) × (Int × Int))) => lt (b350.1, b350.2) fun v_point_here_349 =>
(R.ok (.nx (b320.2, v_point_here_349)))) else (R.ok (.nx (b320.2, v_point_here_294)))) fun n351 =>
(((R.ok ()).bind fun (b352 : Unit) => (R.guard (List.length s76.2 < sizeLine)).bind fun _ => R.ok b352).bind fun (b353 : Unit) =>
(R.ok (.nx (n351.1, (s76.2 ++ [n351.2])))))))) (rng 0 v_many) (b72.2, v_found_73)) fun n77 =>
(R.ok (.rt (n77.2, n77.1))))))
noncomputable def m_law_points (a : ((List Int) × Int)) : R ((List ((Int × Int) × (Int × Int))) × (List Int)) := fin0 (mb_law_points a.1 a.2)
abbrev i_law_points (a : ((List Int) × Int)) : List Slot := [.own 1 ((oL D.int) a.1), .val (D.int a.2)]
abbrev l_law_points (b : ((List ((Int × Int) × (Int × Int))) × (List Int))) : Slot := .val ((eT (eP2 (eP2 D.int D.int) (eP2 D.int D.int))) b.1)
abbrev o_law_points (b : ((List ((Int × Int) × (Int × Int))) × (List Int))) : List Slot := [.own 1 ((oL D.int) b.2), .non]
theorem ok_law_points {P : Program} {w : World} {K : PySem.W.Frag} {mg : Str → Option Value} {base : Heap} (T : Top K mg) : FnOk P w K mg base CX0 5 T.law_points.a T.law_points.d ["_law_pot_here", "_law_many"] (spM K i_law_points m_law_points l_law_points o_law_points) := by
  show FnOk P w K mg base CX0 (4 + 1) T.law_points.a T.law_points.d ["_law_pot_here", "_law_many"] (spM K i_law_points (fun (a : ((List Int) × Int)) => fin0 (mb_law_points a.1 a.2)) l_law_points o_law_points)
  refine fn_ok (n1 := fun _ => []) (c1 := fun _ => []) (k1 := fun _ => []) (ins := i_law_points) (sl := l_law_points) (outs := o_law_points) (fun (a : ((List Int) × Int)) => mb_law_points a.1 a.2) 4 T.law_points.f sc_law_points rfl (fun _ => rfl) (fun _ => rfl) (fun _ => rfl) (fun cdv A outer s H E hr B hB a => ?_)
  show JSs _ B _ _ (mb_law_points a.1 a.2) _
  unfold mb_law_points
  exact ((js_setE 2 D.int (fun (b72 : (Int × (List Int))) => b72.1) sc_law_points.nd (je_callP (ins := i_law_digit) (mf := m_law_digit) (sl := l_law_digit) (outs := o_law_digit) (ok_law_digit T) (hr.mono (by decide)) (by rfl) T.law_digit.g T.law_digit.f.kp T.law_digit.b pass0 (arg := (a.1, (3 : Int))) (ja_s 0 (ja_p jp_int ja_nil)) hB) fun b72 v_mode_71 =>
(js_setO 3 (oL (eP2 (eP2 D.int D.int) (eP2 D.int D.int))) (fun (b74 : Unit) => ([] : List ((Int × Int) × (Int × Int)))) sc_law_points.nd (je_lstT (eP2 (eP2 D.int D.int) (eP2 D.int D.int)) (fun (_ : Unit) => ([] : List ((Int × Int) × (Int × Int)))) ja_nil) fun b74 v_found_73 =>
(js_cons (ρ1 := fun (n77 : ((List Int) × (List ((Int × Int) × (Int × Int))))) => [.own 1 ((oL D.int) n77.1), .val (D.int a.2), .val (D.int v_mode_71), .own 0 ((oL (eP2 (eP2 D.int D.int) (eP2 D.int D.int))) n77.2), .non, .non]) (js_for (en := D.int) (xs := fun (b75 : Unit) => (rng 0 a.2)) (s0 := fun (b75 : Unit) => (b72.2, v_found_73)) (fun (s76 : ((List Int) × (List ((Int × Int) × (Int × Int))))) => [.own 1 ((oL D.int) s76.1), .val (D.int a.2), .val (D.int v_mode_71), .own 0 ((oL (eP2 (eP2 D.int D.int) (eP2 D.int D.int))) s76.2), .non, .non]) (fun (x78 : Int) (s76 : ((List Int) × (List ((Int × Int) × (Int × Int))))) => [.own 1 ((oL D.int) s76.1), .val (D.int a.2), .val (D.int v_mode_71), .own 0 ((oL (eP2 (eP2 D.int D.int) (eP2 D.int D.int))) s76.2), .val (D.int x78), .non]) PassesOwn.never rfl (ji_rng1P (i := a.2) T.z_range (ja_p (jp_var 1) ja_nil)) [true, true, true, true, true, true] (fun _ => rfl) (fun x78 s76 => (jg_name 4 sc_law_points.nd)) (fun x78 s76 =>
(js_setE 5 (eP2 (eP2 D.int D.int) (eP2 D.int D.int)) (fun (b295 : (((Int × Int) × (Int × Int)) × (List Int))) => b295.1) sc_law_points.nd (je_bor 3 (d := (eL (eP2 (eP2 D.int D.int) (eP2 D.int D.int))) s76.2) (ρ1 := fun (b292 : (((Int × Int) × (Int × Int)) × (List Int))) => [.own 1 ((oL D.int) b292.2), .val (D.int a.2), .val (D.int v_mode_71), .val ((eL (eP2 (eP2 D.int D.int) (eP2 D.int D.int))) s76.2), .val (D.int x78), .non]) (ρ2 := fun (b292 : (((Int × Int) × (Int × Int)) × (List Int))) => [.own 1 ((oL D.int) b292.2), .val (D.int a.2), .val (D.int v_mode_71), .non, .val (D.int x78), .non]) (ρ' := fun (b292 : (((Int × Int) × (Int × Int)) × (List Int))) => [.own 1 ((oL D.int) b292.2), .val (D.int a.2), .val (D.int v_mode_71), .own 0 ((oL (eP2 (eP2 D.int D.int) (eP2 D.int D.int))) s76.2), .val (D.int x78), .non]) (sl := fun (b292 : (((Int × Int) × (Int × Int)) × (List Int))) => .val ((eP2 (eP2 D.int D.int) (eP2 D.int D.int)) b292.1)) rfl (toD_oL _ _) (fun _ hB293 => (have hB := noRs hB293 hB; (je_callP (ins := i_law_point) (mf := m_law_point) (sl := l_law_point) (outs := o_law_point) (ok_law_point T) (hr.mono (by decide)) (by rfl) T.law_point.g T.law_point.f.kp T.law_point.b pass0 (arg := (s76.1, s76.2, v_mode_71)) (ja_s 0 (ja_p (jp_var 3) (ja_p (jp_var 2) ja_nil))) hB))) (fun _ => (.cons (.o (fl_oL fl_int _)) (.cons .k (.cons .k (.cons .f (.cons .k (.cons .f .nil))))))) (fun _ => (fl_P2 (fl_P2 fl_int fl_int) (fl_P2 fl_int fl_int)) _) (fun _ => rfl)) fun b295 v_point_here_294 =>
(js_cons (ρ1 := fun (n351 : ((List Int) × ((Int × Int) × (Int × Int)))) => [.own 1 ((oL D.int) n351.1), .val (D.int a.2), .val (D.int v_mode_71), .own 0 ((oL (eP2 (eP2 D.int D.int) (eP2 D.int D.int))) s76.2), .val (D.int x78), .val ((eP2 (eP2 D.int D.int) (eP2 D.int D.int)) n351.2)]) (js_if (jt_w (jw_andS (xa := fun (y315 : Unit) => (hasL v_point_here_294 s76.2)) (fun (y315 : Unit) => b295.2) (fun (s310 : (List Int)) => [.own 1 ((oL D.int) s310), .val (D.int a.2), .val (D.int v_mode_71), .own 0 ((oL (eP2 (eP2 D.int D.int) (eP2 D.int D.int))) s76.2), .val (D.int x78), .val ((eP2 (eP2 D.int D.int) (eP2 D.int D.int)) v_point_here_294)]) (jt_bor 3 (d := (eL (eP2 (eP2 D.int D.int) (eP2 D.int D.int))) s76.2) (ρ1 := fun (b313 : Unit) => [.own 1 ((oL D.int) b295.2), .val (D.int a.2), .val (D.int v_mode_71), .val ((eL (eP2 (eP2 D.int D.int) (eP2 D.int D.int))) s76.2), .val (D.int x78), .val ((eP2 (eP2 D.int D.int) (eP2 D.int D.int)) v_point_here_294)]) (ρ2 := fun (b313 : Unit) => [.own 1 ((oL D.int) b295.2), .val (D.int a.2), .val (D.int v_mode_71), .non, .val (D.int x78), .val ((eP2 (eP2 D.int D.int) (eP2 D.int D.int)) v_point_here_294)]) (ρ' := fun (b313 : Unit) => [.own 1 ((oL D.int) b295.2), .val (D.int a.2), .val (D.int v_mode_71), .own 0 ((oL (eP2 (eP2 D.int D.int) (eP2 D.int D.int))) s76.2), .val (D.int x78), .val ((eP2 (eP2 D.int D.int) (eP2 D.int D.int)) v_point_here_294)]) (bn := fun (b313 : Unit) => (hasL v_point_here_294 s76.2)) rfl (toD_oL _ _) (fun _ hB314 => (have hB := noRs hB314 hB; (jt_op (fun _ _ ha hb => pt_cmpR (op_inD (un65 hr)) ha hb (by rfl)) (jp_var 5) (jp_var 3) (od_inL (ee_p2 (ee_p2 ee_int ee_int) (ee_p2 ee_int ee_int)))))) (fun _ => (.cons (.o (fl_oL fl_int _)) (.cons .k (.cons .k (.cons .f (.cons .k (.cons .k .nil))))))) (fun _ => rfl)) (fun y315 => (jw_and1 (jt_mapS (bn := fun (y319 : (Int × (List Int))) => (decide (y319.1 > (0 : Int)))) (st := fun (y319 : (Int × (List Int))) => y319.2) (ρS := (fun (s310 : (List Int)) => [.own 1 ((oL D.int) s310), .val (D.int a.2), .val (D.int v_mode_71), .own 0 ((oL (eP2 (eP2 D.int D.int) (eP2 D.int D.int))) s76.2), .val (D.int x78), .val ((eP2 (eP2 D.int D.int) (eP2 D.int D.int)) v_point_here_294)])) (jt_opL (bn := fun (x316 : (Int × (List Int))) => (decide (x316.1 > (0 : Int)))) (xa := fun (x316 : (Int × (List Int))) => D.int x316.1) (y := fun (x316 : (Int × (List Int))) => D.int (0 : Int)) (fun _ _ ha hb => pt_cmpR op_gt ha hb (nomark _)) (je_callP (ins := i_law_digit) (mf := m_law_digit) (sl := l_law_digit) (outs := o_law_digit) (ok_law_digit T) (hr.mono (by decide)) (by rfl) T.law_digit.g T.law_digit.f.kp T.law_digit.b pass0 (arg := (b295.2, (8 : Int))) (ja_s 0 (ja_p jp_int ja_nil)) hB) (fun x316 => jp_int) (fun x316 => od_gt))))))) (fun b320 => (js_setE 5 (eP2 (eP2 D.int D.int) (eP2 D.int D.int)) (fun (b350 : ((Int × Int) × (Int × Int))) => (b350.1, b350.2)) sc_law_points.nd (je_tup (ja_e (ρ' := fun _ _ => _) (ρa := fun _ => _) (xa := fun (x342 : (Int × Int)) => (eP2 D.int D.int) x342) (je_callV (ins := i_law_plus) (mf := m_law_plus) (sl := l_law_plus) (outs := o_law_plus) (ok_law_plus T) (hr.mono (by decide)) (by rfl) T.law_plus.g T.law_plus.f.kp T.law_plus.b pass0 (arg := (v_point_here_294.1, ((x78 + (1 : Int)), ((7 : Int) + x78)))) (ja_p (je_op (fun _ _ ha hb => pe_ix ix_tup ha hb (fun _ _ => rfl)) (jp_var 5) jp_int (od_ixTs rfl)) (ja_p (je_tup (ja_p (je_op (fun _ _ ha hb => pe_op op_add ha hb) (jp_var 4) jp_int od_add) (ja_p (je_op (fun _ _ ha hb => pe_op op_add ha hb) jp_int (jp_var 4) od_add) ja_nil))) ja_nil)) hB) (fun x342 => (ja_el (ρa := fun _ => _) (xa := fun (x347 : (Int × Int)) => (eP2 D.int D.int) x347) (je_callV (ins := i_law_plus) (mf := m_law_plus) (sl := l_law_plus) (outs := o_law_plus) (ok_law_plus T) (hr.mono (by decide)) (by rfl) T.law_plus.g T.law_plus.f.kp T.law_plus.b pass0 (arg := (v_point_here_294.2, ((1 : Int), ((11 : Int) + x78)))) (ja_p (je_op (fun _ _ ha hb => pe_ix ix_tup ha hb (fun _ _ => rfl)) (jp_var 5) jp_int (od_ixTs rfl)) (ja_p (je_tup (ja_p jp_int (ja_p (je_op (fun _ _ ha hb => pe_op op_add ha hb) jp_int (jp_var 4) od_add) ja_nil))) ja_nil)) hB) (fun x347 => ja_nil))))) fun b350 v_point_here_349 =>
(js_nil [true, true, true, true, true, true] (b320.2, v_point_here_349)))) (fun b320 => (js_nil [true, true, true, true, true, true] (b320.2, v_point_here_294)))) fun n351 =>
(js_cons1 (j1_expr (je_app 3 (f := (eP2 (eP2 D.int D.int) (eP2 D.int D.int))) (y := fun (b352 : Unit) => n351.2) (ρ' := fun (b352 : Unit) => [.own 1 ((oL D.int) n351.1), .val (D.int a.2), .val (D.int v_mode_71), .own 0 ((oL (eP2 (eP2 D.int D.int) (eP2 D.int D.int))) s76.2), .val (D.int x78), .val ((eP2 (eP2 D.int D.int) (eP2 D.int D.int)) n351.2)]) (fun (b352 : Unit) => s76.2) (jp_var 5))) fun b353 =>
(js_nil [true, true, true, true, false, false] (n351.1, (s76.2 ++ [n351.2])))))))) fun n77 =>
(js_one (js_retP (n77.2, n77.1) [true, false, false, false, true, true] (je_bor 3 (d := (eL (eP2 (eP2 D.int D.int) (eP2 D.int D.int))) n77.2) (ρ1 := fun (b354 : Unit) => [.own 1 ((oL D.int) n77.1), .val (D.int a.2), .val (D.int v_mode_71), .val ((eL (eP2 (eP2 D.int D.int) (eP2 D.int D.int))) n77.2), .non, .non]) (ρ2 := fun (b354 : Unit) => [.own 1 ((oL D.int) n77.1), .val (D.int a.2), .val (D.int v_mode_71), .non, .non, .non]) (ρ' := fun (b354 : Unit) => [.own 1 ((oL D.int) n77.1), .val (D.int a.2), .val (D.int v_mode_71), .own 0 ((oL (eP2 (eP2 D.int D.int) (eP2 D.int D.int))) n77.2), .non, .non]) (sl := fun (b354 : Unit) => .val ((eT (eP2 (eP2 D.int D.int) (eP2 D.int D.int))) n77.2)) rfl (toD_oL _ _) (fun _ hB355 => (have hB := noRs hB355 hB; (je_cb (fun _ ht => pe_callTy call_tuple_of (by rfl) T.z_tuple (by decide +kernel) ht) (ja_p (jp_var 3) ja_nil) cb_tupL))) (fun _ => (.cons (.o (fl_oL fl_int _)) (.cons .k (.cons .k (.cons .f (.cons .f (.cons .f .nil))))))) (fun _ => (fl_T (fl_P2 (fl_P2 fl_int fl_int) (fl_P2 fl_int fl_int))) _) (fun _ => rfl))))))))
/-! law_apart -/
abbrev s_law_apart : Stmt := topS 17
theorem sc_law_apart : FnScope ["_law_one", "_law_other"] ["_law_one", "_law_other"] (defScope s_law_apart) := ⟨rfl, rfl, rfl, by decide +kernel, rfl, by decide +kernel, by decide +kernel⟩
noncomputable def mb_law_apart (v_one : (Int × Int)) (v_other : (Int × Int)) : R (Fl Unit Unit (Int × Int)) :=
(((op2 (R.guard (CMulX v_other.1 v_one.2)) (fun (x378 : Unit) => R.guard (CMulX v_one.1 v_other.2)) (fun (x378 : Unit) (y379 : Unit) => R.ok ())).bind fun (x386 : (Unit × Unit × Unit)) => (R.guard (CMulX v_one.2 v_other.2)).bind fun (z394 : Unit) => R.ok (x386, z394)).bind fun (b395 : ((Unit × Unit × Unit) × Unit)) => R.ok (.rt (((v_other.1 * v_one.2) - (v_one.1 * v_other.2)), (v_one.2 * v_other.2))))
noncomputable def m_law_apart (a : ((Int × Int) × (Int × Int))) : R (Int × Int) := fin0 (mb_law_apart a.1 a.2)
abbrev i_law_apart (a : ((Int × Int) × (Int × Int))) : List Slot := [.val ((eP2 D.int D.int) a.1), .val ((eP2 D.int D.int) a.2)]
abbrev l_law_apart (b : (Int × Int)) : Slot := .val ((eP2 D.int D.int) b)
abbrev o_law_apart (b : (Int × Int)) : List Slot := [.non, .non]
theorem ok_law_apart {P : Program} {w : World} {K : PySem.W.Frag} {mg : Str → Option Value} {base : Heap} (T : Top K mg) : FnOk P w K mg base CX0 1 T.law_apart.a T.law_apart.d ["_law_one", "_law_other"] (spM K i_law_apart m_law_apart l_law_apart o_law_apart) := by
  show FnOk P w K mg base CX0 (0 + 1) T.law_apart.a T.law_apart.d ["_law_one", "_law_other"] (spM K i_law_apart (fun (a : ((Int × Int) × (Int × Int))) => fin0 (mb_law_apart a.1 a.2)) l_law_apart o_law_apart)
  refine fn_ok (n1 := fun _ => []) (c1 := fun _ => []) (k1 := fun _ => []) (ins := i_law_apart) (sl := l_law_apart) (outs := o_law_apart) (fun (a : ((Int × Int) × (Int × Int))) => mb_law_apart a.1 a.2) 0 T.law_apart.f sc_law_apart rfl (fun _ => rfl) (fun _ => rfl) (fun _ => rfl) (fun cdv A outer s H E hr B hB a => ?_)
  show JSs _ B _ _ (mb_law_apart a.1 a.2) _
  unfold mb_law_apart
  exact ((js_one (js_ret (fun (b395 : ((Unit × Unit × Unit) × Unit)) => (((a.2.1 * a.1.2) - (a.1.1 * a.2.2)), (a.1.2 * a.2.2))) [false, false] (je_tup (ja_e (ρ' := fun _ _ => _) (ρa := fun _ => _) (xa := fun (x386 : (Unit × Unit × Unit)) => D.int ((a.2.1 * a.1.2) - (a.1.1 * a.2.2))) (je_op2 (ρa := fun _ => _) (ρb := fun _ _ => _) (s := fun (x378 : Unit) (y379 : Unit) (z0 : Unit) => (.val (D.int ((a.2.1 * a.1.2) - (a.1.1 * a.2.2))))) (xa := fun (x378 : Unit) => D.int (a.2.1 * a.1.2)) (xb := fun (x378 : Unit) (y379 : Unit) => D.int (a.1.1 * a.2.2)) (fun _ _ ha hb => pe_op op_sub ha hb) (je_op (fun _ _ ha hb => pe_op op_mulX ha hb) (je_op (fun _ _ ha hb => pe_ix ix_tup ha hb (fun _ _ => rfl)) (jp_var 1) jp_int (od_ixTs rfl)) (je_op (fun _ _ ha hb => pe_ix ix_tup ha hb (fun _ _ => rfl)) (jp_var 0) jp_int (od_ixTs rfl)) od_mul) (fun x378 => (je_op (fun _ _ ha hb => pe_op op_mulX ha hb) (je_op (fun _ _ ha hb => pe_ix ix_tup ha hb (fun _ _ => rfl)) (jp_var 0) jp_int (od_ixTs rfl)) (je_op (fun _ _ ha hb => pe_ix ix_tup ha hb (fun _ _ => rfl)) (jp_var 1) jp_int (od_ixTs rfl)) od_mul)) (fun x378 y379 => od_sub)) (fun x386 => (ja_el (ρa := fun _ => _) (xa := fun (x393 : Unit) => D.int (a.1.2 * a.2.2)) (je_op (fun _ _ ha hb => pe_op op_mulX ha hb) (je_op (fun _ _ ha hb => pe_ix ix_tup ha hb (fun _ _ => rfl)) (jp_var 0) jp_int (od_ixTs rfl)) (je_op (fun _ _ ha hb => pe_ix ix_tup ha hb (fun _ _ => rfl)) (jp_var 1) jp_int (od_ixTs rfl)) od_mul) (fun x393 => ja_nil))))))))
/-! law_sign -/
abbrev s_law_sign : Stmt := topS 12
theorem sc_law_sign : FnScope ["_law_one"] ["_law_one"] (defScope s_law_sign) := ⟨rfl, rfl, rfl, by decide +kernel, rfl, by decide +kernel, by decide +kernel⟩
noncomputable def mb_law_sign (v_one : (Int × Int)) : R (Fl Unit Unit Int) :=
(R.ok (.rt ((if (decide (v_one.1 > (0 : Int))) = true then (1 : Int) else 0) - (if (decide (v_one.1 < (0 : Int))) = true then (1 : Int) else 0))))
noncomputable def m_law_sign (a : (Int × Int)) : R Int := fin0 (mb_law_sign a)
abbrev i_law_sign (a : (Int × Int)) : List Slot := [.val ((eP2 D.int D.int) a)]
abbrev l_law_sign (b : Int) : Slot := .val (D.int b)
abbrev o_law_sign (b : Int) : List Slot := [.non]
theorem ok_law_sign {P : Program} {w : World} {K : PySem.W.Frag} {mg : Str → Option Value} {base : Heap} (T : Top K mg) : FnOk P w K mg base CX0 1 T.law_sign.a T.law_sign.d ["_law_one"] (spM K i_law_sign m_law_sign l_law_sign o_law_sign) := by
  show FnOk P w K mg base CX0 (0 + 1) T.law_sign.a T.law_sign.d ["_law_one"] (spM K i_law_sign (fun (a : (Int × Int)) => fin0 (mb_law_sign a)) l_law_sign o_law_sign)
  refine fn_ok (n1 := fun _ => []) (c1 := fun _ => []) (k1 := fun _ => []) (ins := i_law_sign) (sl := l_law_sign) (outs := o_law_sign) (fun (a : (Int × Int)) => mb_law_sign a) 0 T.law_sign.f sc_law_sign rfl (fun _ => rfl) (fun _ => rfl) (fun _ => rfl) (fun cdv A outer s H E hr B hB a => ?_)
  show JSs _ B _ _ (mb_law_sign a) _
  unfold mb_law_sign
  exact ((js_one (js_retP ((if (decide (a.1 > (0 : Int))) = true then (1 : Int) else 0) - (if (decide (a.1 < (0 : Int))) = true then (1 : Int) else 0)) [false] (je_op (fun _ _ ha hb => pe_op op_sub ha hb) (je_cb (fun _ ht => pe_callTy call_int1 (by rfl) T.z_int (by decide +kernel) ht) (ja_p (je_op (fun _ _ ha hb => pe_cmpR op_gt ha hb (nomark _)) (je_op (fun _ _ ha hb => pe_ix ix_tup ha hb (fun _ _ => rfl)) (jp_var 0) jp_int (od_ixTs rfl)) jp_int od_gt) ja_nil) cb_intB) (je_cb (fun _ ht => pe_callTy call_int1 (by rfl) T.z_int (by decide +kernel) ht) (ja_p (je_op (fun _ _ ha hb => pe_cmpR op_lt ha hb (nomark _)) (je_op (fun _ _ ha hb => pe_ix ix_tup ha hb (fun _ _ => rfl)) (jp_var 0) jp_int (od_ixTs rfl)) jp_int od_lt) ja_nil) cb_intB) od_sub))))
/-! law_hand -/
abbrev s_law_hand : Stmt := topS 18
theorem sc_law_hand : FnScope ["_law_p", "_law_q", "_law_r", "_law_a", "_law_b", "_law_c", "_law_d"] ["_law_p", "_law_q", "_law_r"] (defScope s_law_hand) := ⟨rfl, rfl, rfl, by decide +kernel, rfl, by decide +kernel, by decide +kernel⟩
noncomputable def mb_law_hand (v_p : ((Int × Int) × (Int × Int))) (v_q : ((Int × Int) × (Int × Int))) (v_r : ((Int × Int) × (Int × Int))) : R (Fl Unit Unit Int) :=
(((m_law_apart (v_p.1, v_q.1)).bind fun (x400 : (Int × Int)) => (m_law_apart (v_p.2, v_q.2)).bind fun (z406 : (Int × Int)) => R.ok (x400, z406)).bind fun (b407 : ((Int × Int) × (Int × Int))) =>
(((m_law_apart (v_p.1, v_r.1)).bind fun (x412 : (Int × Int)) => (m_law_apart (v_p.2, v_r.2)).bind fun (z418 : (Int × Int)) => R.ok (x412, z418)).bind fun (b419 : ((Int × Int) × (Int × Int))) =>
(((op2 (((R.guard (CMulX b407.1.1 b419.2.1)).bind fun (x436 : Unit) => (R.guard (CMulX (b407.1.1 * b419.2.1) b407.2.2)).bind fun (z440 : Unit) => R.ok (x436, z440)).bind fun (x441 : (Unit × Unit)) => (R.guard (CMulX ((b407.1.1 * b419.2.1) * b407.2.2) b419.1.2)).bind fun (z445 : Unit) => R.ok (x441, z445)) (fun (x446 : ((Unit × Unit) × Unit)) => (((R.guard (CMulX b407.2.1 b419.1.1)).bind fun (x454 : Unit) => (R.guard (CMulX (b407.2.1 * b419.1.1) b407.1.2)).bind fun (z458 : Unit) => R.ok (x454, z458)).bind fun (x459 : (Unit × Unit)) => (R.guard (CMulX ((b407.2.1 * b419.1.1) * b407.1.2) b419.2.2)).bind fun (z463 : Unit) => R.ok (x459, z463))) (fun (x446 : ((Unit × Unit) × Unit)) (y447 : ((Unit × Unit) × Unit)) => R.ok ())).bind fun (c466 : (((Unit × Unit) × Unit) × ((Unit × Unit) × Unit) × Unit)) => (m_law_sign (((((b407.1.1 * b419.2.1) * b407.2.2) * b419.1.2) - (((b407.2.1 * b419.1.1) * b407.1.2) * b419.2.2)), (1 : Int))).bind fun (z467 : Int) => R.ok (c466, z467)).bind fun (b468 : ((((Unit × Unit) × Unit) × ((Unit × Unit) × Unit) × Unit) × Int)) => R.ok (.rt b468.2))))
noncomputable def m_law_hand (a : (((Int × Int) × (Int × Int)) × ((Int × Int) × (Int × Int)) × ((Int × Int) × (Int × Int)))) : R Int := fin0 (mb_law_hand a.1 a.2.1 a.2.2)
abbrev i_law_hand (a : (((Int × Int) × (Int × Int)) × ((Int × Int) × (Int × Int)) × ((Int × Int) × (Int × Int)))) : List Slot := [.val ((eP2 (eP2 D.int D.int) (eP2 D.int D.int)) a.1), .val ((eP2 (eP2 D.int D.int) (eP2 D.int D.int)) a.2.1), .val ((eP2 (eP2 D.int D.int) (eP2 D.int D.int)) a.2.2)]
abbrev l_law_hand (b : Int) : Slot := .val (D.int b)
abbrev o_law_hand (b : Int) : List Slot := [.non, .non, .non]
theorem ok_law_hand {P : Program} {w : World} {K : PySem.W.Frag} {mg : Str → Option Value} {base : Heap} (T : Top K mg) : FnOk P w K mg base CX0 2 T.law_hand.a T.law_hand.d ["_law_p", "_law_q", "_law_r"] (spM K i_law_hand m_law_hand l_law_hand o_law_hand) := by
  show FnOk P w K mg base CX0 (1 + 1) T.law_hand.a T.law_hand.d ["_law_p", "_law_q", "_law_r"] (spM K i_law_hand (fun (a : (((Int × Int) × (Int × Int)) × ((Int × Int) × (Int × Int)) × ((Int × Int) × (Int × Int)))) => fin0 (mb_law_hand a.1 a.2.1 a.2.2)) l_law_hand o_law_hand)
  refine fn_ok (n1 := fun _ => []) (c1 := fun _ => []) (k1 := fun _ => []) (ins := i_law_hand) (sl := l_law_hand) (outs := o_law_hand) (fun (a : (((Int × Int) × (Int × Int)) × ((Int × Int) × (Int × Int)) × ((Int × Int) × (Int × Int)))) => mb_law_hand a.1 a.2.1 a.2.2) 4 T.law_hand.f sc_law_hand rfl (fun _ => rfl) (fun _ => rfl) (fun _ => rfl) (fun cdv A outer s H E hr B hB a => ?_)
  show JSs _ B _ _ (mb_law_hand a.1 a.2.1 a.2.2) _
  unfold mb_law_hand
  exact ((js_cons1 (j1_par 3 4 (d1 := fun (b407 : ((Int × Int) × (Int × Int))) => (eP2 D.int D.int) b407.1) (d2 := fun (b407 : ((Int × Int) × (Int × Int))) => (eP2 D.int D.int) b407.2) rfl sc_law_hand.nd (ja_e (ρ' := fun _ _ => _) (ρa := fun _ => _) (xa := fun (x400 : (Int × Int)) => (eP2 D.int D.int) x400) (je_callV (ins := i_law_apart) (mf := m_law_apart) (sl := l_law_apart) (outs := o_law_apart) (ok_law_apart T) (hr.mono (by decide)) (by rfl) T.law_apart.g T.law_apart.f.kp T.law_apart.b pass0 (arg := (a.1.1, a.2.1.1)) (ja_p (je_op (fun _ _ ha hb => pe_ix ix_tup ha hb (fun _ _ => rfl)) (jp_var 0) jp_int (od_ixTs rfl)) (ja_p (je_op (fun _ _ ha hb => pe_ix ix_tup ha hb (fun _ _ => rfl)) (jp_var 1) jp_int (od_ixTs rfl)) ja_nil)) hB) (fun x400 => (ja_el (ρa := fun _ => _) (xa := fun (x405 : (Int × Int)) => (eP2 D.int D.int) x405) (je_callV (ins := i_law_apart) (mf := m_law_apart) (sl := l_law_apart) (outs := o_law_apart) (ok_law_apart T) (hr.mono (by decide)) (by rfl) T.law_apart.g T.law_apart.f.kp T.law_apart.b pass0 (arg := (a.1.2, a.2.1.2)) (ja_p (je_op (fun _ _ ha hb => pe_ix ix_tup ha hb (fun _ _ => rfl)) (jp_var 0) jp_int (od_ixTs rfl)) (ja_p (je_op (fun _ _ ha hb => pe_ix ix_tup ha hb (fun _ _ => rfl)) (jp_var 1) jp_int (od_ixTs rfl)) ja_nil)) hB) (fun x405 => ja_nil))))) fun b407 =>
(js_cons1 (j1_par 5 6 (d1 := fun (b419 : ((Int × Int) × (Int × Int))) => (eP2 D.int D.int) b419.1) (d2 := fun (b419 : ((Int × Int) × (Int × Int))) => (eP2 D.int D.int) b419.2) rfl sc_law_hand.nd (ja_e (ρ' := fun _ _ => _) (ρa := fun _ => _) (xa := fun (x412 : (Int × Int)) => (eP2 D.int D.int) x412) (je_callV (ins := i_law_apart) (mf := m_law_apart) (sl := l_law_apart) (outs := o_law_apart) (ok_law_apart T) (hr.mono (by decide)) (by rfl) T.law_apart.g T.law_apart.f.kp T.law_apart.b pass0 (arg := (a.1.1, a.2.2.1)) (ja_p (je_op (fun _ _ ha hb => pe_ix ix_tup ha hb (fun _ _ => rfl)) (jp_var 0) jp_int (od_ixTs rfl)) (ja_p (je_op (fun _ _ ha hb => pe_ix ix_tup ha hb (fun _ _ => rfl)) (jp_var 2) jp_int (od_ixTs rfl)) ja_nil)) hB) (fun x412 => (ja_el (ρa := fun _ => _) (xa := fun (x417 : (Int × Int)) => (eP2 D.int D.int) x417) (je_callV (ins := i_law_apart) (mf := m_law_apart) (sl := l_law_apart) (outs := o_law_apart) (ok_law_apart T) (hr.mono (by decide)) (by rfl) T.law_apart.g T.law_apart.f.kp T.law_apart.b pass0 (arg := (a.1.2, a.2.2.2)) (ja_p (je_op (fun _ _ ha hb => pe_ix ix_tup ha hb (fun _ _ => rfl)) (jp_var 0) jp_int (od_ixTs rfl)) (ja_p (je_op (fun _ _ ha hb => pe_ix ix_tup ha hb (fun _ _ => rfl)) (jp_var 2) jp_int (od_ixTs rfl)) ja_nil)) hB) (fun x417 => ja_nil))))) fun b419 =>
(js_one (js_ret (fun (b468 : ((((Unit × Unit) × Unit) × ((Unit × Unit) × Unit) × Unit) × Int)) => b468.2) [false, false, false, false, false, false, false] (je_callVE (ρa := fun _ => _) (ins := i_law_sign) (mf := m_law_sign) (sl := l_law_sign) (outs := o_law_sign) (ok_law_sign T) (hr.mono (by decide)) (by rfl) T.law_sign.g T.law_sign.f.kp T.law_sign.b pass0 (arg := fun (c466 : (((Unit × Unit) × Unit) × ((Unit × Unit) × Unit) × Unit)) => (((((b407.1.1 * b419.2.1) * b407.2.2) * b419.1.2) - (((b407.2.1 * b419.1.1) * b407.1.2) * b419.2.2)), (1 : Int))) (ja_el (ρa := fun _ => _) (xa := fun (x465 : (((Unit × Unit) × Unit) × ((Unit × Unit) × Unit) × Unit)) => (eP2 D.int D.int) (((((b407.1.1 * b419.2.1) * b407.2.2) * b419.1.2) - (((b407.2.1 * b419.1.1) * b407.1.2) * b419.2.2)), (1 : Int))) (je_tup (ja_el (ρa := fun _ => _) (xa := fun (x464 : (((Unit × Unit) × Unit) × ((Unit × Unit) × Unit) × Unit)) => D.int ((((b407.1.1 * b419.2.1) * b407.2.2) * b419.1.2) - (((b407.2.1 * b419.1.1) * b407.1.2) * b419.2.2))) (je_op2 (ρa := fun _ => _) (ρb := fun _ _ => _) (s := fun (x446 : ((Unit × Unit) × Unit)) (y447 : ((Unit × Unit) × Unit)) (z0 : Unit) => (.val (D.int ((((b407.1.1 * b419.2.1) * b407.2.2) * b419.1.2) - (((b407.2.1 * b419.1.1) * b407.1.2) * b419.2.2))))) (xa := fun (x446 : ((Unit × Unit) × Unit)) => D.int (((b407.1.1 * b419.2.1) * b407.2.2) * b419.1.2)) (xb := fun (x446 : ((Unit × Unit) × Unit)) (y447 : ((Unit × Unit) × Unit)) => D.int (((b407.2.1 * b419.1.1) * b407.1.2) * b419.2.2)) (fun _ _ ha hb => pe_op op_sub ha hb) (je_opLG (ρa := fun _ => _) (s := fun (x441 : (Unit × Unit)) (z445 : Unit) => (.val (D.int (((b407.1.1 * b419.2.1) * b407.2.2) * b419.1.2)))) (xa := fun (x441 : (Unit × Unit)) => D.int ((b407.1.1 * b419.2.1) * b407.2.2)) (y := fun (x441 : (Unit × Unit)) => D.int b419.1.2) (fun _ _ ha hb => pe_op op_mulX ha hb) (je_opLG (ρa := fun _ => _) (s := fun (x436 : Unit) (z440 : Unit) => (.val (D.int ((b407.1.1 * b419.2.1) * b407.2.2)))) (xa := fun (x436 : Unit) => D.int (b407.1.1 * b419.2.1)) (y := fun (x436 : Unit) => D.int b407.2.2) (fun _ _ ha hb => pe_op op_mulX ha hb) (je_op (fun _ _ ha hb => pe_op op_mulX ha hb) (je_op (fun _ _ ha hb => pe_ix ix_tup ha hb (fun _ _ => rfl)) (jp_var 3) jp_int (od_ixTs rfl)) (je_op (fun _ _ ha hb => pe_ix ix_tup ha hb (fun _ _ => rfl)) (jp_var 6) jp_int (od_ixTs rfl)) od_mul) (fun x436 => (je_op (fun _ _ ha hb => pe_ix ix_tup ha hb (fun _ _ => rfl)) (jp_var 4) jp_int (od_ixTs rfl))) (fun x436 => od_mul)) (fun x441 => (je_op (fun _ _ ha hb => pe_ix ix_tup ha hb (fun _ _ => rfl)) (jp_var 5) jp_int (od_ixTs rfl))) (fun x441 => od_mul)) (fun x446 => (je_opLG (ρa := fun _ => _) (s := fun (x459 : (Unit × Unit)) (z463 : Unit) => (.val (D.int (((b407.2.1 * b419.1.1) * b407.1.2) * b419.2.2)))) (xa := fun (x459 : (Unit × Unit)) => D.int ((b407.2.1 * b419.1.1) * b407.1.2)) (y := fun (x459 : (Unit × Unit)) => D.int b419.2.2) (fun _ _ ha hb => pe_op op_mulX ha hb) (je_opLG (ρa := fun _ => _) (s := fun (x454 : Unit) (z458 : Unit) => (.val (D.int ((b407.2.1 * b419.1.1) * b407.1.2)))) (xa := fun (x454 : Unit) => D.int (b407.2.1 * b419.1.1)) (y := fun (x454 : Unit) => D.int b407.1.2) (fun _ _ ha hb => pe_op op_mulX ha hb) (je_op (fun _ _ ha hb => pe_op op_mulX ha hb) (je_op (fun _ _ ha hb => pe_ix ix_tup ha hb (fun _ _ => rfl)) (jp_var 4) jp_int (od_ixTs rfl)) (je_op (fun _ _ ha hb => pe_ix ix_tup ha hb (fun _ _ => rfl)) (jp_var 5) jp_int (od_ixTs rfl)) od_mul) (fun x454 => (je_op (fun _ _ ha hb => pe_ix ix_tup ha hb (fun _ _ => rfl)) (jp_var 3) jp_int (od_ixTs rfl))) (fun x454 => od_mul)) (fun x459 => (je_op (fun _ _ ha hb => pe_ix ix_tup ha hb (fun _ _ => rfl)) (jp_var 6) jp_int (od_ixTs rfl))) (fun x459 => od_mul))) (fun x446 y447 => od_sub)) (fun x464 => (ja_p jp_int ja_nil)))) (fun x465 => ja_nil)) hB))))))
/-! law_is -/
abbrev s_law_is : Stmt := topS 19
theorem sc_law_is : FnScope ["_law_found", "_law_due"] ["_law_found", "_law_due"] (defScope s_law_is) := ⟨rfl, rfl, rfl, by decide +kernel, rfl, by decide +kernel, by decide +kernel⟩
noncomputable def mb_law_is (v_found : Int) (v_due : Int) : R (Fl Unit Unit Bool) :=
(R.ok (.rt ((isInt (D.int v_found)) && ((!(isBool (D.int v_found))) && (decide (v_found = v_due))))))
noncomputable def m_law_is (a : (Int × Int)) : R Bool := fin0 (mb_law_is a.1 a.2)
abbrev i_law_is (a : (Int × Int)) : List Slot := [.val (D.int a.1), .val (D.int a.2)]
abbrev l_law_is (b : Bool) : Slot := .val (D.bool b)
abbrev o_law_is (b : Bool) : List Slot := [.non, .non]
theorem ok_law_is {P : Program} {w : World} {K : PySem.W.Frag} {mg : Str → Option Value} {base : Heap} (T : Top K mg) : FnOk P w K mg base CX0 1 T.law_is.a T.law_is.d ["_law_found", "_law_due"] (spM K i_law_is m_law_is l_law_is o_law_is) := by
  show FnOk P w K mg base CX0 (0 + 1) T.law_is.a T.law_is.d ["_law_found", "_law_due"] (spM K i_law_is (fun (a : (Int × Int)) => fin0 (mb_law_is a.1 a.2)) l_law_is o_law_is)
  refine fn_ok (n1 := fun _ => []) (c1 := fun _ => []) (k1 := fun _ => []) (ins := i_law_is) (sl := l_law_is) (outs := o_law_is) (fun (a : (Int × Int)) => mb_law_is a.1 a.2) 0 T.law_is.f sc_law_is rfl (fun _ => rfl) (fun _ => rfl) (fun _ => rfl) (fun cdv A outer s H E hr B hB a => ?_)
  show JSs _ B _ _ (mb_law_is a.1 a.2) _
  unfold mb_law_is
  exact ((js_one (js_retP ((isInt (D.int a.1)) && ((!(isBool (D.int a.1))) && (decide (a.1 = a.2)))) [false, false] (jp_and (je_isi isi_int (jp_var 0) T.z_isinstance T.z_int (by decide +kernel)) (jp_and (je_not (je_isi isi_bool (jp_var 0) T.z_isinstance T.z_bool (by decide +kernel))) (jp_one (je_op (fun _ _ ha hb => pe_cmpR op_eq ha hb (nomark _)) (jp_var 0) (jp_var 1) od_eqI)))))))
/-! apart -/
abbrev s_apart : Stmt := topS 1
theorem sc_apart : FnScope ["one", "other"] ["one", "other"] (defScope s_apart) := ⟨rfl, rfl, rfl, by decide +kernel, rfl, by decide +kernel, by decide +kernel⟩
noncomputable def mb_apart (v_one : (Int × Int)) (v_other : (Int × Int)) : R (Fl Unit Unit (Int × Int)) :=
(((op2 (R.guard (CMulX v_other.1 v_one.2)) (fun (x479 : Unit) => R.guard (CMulX v_one.1 v_other.2)) (fun (x479 : Unit) (y480 : Unit) => R.ok ())).bind fun (x487 : (Unit × Unit × Unit)) => (R.guard (CMulX v_one.2 v_other.2)).bind fun (z495 : Unit) => R.ok (x487, z495)).bind fun (b496 : ((Unit × Unit × Unit) × Unit)) => R.ok (.rt (((v_other.1 * v_one.2) - (v_one.1 * v_other.2)), (v_one.2 * v_other.2))))
noncomputable def m_apart (a : ((Int × Int) × (Int × Int))) : R (Int × Int) := fin0 (mb_apart a.1 a.2)
abbrev i_apart (a : ((Int × Int) × (Int × Int))) : List Slot := [.val ((eP2 D.int D.int) a.1), .val ((eP2 D.int D.int) a.2)]
abbrev l_apart (b : (Int × Int)) : Slot := .val ((eP2 D.int D.int) b)
abbrev o_apart (b : (Int × Int)) : List Slot := [.non, .non]
theorem ok_apart {P : Program} {w : World} {K : PySem.W.Frag} {mg : Str → Option Value} {base : Heap} (T : Top K mg) : FnOk P w K mg base CX0 1 T.apart.a T.apart.d ["one", "other"] (spM K i_apart m_apart l_apart o_apart) := by
  show FnOk P w K mg base CX0 (0 + 1) T.apart.a T.apart.d ["one", "other"] (spM K i_apart (fun (a : ((Int × Int) × (Int × Int))) => fin0 (mb_apart a.1 a.2)) l_apart o_apart)
  refine fn_ok (n1 := fun _ => []) (c1 := fun _ => []) (k1 := fun _ => []) (ins := i_apart) (sl := l_apart) (outs := o_apart) (fun (a : ((Int × Int) × (Int × Int))) => mb_apart a.1 a.2) 0 T.apart.f sc_apart rfl (fun _ => rfl) (fun _ => rfl) (fun _ => rfl) (fun cdv A outer s H E hr B hB a => ?_)
  show JSs _ B _ _ (mb_apart a.1 a.2) _
  unfold mb_apart
  exact ((js_one (js_ret (fun (b496 : ((Unit × Unit × Unit) × Unit)) => (((a.2.1 * a.1.2) - (a.1.1 * a.2.2)), (a.1.2 * a.2.2))) [false, false] (je_tup (ja_e (ρ' := fun _ _ => _) (ρa := fun _ => _) (xa := fun (x487 : (Unit × Unit × Unit)) => D.int ((a.2.1 * a.1.2) - (a.1.1 * a.2.2))) (je_op2 (ρa := fun _ => _) (ρb := fun _ _ => _) (s := fun (x479 : Unit) (y480 : Unit) (z0 : Unit) => (.val (D.int ((a.2.1 * a.1.2) - (a.1.1 * a.2.2))))) (xa := fun (x479 : Unit) => D.int (a.2.1 * a.1.2)) (xb := fun (x479 : Unit) (y480 : Unit) => D.int (a.1.1 * a.2.2)) (fun _ _ ha hb => pe_op op_sub ha hb) (je_op (fun _ _ ha hb => pe_op op_mulX ha hb) (je_op (fun _ _ ha hb => pe_ix ix_tup ha hb (fun _ _ => rfl)) (jp_var 1) jp_int (od_ixTs rfl)) (je_op (fun _ _ ha hb => pe_ix ix_tup ha hb (fun _ _ => rfl)) (jp_var 0) jp_int (od_ixTs rfl)) od_mul) (fun x479 => (je_op (fun _ _ ha hb => pe_op op_mulX ha hb) (je_op (fun _ _ ha hb => pe_ix ix_tup ha hb (fun _ _ => rfl)) (jp_var 0) jp_int (od_ixTs rfl)) (je_op (fun _ _ ha hb => pe_ix ix_tup ha hb (fun _ _ => rfl)) (jp_var 1) jp_int (od_ixTs rfl)) od_mul)) (fun x479 y480 => od_sub)) (fun x487 => (ja_el (ρa := fun _ => _) (xa := fun (x494 : Unit) => D.int (a.1.2 * a.2.2)) (je_op (fun _ _ ha hb => pe_op op_mulX ha hb) (je_op (fun _ _ ha hb => pe_ix ix_tup ha hb (fun _ _ => rfl)) (jp_var 0) jp_int (od_ixTs rfl)) (je_op (fun _ _ ha hb => pe_ix ix_tup ha hb (fun _ _ => rfl)) (jp_var 1) jp_int (od_ixTs rfl)) od_mul) (fun x494 => ja_nil))))))))
/-! way -/
abbrev s_way : Stmt := topS 2
theorem sc_way : FnScope ["p", "q"] ["p", "q"] (defScope s_way) := ⟨rfl, rfl, rfl, by decide +kernel, rfl, by decide +kernel, by decide +kernel⟩
noncomputable def mb_way (v_p : ((Int × Int) × (Int × Int))) (v_q : ((Int × Int) × (Int × Int))) : R (Fl Unit Unit ((Int × Int) × (Int × Int))) :=
(((m_apart (v_p.1, v_q.1)).bind fun (x501 : (Int × Int)) => (m_apart (v_p.2, v_q.2)).bind fun (z507 : (Int × Int)) => R.ok (x501, z507)).bind fun (b508 : ((Int × Int) × (Int × Int))) => R.ok (.rt (b508.1, b508.2)))
noncomputable def m_way (a : (((Int × Int) × (Int × Int)) × ((Int × Int) × (Int × Int)))) : R ((Int × Int) × (Int × Int)) := fin0 (mb_way a.1 a.2)
abbrev i_way (a : (((Int × Int) × (Int × Int)) × ((Int × Int) × (Int × Int)))) : List Slot := [.val ((eP2 (eP2 D.int D.int) (eP2 D.int D.int)) a.1), .val ((eP2 (eP2 D.int D.int) (eP2 D.int D.int)) a.2)]
abbrev l_way (b : ((Int × Int) × (Int × Int))) : Slot := .val ((eP2 (eP2 D.int D.int) (eP2 D.int D.int)) b)
abbrev o_way (b : ((Int × Int) × (Int × Int))) : List Slot := [.non, .non]
theorem ok_way {P : Program} {w : World} {K : PySem.W.Frag} {mg : Str → Option Value} {base : Heap} (T : Top K mg) : FnOk P w K mg base CX0 2 T.way.a T.way.d ["p", "q"] (spM K i_way m_way l_way o_way) := by
  show FnOk P w K mg base CX0 (1 + 1) T.way.a T.way.d ["p", "q"] (spM K i_way (fun (a : (((Int × Int) × (Int × Int)) × ((Int × Int) × (Int × Int)))) => fin0 (mb_way a.1 a.2)) l_way o_way)
  refine fn_ok (n1 := fun _ => []) (c1 := fun _ => []) (k1 := fun _ => []) (ins := i_way) (sl := l_way) (outs := o_way) (fun (a : (((Int × Int) × (Int × Int)) × ((Int × Int) × (Int × Int)))) => mb_way a.1 a.2) 0 T.way.f sc_way rfl (fun _ => rfl) (fun _ => rfl) (fun _ => rfl) (fun cdv A outer s H E hr B hB a => ?_)
  show JSs _ B _ _ (mb_way a.1 a.2) _
  unfold mb_way
  exact ((js_one (js_ret (fun (b508 : ((Int × Int) × (Int × Int))) => (b508.1, b508.2)) [false, false] (je_tup (ja_e (ρ' := fun _ _ => _) (ρa := fun _ => _) (xa := fun (x501 : (Int × Int)) => (eP2 D.int D.int) x501) (je_callV (ins := i_apart) (mf := m_apart) (sl := l_apart) (outs := o_apart) (ok_apart T) (hr.mono (by decide)) (by rfl) T.apart.g T.apart.f.kp T.apart.b pass0 (arg := (a.1.1, a.2.1)) (ja_p (je_op (fun _ _ ha hb => pe_ix ix_tup ha hb (fun _ _ => rfl)) (jp_var 0) jp_int (od_ixTs rfl)) (ja_p (je_op (fun _ _ ha hb => pe_ix ix_tup ha hb (fun _ _ => rfl)) (jp_var 1) jp_int (od_ixTs rfl)) ja_nil)) hB) (fun x501 => (ja_el (ρa := fun _ => _) (xa := fun (x506 : (Int × Int)) => (eP2 D.int D.int) x506) (je_callV (ins := i_apart) (mf := m_apart) (sl := l_apart) (outs := o_apart) (ok_apart T) (hr.mono (by decide)) (by rfl) T.apart.g T.apart.f.kp T.apart.b pass0 (arg := (a.1.2, a.2.2)) (ja_p (je_op (fun _ _ ha hb => pe_ix ix_tup ha hb (fun _ _ => rfl)) (jp_var 0) jp_int (od_ixTs rfl)) (ja_p (je_op (fun _ _ ha hb => pe_ix ix_tup ha hb (fun _ _ => rfl)) (jp_var 1) jp_int (od_ixTs rfl)) ja_nil)) hB) (fun x506 => ja_nil))))))))
/-! sign_of -/
abbrev s_sign_of : Stmt := topS 3
theorem sc_sign_of : FnScope ["number"] ["number"] (defScope s_sign_of) := ⟨rfl, rfl, rfl, by decide +kernel, rfl, by decide +kernel, by decide +kernel⟩
noncomputable def mb_sign_of (v_number : Int) : R (Fl Unit Unit Int) :=
(R.ok (.rt ((if (decide (v_number > (0 : Int))) = true then (1 : Int) else 0) - (if (decide (v_number < (0 : Int))) = true then (1 : Int) else 0))))
noncomputable def m_sign_of (a : Int) : R Int := fin0 (mb_sign_of a)
abbrev i_sign_of (a : Int) : List Slot := [.val (D.int a)]
abbrev l_sign_of (b : Int) : Slot := .val (D.int b)
abbrev o_sign_of (b : Int) : List Slot := [.non]
theorem ok_sign_of {P : Program} {w : World} {K : PySem.W.Frag} {mg : Str → Option Value} {base : Heap} (T : Top K mg) : FnOk P w K mg base CX0 1 T.sign_of.a T.sign_of.d ["number"] (spM K i_sign_of m_sign_of l_sign_of o_sign_of) := by
  show FnOk P w K mg base CX0 (0 + 1) T.sign_of.a T.sign_of.d ["number"] (spM K i_sign_of (fun (a : Int) => fin0 (mb_sign_of a)) l_sign_of o_sign_of)
  refine fn_ok (n1 := fun _ => []) (c1 := fun _ => []) (k1 := fun _ => []) (ins := i_sign_of) (sl := l_sign_of) (outs := o_sign_of) (fun (a : Int) => mb_sign_of a) 0 T.sign_of.f sc_sign_of rfl (fun _ => rfl) (fun _ => rfl) (fun _ => rfl) (fun cdv A outer s H E hr B hB a => ?_)
  show JSs _ B _ _ (mb_sign_of a) _
  unfold mb_sign_of
  exact ((js_one (js_retP ((if (decide (a > (0 : Int))) = true then (1 : Int) else 0) - (if (decide (a < (0 : Int))) = true then (1 : Int) else 0)) [false] (je_op (fun _ _ ha hb => pe_op op_sub ha hb) (je_cb (fun _ ht => pe_callTy call_int1 (by rfl) T.z_int (by decide +kernel) ht) (ja_p (je_op (fun _ _ ha hb => pe_cmpR op_gt ha hb (nomark _)) (jp_var 0) jp_int od_gt) ja_nil) cb_intB) (je_cb (fun _ ht => pe_callTy call_int1 (by rfl) T.z_int (by decide +kernel) ht) (ja_p (je_op (fun _ _ ha hb => pe_cmpR op_lt ha hb (nomark _)) (jp_var 0) jp_int od_lt) ja_nil) cb_intB) od_sub))))
/-! hand -/
abbrev s_hand : Stmt := topS 4
theorem sc_hand : FnScope ["p", "q", "r", "a", "b", "c", "d"] ["p", "q", "r"] (defScope s_hand) := ⟨rfl, rfl, rfl, by decide +kernel, rfl, by decide +kernel, by decide +kernel⟩
noncomputable def mb_hand (v_p : ((Int × Int) × (Int × Int))) (v_q : ((Int × Int) × (Int × Int))) (v_r : ((Int × Int) × (Int × Int))) : R (Fl Unit Unit Int) :=
((m_way (v_p, v_q)).bind fun (b509 : ((Int × Int) × (Int × Int))) =>
((m_way (v_p, v_r)).bind fun (b510 : ((Int × Int) × (Int × Int))) =>
(((op2 (((R.guard (CMulX b509.1.1 b510.2.1)).bind fun (x523 : Unit) => (R.guard (CMulX (b509.1.1 * b510.2.1) b509.2.2)).bind fun (z527 : Unit) => R.ok (x523, z527)).bind fun (x528 : (Unit × Unit)) => (R.guard (CMulX ((b509.1.1 * b510.2.1) * b509.2.2) b510.1.2)).bind fun (z532 : Unit) => R.ok (x528, z532)) (fun (x533 : ((Unit × Unit) × Unit)) => (((R.guard (CMulX b509.2.1 b510.1.1)).bind fun (x541 : Unit) => (R.guard (CMulX (b509.2.1 * b510.1.1) b509.1.2)).bind fun (z545 : Unit) => R.ok (x541, z545)).bind fun (x546 : (Unit × Unit)) => (R.guard (CMulX ((b509.2.1 * b510.1.1) * b509.1.2) b510.2.2)).bind fun (z550 : Unit) => R.ok (x546, z550))) (fun (x533 : ((Unit × Unit) × Unit)) (y534 : ((Unit × Unit) × Unit)) => R.ok ())).bind fun (c552 : (((Unit × Unit) × Unit) × ((Unit × Unit) × Unit) × Unit)) => (m_sign_of ((((b509.1.1 * b510.2.1) * b509.2.2) * b510.1.2) - (((b509.2.1 * b510.1.1) * b509.1.2) * b510.2.2))).bind fun (z553 : Int) => R.ok (c552, z553)).bind fun (b554 : ((((Unit × Unit) × Unit) × ((Unit × Unit) × Unit) × Unit) × Int)) => R.ok (.rt b554.2))))
noncomputable def m_hand (a : (((Int × Int) × (Int × Int)) × ((Int × Int) × (Int × Int)) × ((Int × Int) × (Int × Int)))) : R Int := fin0 (mb_hand a.1 a.2.1 a.2.2)
abbrev i_hand (a : (((Int × Int) × (Int × Int)) × ((Int × Int) × (Int × Int)) × ((Int × Int) × (Int × Int)))) : List Slot := [.val ((eP2 (eP2 D.int D.int) (eP2 D.int D.int)) a.1), .val ((eP2 (eP2 D.int D.int) (eP2 D.int D.int)) a.2.1), .val ((eP2 (eP2 D.int D.int) (eP2 D.int D.int)) a.2.2)]
abbrev l_hand (b : Int) : Slot := .val (D.int b)
abbrev o_hand (b : Int) : List Slot := [.non, .non, .non]
theorem ok_hand {P : Program} {w : World} {K : PySem.W.Frag} {mg : Str → Option Value} {base : Heap} (T : Top K mg) : FnOk P w K mg base CX0 3 T.hand.a T.hand.d ["p", "q", "r"] (spM K i_hand m_hand l_hand o_hand) := by
  show FnOk P w K mg base CX0 (2 + 1) T.hand.a T.hand.d ["p", "q", "r"] (spM K i_hand (fun (a : (((Int × Int) × (Int × Int)) × ((Int × Int) × (Int × Int)) × ((Int × Int) × (Int × Int)))) => fin0 (mb_hand a.1 a.2.1 a.2.2)) l_hand o_hand)
  refine fn_ok (n1 := fun _ => []) (c1 := fun _ => []) (k1 := fun _ => []) (ins := i_hand) (sl := l_hand) (outs := o_hand) (fun (a : (((Int × Int) × (Int × Int)) × ((Int × Int) × (Int × Int)) × ((Int × Int) × (Int × Int)))) => mb_hand a.1 a.2.1 a.2.2) 4 T.hand.f sc_hand rfl (fun _ => rfl) (fun _ => rfl) (fun _ => rfl) (fun cdv A outer s H E hr B hB a => ?_)
  show JSs _ B _ _ (mb_hand a.1 a.2.1 a.2.2) _
  unfold mb_hand
  exact ((js_cons1 (j1_asgN (d := fun (b509 : ((Int × Int) × (Int × Int))) => (eP2 (eP2 D.int D.int) (eP2 D.int D.int)) b509) (je_callV (ins := i_way) (mf := m_way) (sl := l_way) (outs := o_way) (ok_way T) (hr.mono (by decide)) (by rfl) T.way.g T.way.f.kp T.way.b pass0 (arg := (a.1, a.2.1)) (ja_p (jp_var 0) (ja_p (jp_var 1) ja_nil)) hB) (fun b509 => jg_tup rfl (jgs_p (jg_name 3 sc_hand.nd) (jgs_p (jg_name 4 sc_hand.nd) jgs_nil)))) fun b509 =>
(js_cons1 (j1_asgN (d := fun (b510 : ((Int × Int) × (Int × Int))) => (eP2 (eP2 D.int D.int) (eP2 D.int D.int)) b510) (je_callV (ins := i_way) (mf := m_way) (sl := l_way) (outs := o_way) (ok_way T) (hr.mono (by decide)) (by rfl) T.way.g T.way.f.kp T.way.b pass0 (arg := (a.1, a.2.2)) (ja_p (jp_var 0) (ja_p (jp_var 2) ja_nil)) hB) (fun b510 => jg_tup rfl (jgs_p (jg_name 5 sc_hand.nd) (jgs_p (jg_name 6 sc_hand.nd) jgs_nil)))) fun b510 =>
(js_one (js_ret (fun (b554 : ((((Unit × Unit) × Unit) × ((Unit × Unit) × Unit) × Unit) × Int)) => b554.2) [false, false, false, false, false, false, false] (je_callVE (ρa := fun _ => _) (ins := i_sign_of) (mf := m_sign_of) (sl := l_sign_of) (outs := o_sign_of) (ok_sign_of T) (hr.mono (by decide)) (by rfl) T.sign_of.g T.sign_of.f.kp T.sign_of.b pass0 (arg := fun (c552 : (((Unit × Unit) × Unit) × ((Unit × Unit) × Unit) × Unit)) => ((((b509.1.1 * b510.2.1) * b509.2.2) * b510.1.2) - (((b509.2.1 * b510.1.1) * b509.1.2) * b510.2.2))) (ja_el (ρa := fun _ => _) (xa := fun (x551 : (((Unit × Unit) × Unit) × ((Unit × Unit) × Unit) × Unit)) => D.int ((((b509.1.1 * b510.2.1) * b509.2.2) * b510.1.2) - (((b509.2.1 * b510.1.1) * b509.1.2) * b510.2.2))) (je_op2 (ρa := fun _ => _) (ρb := fun _ _ => _) (s := fun (x533 : ((Unit × Unit) × Unit)) (y534 : ((Unit × Unit) × Unit)) (z0 : Unit) => (.val (D.int ((((b509.1.1 * b510.2.1) * b509.2.2) * b510.1.2) - (((b509.2.1 * b510.1.1) * b509.1.2) * b510.2.2))))) (xa := fun (x533 : ((Unit × Unit) × Unit)) => D.int (((b509.1.1 * b510.2.1) * b509.2.2) * b510.1.2)) (xb := fun (x533 : ((Unit × Unit) × Unit)) (y534 : ((Unit × Unit) × Unit)) => D.int (((b509.2.1 * b510.1.1) * b509.1.2) * b510.2.2)) (fun _ _ ha hb => pe_op op_sub ha hb) (je_opLG (ρa := fun _ => _) (s := fun (x528 : (Unit × Unit)) (z532 : Unit) => (.val (D.int (((b509.1.1 * b510.2.1) * b509.2.2) * b510.1.2)))) (xa := fun (x528 : (Unit × Unit)) => D.int ((b509.1.1 * b510.2.1) * b509.2.2)) (y := fun (x528 : (Unit × Unit)) => D.int b510.1.2) (fun _ _ ha hb => pe_op op_mulX ha hb) (je_opLG (ρa := fun _ => _) (s := fun (x523 : Unit) (z527 : Unit) => (.val (D.int ((b509.1.1 * b510.2.1) * b509.2.2)))) (xa := fun (x523 : Unit) => D.int (b509.1.1 * b510.2.1)) (y := fun (x523 : Unit) => D.int b509.2.2) (fun _ _ ha hb => pe_op op_mulX ha hb) (je_op (fun _ _ ha hb => pe_op op_mulX ha hb) (je_op (fun _ _ ha hb => pe_ix ix_tup ha hb (fun _ _ => rfl)) (jp_var 3) jp_int (od_ixTs rfl)) (je_op (fun _ _ ha hb => pe_ix ix_tup ha hb (fun _ _ => rfl)) (jp_var 6) jp_int (od_ixTs rfl)) od_mul) (fun x523 => (je_op (fun _ _ ha hb => pe_ix ix_tup ha hb (fun _ _ => rfl)) (jp_var 4) jp_int (od_ixTs rfl))) (fun x523 => od_mul)) (fun x528 => (je_op (fun _ _ ha hb => pe_ix ix_tup ha hb (fun _ _ => rfl)) (jp_var 5) jp_int (od_ixTs rfl))) (fun x528 => od_mul)) (fun x533 => (je_opLG (ρa := fun _ => _) (s := fun (x546 : (Unit × Unit)) (z550 : Unit) => (.val (D.int (((b509.2.1 * b510.1.1) * b509.1.2) * b510.2.2)))) (xa := fun (x546 : (Unit × Unit)) => D.int ((b509.2.1 * b510.1.1) * b509.1.2)) (y := fun (x546 : (Unit × Unit)) => D.int b510.2.2) (fun _ _ ha hb => pe_op op_mulX ha hb) (je_opLG (ρa := fun _ => _) (s := fun (x541 : Unit) (z545 : Unit) => (.val (D.int ((b509.2.1 * b510.1.1) * b509.1.2)))) (xa := fun (x541 : Unit) => D.int (b509.2.1 * b510.1.1)) (y := fun (x541 : Unit) => D.int b509.1.2) (fun _ _ ha hb => pe_op op_mulX ha hb) (je_op (fun _ _ ha hb => pe_op op_mulX ha hb) (je_op (fun _ _ ha hb => pe_ix ix_tup ha hb (fun _ _ => rfl)) (jp_var 4) jp_int (od_ixTs rfl)) (je_op (fun _ _ ha hb => pe_ix ix_tup ha hb (fun _ _ => rfl)) (jp_var 5) jp_int (od_ixTs rfl)) od_mul) (fun x541 => (je_op (fun _ _ ha hb => pe_ix ix_tup ha hb (fun _ _ => rfl)) (jp_var 3) jp_int (od_ixTs rfl))) (fun x541 => od_mul)) (fun x546 => (je_op (fun _ _ ha hb => pe_ix ix_tup ha hb (fun _ _ => rfl)) (jp_var 6) jp_int (od_ixTs rfl))) (fun x546 => od_mul))) (fun x533 y534 => od_sub)) (fun x551 => ja_nil)) hB))))))
/-! law_right -/
abbrev s_law_right : Stmt := topS 22
theorem sc_law_right : FnScope ["_law_p", "_law_q", "_law_r", "_law_due"] ["_law_p", "_law_q", "_law_r", "_law_due"] (defScope s_law_right) := ⟨rfl, rfl, rfl, by decide +kernel, rfl, by decide +kernel, by decide +kernel⟩
noncomputable def mb_law_right (v_p : ((Int × Int) × (Int × Int))) (v_q : ((Int × Int) × (Int × Int))) (v_r : ((Int × Int) × (Int × Int))) (v_due : Int) : R (Fl Unit Unit Bool) :=
(bindF ((or2 ((m_hand (v_p, v_q, v_r)).bind fun (c556 : Int) => (m_law_is (c556, v_due)).bind fun (z557 : Bool) => R.ok (c556, z557)) (fun (b562 : (Int × Bool)) => (!b562.2)) (((m_hand (v_q, v_r, v_p)).bind fun (c559 : Int) => (m_law_is (c559, v_due)).bind fun (z560 : Bool) => R.ok (c559, z560)).bind fun (b561 : (Int × Bool)) => R.ok (!b561.2))).bind fun (b563 : Bool) => if b563 = true then (R.ok (.rt false)) else (R.ok (.nx ()))) fun n564 =>
((and2 ((m_hand (v_q, v_p, v_r)).bind fun (c566 : Int) => (m_law_is (c566, (-v_due))).bind fun (z567 : Bool) => R.ok (c566, z567)) (fun (b572 : (Int × Bool)) => b572.2) (((m_hand (v_p, v_r, v_q)).bind fun (c569 : Int) => (m_law_is (c569, (-v_due))).bind fun (z570 : Bool) => R.ok (c569, z570)).bind fun (b571 : (Int × Bool)) => R.ok b571.2)).bind fun (b573 : Bool) => R.ok (.rt b573)))
noncomputable def m_law_right (a : (((Int × Int) × (Int × Int)) × ((Int × Int) × (Int × Int)) × ((Int × Int) × (Int × Int)) × Int)) : R Bool := fin0 (mb_law_right a.1 a.2.1 a.2.2.1 a.2.2.2)
abbrev i_law_right (a : (((Int × Int) × (Int × Int)) × ((Int × Int) × (Int × Int)) × ((Int × Int) × (Int × Int)) × Int)) : List Slot := [.val ((eP2 (eP2 D.int D.int) (eP2 D.int D.int)) a.1), .val ((eP2 (eP2 D.int D.int) (eP2 D.int D.int)) a.2.1), .val ((eP2 (eP2 D.int D.int) (eP2 D.int D.int)) a.2.2.1), .val (D.int a.2.2.2)]
abbrev l_law_right (b : Bool) : Slot := .val (D.bool b)
abbrev o_law_right (b : Bool) : List Slot := [.non, .non, .non, .non]
theorem ok_law_right {P : Program} {w : World} {K : PySem.W.Frag} {mg : Str → Option Value} {base : Heap} (T : Top K mg) : FnOk P w K mg base CX0 4 T.law_right.a T.law_right.d ["_law_p", "_law_q", "_law_r", "_law_due"] (spM K i_law_right m_law_right l_law_right o_law_right) := by
  show FnOk P w K mg base CX0 (3 + 1) T.law_right.a T.law_right.d ["_law_p", "_law_q", "_law_r", "_law_due"] (spM K i_law_right (fun (a : (((Int × Int) × (Int × Int)) × ((Int × Int) × (Int × Int)) × ((Int × Int) × (Int × Int)) × Int)) => fin0 (mb_law_right a.1 a.2.1 a.2.2.1 a.2.2.2)) l_law_right o_law_right)
  refine fn_ok (n1 := fun _ => []) (c1 := fun _ => []) (k1 := fun _ => []) (ins := i_law_right) (sl := l_law_right) (outs := o_law_right) (fun (a : (((Int × Int) × (Int × Int)) × ((Int × Int) × (Int × Int)) × ((Int × Int) × (Int × Int)) × Int)) => mb_law_right a.1 a.2.1 a.2.2.1 a.2.2.2) 0 T.law_right.f sc_law_right rfl (fun _ => rfl) (fun _ => rfl) (fun _ => rfl) (fun cdv A outer s H E hr B hB a => ?_)
  show JSs _ B _ _ (mb_law_right a.1 a.2.1 a.2.2.1 a.2.2.2) _
  unfold mb_law_right
  exact ((js_cons (ρ1 := fun (n564 : Unit) => [.val ((eP2 (eP2 D.int D.int) (eP2 D.int D.int)) a.1), .val ((eP2 (eP2 D.int D.int) (eP2 D.int D.int)) a.2.1), .val ((eP2 (eP2 D.int D.int) (eP2 D.int D.int)) a.2.2.1), .val (D.int a.2.2.2)]) (js_if (jt_w (jw_or (xa := fun (b562 : (Int × Bool)) => (!b562.2)) (jt_not (jt_val (je_callVE (ρa := fun _ => _) (ins := i_law_is) (mf := m_law_is) (sl := l_law_is) (outs := o_law_is) (ok_law_is T) (hr.mono (by decide)) (by rfl) T.law_is.g T.law_is.f.kp T.law_is.b pass0 (arg := fun (c556 : Int) => (c556, a.2.2.2)) (ja_el (ρa := fun _ => _) (xa := fun (x555 : Int) => D.int x555) (je_callV (ins := i_hand) (mf := m_hand) (sl := l_hand) (outs := o_hand) (ok_hand T) (hr.mono (by decide)) (by rfl) T.hand.g T.hand.f.kp T.hand.b pass0 (arg := (a.1, a.2.1, a.2.2.1)) (ja_p (jp_var 0) (ja_p (jp_var 1) (ja_p (jp_var 2) ja_nil))) hB) (fun x555 => (ja_p (jp_var 3) ja_nil))) hB))) (jw_or1 (jt_map (jt_not (jt_val (je_callVE (ρa := fun _ => _) (ins := i_law_is) (mf := m_law_is) (sl := l_law_is) (outs := o_law_is) (ok_law_is T) (hr.mono (by decide)) (by rfl) T.law_is.g T.law_is.f.kp T.law_is.b pass0 (arg := fun (c559 : Int) => (c559, a.2.2.2)) (ja_el (ρa := fun _ => _) (xa := fun (x558 : Int) => D.int x558) (je_callV (ins := i_hand) (mf := m_hand) (sl := l_hand) (outs := o_hand) (ok_hand T) (hr.mono (by decide)) (by rfl) T.hand.g T.hand.f.kp T.hand.b pass0 (arg := (a.2.1, a.2.2.1, a.1)) (ja_p (jp_var 1) (ja_p (jp_var 2) (ja_p (jp_var 0) ja_nil))) hB) (fun x558 => (ja_p (jp_var 3) ja_nil))) hB))))))) (fun b563 => (js_one (js_retP false [false, false, false, false] jp_bl))) (fun b563 => (js_nil [true, true, true, true] ()))) fun n564 =>
(js_one (js_ret (fun (b573 : Bool) => b573) [false, false, false, false] (je_and (xa := fun (b572 : (Int × Bool)) => b572.2) (je_callVE (ρa := fun _ => _) (ins := i_law_is) (mf := m_law_is) (sl := l_law_is) (outs := o_law_is) (ok_law_is T) (hr.mono (by decide)) (by rfl) T.law_is.g T.law_is.f.kp T.law_is.b pass0 (arg := fun (c566 : Int) => (c566, (-a.2.2.2))) (ja_el (ρa := fun _ => _) (xa := fun (x565 : Int) => D.int x565) (je_callV (ins := i_hand) (mf := m_hand) (sl := l_hand) (outs := o_hand) (ok_hand T) (hr.mono (by decide)) (by rfl) T.hand.g T.hand.f.kp T.hand.b pass0 (arg := (a.2.1, a.1, a.2.2.1)) (ja_p (jp_var 1) (ja_p (jp_var 0) (ja_p (jp_var 2) ja_nil))) hB) (fun x565 => (ja_p (jp_neg (jp_var 3)) ja_nil))) hB) (jp_one (je_map (sl' := fun y => .val (.bool y)) (f := fun (b571 : (Int × Bool)) => b571.2) (je_callVE (ρa := fun _ => _) (ins := i_law_is) (mf := m_law_is) (sl := l_law_is) (outs := o_law_is) (ok_law_is T) (hr.mono (by decide)) (by rfl) T.law_is.g T.law_is.f.kp T.law_is.b pass0 (arg := fun (c569 : Int) => (c569, (-a.2.2.2))) (ja_el (ρa := fun _ => _) (xa := fun (x568 : Int) => D.int x568) (je_callV (ins := i_hand) (mf := m_hand) (sl := l_hand) (outs := o_hand) (ok_hand T) (hr.mono (by decide)) (by rfl) T.hand.g T.hand.f.kp T.hand.b pass0 (arg := (a.1, a.2.2.1, a.2.1)) (ja_p (jp_var 0) (ja_p (jp_var 2) (ja_p (jp_var 1) ja_nil))) hB) (fun x568 => (ja_p (jp_neg (jp_var 3)) ja_nil))) hB) (fun _ => rfl))))))))
/-! law_greatest -/
abbrev s_law_greatest : Stmt := topS 21
theorem sc_law_greatest : FnScope ["_law_points_here", "_law_found", "_law_point_here", "_law_one"] ["_law_points_here"] (defScope s_law_greatest) := ⟨rfl, rfl, rfl, by decide +kernel, rfl, by decide +kernel, by decide +kernel⟩
noncomputable def mb_law_greatest (v_points_here : (List ((Int × Int) × (Int × Int)))) : R (Fl Unit Unit Int) :=
(lt (0 : Int) fun v_found_585 =>
(bindF (forR (fun (x589 : ((Int × Int) × (Int × Int))) (s587 : Int) =>
(((((R.ok ()).bind fun (b600 : Unit) => (R.guard (List.length [(x589.1.1, x589.1.2, x589.2.1, x589.2.2).1, (x589.1.1, x589.1.2, x589.2.1, x589.2.2).2.1, (x589.1.1, x589.1.2, x589.2.1, x589.2.2).2.2.1, (x589.1.1, x589.1.2, x589.2.1, x589.2.2).2.2.2] ≤ sizeLine)).bind fun _ => R.ok b600).bind fun (y593 : Unit) => (R.guard (List.length [s587] + List.length (List.map (fun (x602 : Int) => (if x602 < 0 then -x602 else x602)) (List.filter (fun (x602 : Int) => true) [(x589.1.1, x589.1.2, x589.2.1, x589.2.2).1, (x589.1.1, x589.1.2, x589.2.1, x589.2.2).2.1, (x589.1.1, x589.1.2, x589.2.1, x589.2.2).2.2.1, (x589.1.1, x589.1.2, x589.2.1, x589.2.2).2.2.2])) ≤ sizeLine)).bind fun (z605 : Unit) => R.ok (y593, z605)).bind fun (c608 : (Unit × Unit)) => (R.guard (([s587] ++ (List.map (fun (x602 : Int) => (if x602 < 0 then -x602 else x602)) (List.filter (fun (x602 : Int) => true) [(x589.1.1, x589.1.2, x589.2.1, x589.2.2).1, (x589.1.1, x589.1.2, x589.2.1, x589.2.2).2.1, (x589.1.1, x589.1.2, x589.2.1, x589.2.2).2.2.1, (x589.1.1, x589.1.2, x589.2.1, x589.2.2).2.2.2]))) ≠ [])).bind fun (z609 : Unit) => R.ok (c608, z609)).bind fun (b611 : ((Unit × Unit) × Unit)) => lt (maxL ([s587] ++ (List.map (fun (x602 : Int) => (if x602 < 0 then -x602 else x602)) (List.filter (fun (x602 : Int) => true) [(x589.1.1, x589.1.2, x589.2.1, x589.2.2).1, (x589.1.1, x589.1.2, x589.2.1, x589.2.2).2.1, (x589.1.1, x589.1.2, x589.2.1, x589.2.2).2.2.1, (x589.1.1, x589.1.2, x589.2.1, x589.2.2).2.2.2])))) fun v_found_610 =>
(R.ok (.nx v_found_610)))) v_points_here v_found_585) fun n588 =>
(R.ok (.rt n588))))
noncomputable def m_law_greatest (a : (List ((Int × Int) × (Int × Int)))) : R Int := fin0 (mb_law_greatest a)
abbrev i_law_greatest (a : (List ((Int × Int) × (Int × Int)))) : List Slot := [.val ((eT (eP2 (eP2 D.int D.int) (eP2 D.int D.int))) a)]
abbrev l_law_greatest (b : Int) : Slot := .val (D.int b)
abbrev o_law_greatest (b : Int) : List Slot := [.non]
theorem ok_law_greatest {P : Program} {w : World} {K : PySem.W.Frag} {mg : Str → Option Value} {base : Heap} (T : Top K mg) : FnOk P w K mg base CX0 1 T.law_greatest.a T.law_greatest.d ["_law_points_here"] (spM K i_law_greatest m_law_greatest l_law_greatest o_law_greatest) := by
  show FnOk P w K mg base CX0 (0 + 1) T.law_greatest.a T.law_greatest.d ["_law_points_here"] (spM K i_law_greatest (fun (a : (List ((Int × Int) × (Int × Int)))) => fin0 (mb_law_greatest a)) l_law_greatest o_law_greatest)
  refine fn_ok (n1 := fun _ => []) (c1 := fun _ => []) (k1 := fun _ => []) (ins := i_law_greatest) (sl := l_law_greatest) (outs := o_law_greatest) (fun (a : (List ((Int × Int) × (Int × Int)))) => mb_law_greatest a) 3 T.law_greatest.f sc_law_greatest rfl (fun _ => rfl) (fun _ => rfl) (fun _ => rfl) (fun cdv A outer s H E hr B hB a => ?_)
  show JSs _ B _ _ (mb_law_greatest a) _
  unfold mb_law_greatest
  exact ((js_setP 1 D.int (0 : Int) sc_law_greatest.nd jp_int fun v_found_585 =>
(js_cons (ρ1 := fun (n588 : Int) => [.val ((eT (eP2 (eP2 D.int D.int) (eP2 D.int D.int))) a), .val (D.int n588), .non, .non]) (js_forP (en := (eP2 (eP2 D.int D.int) (eP2 D.int D.int))) (fun (s587 : Int) => [.val ((eT (eP2 (eP2 D.int D.int) (eP2 D.int D.int))) a), .val (D.int s587), .non, .non]) (fun (x589 : ((Int × Int) × (Int × Int))) (s587 : Int) => [.val ((eT (eP2 (eP2 D.int D.int) (eP2 D.int D.int))) a), .val (D.int s587), .val ((eP2 (eP2 D.int D.int) (eP2 D.int D.int)) x589), .non]) PassesOwn.never rfl (ji_tup (jp_var 0)) [true, true, true, true] rfl (fun x589 s587 => (jg_name 2 sc_law_greatest.nd)) (fun x589 s587 =>
(js_setE 1 D.int (fun (b611 : ((Unit × Unit) × Unit)) => (maxL ([s587] ++ (List.map (fun (x602 : Int) => (if x602 < 0 then -x602 else x602)) (List.filter (fun (x602 : Int) => true) [(x589.1.1, x589.1.2, x589.2.1, x589.2.2).1, (x589.1.1, x589.1.2, x589.2.1, x589.2.2).2.1, (x589.1.1, x589.1.2, x589.2.1, x589.2.2).2.2.1, (x589.1.1, x589.1.2, x589.2.1, x589.2.2).2.2.2]))))) sc_law_greatest.nd (je_cb2 (ρa := fun _ => _) (s := fun (c608 : (Unit × Unit)) (z609 : Unit) => .val (D.int (maxL ([s587] ++ (List.map (fun (x602 : Int) => (if x602 < 0 then -x602 else x602)) (List.filter (fun (x602 : Int) => true) [(x589.1.1, x589.1.2, x589.2.1, x589.2.2).1, (x589.1.1, x589.1.2, x589.2.1, x589.2.2).2.1, (x589.1.1, x589.1.2, x589.2.1, x589.2.2).2.2.1, (x589.1.1, x589.1.2, x589.2.1, x589.2.2).2.2.2])))))) (fun _ ht => pe_callB (cr_max rfl) (by rfl) T.z_max (by decide +kernel) ht) (ja_el (ρa := fun _ => _) (xa := fun (x607 : (Unit × Unit)) => (eL D.int) ([s587] ++ (List.map (fun (x602 : Int) => (if x602 < 0 then -x602 else x602)) (List.filter (fun (x602 : Int) => true) [(x589.1.1, x589.1.2, x589.2.1, x589.2.2).1, (x589.1.1, x589.1.2, x589.2.1, x589.2.2).2.1, (x589.1.1, x589.1.2, x589.2.1, x589.2.2).2.2.1, (x589.1.1, x589.1.2, x589.2.1, x589.2.2).2.2.2])))) (je_frzL (v := fun (b606 : (Unit × Unit)) => ([s587] ++ (List.map (fun (x602 : Int) => (if x602 < 0 then -x602 else x602)) (List.filter (fun (x602 : Int) => true) [(x589.1.1, x589.1.2, x589.2.1, x589.2.2).1, (x589.1.1, x589.1.2, x589.2.1, x589.2.2).2.1, (x589.1.1, x589.1.2, x589.2.1, x589.2.2).2.2.1, (x589.1.1, x589.1.2, x589.2.1, x589.2.2).2.2.2])))) (je_opRG (ρb := fun _ => _) (s := fun (y593 : Unit) (z605 : Unit) => (.own 0 ((oL D.int) ([s587] ++ (List.map (fun (x602 : Int) => (if x602 < 0 then -x602 else x602)) (List.filter (fun (x602 : Int) => true) [(x589.1.1, x589.1.2, x589.2.1, x589.2.2).1, (x589.1.1, x589.1.2, x589.2.1, x589.2.2).2.1, (x589.1.1, x589.1.2, x589.2.1, x589.2.2).2.2.1, (x589.1.1, x589.1.2, x589.2.1, x589.2.2).2.2.2])))))) (xb := fun (y593 : Unit) => (eL D.int) (List.map (fun (x602 : Int) => (if x602 < 0 then -x602 else x602)) (List.filter (fun (x602 : Int) => true) [(x589.1.1, x589.1.2, x589.2.1, x589.2.2).1, (x589.1.1, x589.1.2, x589.2.1, x589.2.2).2.1, (x589.1.1, x589.1.2, x589.2.1, x589.2.2).2.2.1, (x589.1.1, x589.1.2, x589.2.1, x589.2.2).2.2.2]))) (fun _ _ ha hb => pe_op op_catR ha hb) (je_frzL (v := fun (b591 : Unit) => [s587]) (je_lstT D.int (fun (b590 : Unit) => ([s587] : List Int)) (ja_p (jp_var 1) ja_nil))) (je_frzL (v := fun (b604 : Unit) => (List.map (fun (x602 : Int) => (if x602 < 0 then -x602 else x602)) (List.filter (fun (x602 : Int) => true) [(x589.1.1, x589.1.2, x589.2.1, x589.2.2).1, (x589.1.1, x589.1.2, x589.2.1, x589.2.2).2.1, (x589.1.1, x589.1.2, x589.2.1, x589.2.2).2.2.1, (x589.1.1, x589.1.2, x589.2.1, x589.2.2).2.2.2]))) (je_lcP (xs := fun (b600 : Unit) => [(x589.1.1, x589.1.2, x589.2.1, x589.2.2).1, (x589.1.1, x589.1.2, x589.2.1, x589.2.2).2.1, (x589.1.1, x589.1.2, x589.2.1, x589.2.2).2.2.1, (x589.1.1, x589.1.2, x589.2.1, x589.2.2).2.2.2]) (ea := D.int) (ts := [3]) [("_law_one", 3)] D.int (fun (x602 : Int) => [.val ((eT (eP2 (eP2 D.int D.int) (eP2 D.int D.int))) a), .val (D.int s587), .val ((eP2 (eP2 D.int D.int) (eP2 D.int D.int)) x589), .val (D.int x602)]) (fun (x602 : Int) => true) (fun (x602 : Int) => (if x602 < 0 then -x602 else x602)) rfl sc_law_greatest.nd (ji_tup (show JP _ _ _ _ ((eT D.int) [(x589.1.1, x589.1.2, x589.2.1, x589.2.2).1, (x589.1.1, x589.1.2, x589.2.1, x589.2.2).2.1, (x589.1.1, x589.1.2, x589.2.1, x589.2.2).2.2.1, (x589.1.1, x589.1.2, x589.2.1, x589.2.2).2.2.2]) from (je_op (fun _ _ ha hb => pe_op op_catT ha hb) (je_op (fun _ _ ha hb => pe_ix ix_tup ha hb (fun _ _ => rfl)) (jp_var 2) jp_int (od_ixTs rfl)) (je_op (fun _ _ ha hb => pe_ix ix_tup ha hb (fun _ _ => rfl)) (jp_var 2) jp_int (od_ixTs rfl)) (od_catT (ds := [D.int x589.1.1, D.int x589.1.2]) (es := [D.int x589.2.1, D.int x589.2.2]) (by intro z; cases z) (by intro z; cases z) (Nat.le_of_ble_eq_true rfl))))) (blkOk_by (N := ["_law_points_here", "_law_found", "_law_point_here", "_law_one"]) (sc := defScope s_law_greatest) (by decide +kernel)) (fun _ _ _ _ _ _ hB603 x602 => (have hB := noRs hB603 hB; (jn_name 3 sc_law_greatest.nd))) (fun _ _ _ _ _ _ hB603 x602 => (have hB := noRs hB603 hB; jts_t)) (fun _ _ _ _ _ _ hB603 x602 => (have hB := noRs hB603 hB; (je_cb (fun _ ht => pe_callB call_abs (by rfl) T.z_abs (by decide +kernel) ht) (ja_p (jp_var 3) ja_nil) cb_abs))))) (fun y593 => od_catm))) (fun x607 => ja_nil)) (fun c608 => cb_maxL)) fun b611 v_found_610 =>
(js_nil [true, true, false, true] v_found_610)))) fun n588 =>
(js_one (js_retP n588 [false, false, true, true] (jp_var 1))))))
/-! law_moved -/
abbrev s_law_moved : Stmt := topS 20
theorem sc_law_moved : FnScope ["_law_point_here", "_law_by", "_law_many"] ["_law_point_here", "_law_by", "_law_many"] (defScope s_law_moved) := ⟨rfl, rfl, rfl, by decide +kernel, rfl, by decide +kernel, by decide +kernel⟩
noncomputable def mb_law_moved (v_point_here : ((Int × Int) × (Int × Int))) (v_by : ((Int × Int) × (Int × Int))) (v_many : (Int × Int)) : R (Fl Unit Unit ((Int × Int) × (Int × Int))) :=
((((m_law_times (v_point_here.1, v_many)).bind fun (c645 : (Int × Int)) => (m_law_plus (c645, v_by.1)).bind fun (z646 : (Int × Int)) => R.ok (c645, z646)).bind fun (x647 : ((Int × Int) × (Int × Int))) => ((m_law_times (v_point_here.2, v_many)).bind fun (c653 : (Int × Int)) => (m_law_plus (c653, v_by.2)).bind fun (z654 : (Int × Int)) => R.ok (c653, z654)).bind fun (z656 : ((Int × Int) × (Int × Int))) => R.ok (x647, z656)).bind fun (b657 : (((Int × Int) × (Int × Int)) × ((Int × Int) × (Int × Int)))) => R.ok (.rt (b657.1.2, b657.2.2)))
noncomputable def m_law_moved (a : (((Int × Int) × (Int × Int)) × ((Int × Int) × (Int × Int)) × (Int × Int))) : R ((Int × Int) × (Int × Int)) := fin0 (mb_law_moved a.1 a.2.1 a.2.2)
abbrev i_law_moved (a : (((Int × Int) × (Int × Int)) × ((Int × Int) × (Int × Int)) × (Int × Int))) : List Slot := [.val ((eP2 (eP2 D.int D.int) (eP2 D.int D.int)) a.1), .val ((eP2 (eP2 D.int D.int) (eP2 D.int D.int)) a.2.1), .val ((eP2 D.int D.int) a.2.2)]
abbrev l_law_moved (b : ((Int × Int) × (Int × Int))) : Slot := .val ((eP2 (eP2 D.int D.int) (eP2 D.int D.int)) b)
abbrev o_law_moved (b : ((Int × Int) × (Int × Int))) : List Slot := [.non, .non, .non]
theorem ok_law_moved {P : Program} {w : World} {K : PySem.W.Frag} {mg : Str → Option Value} {base : Heap} (T : Top K mg) : FnOk P w K mg base CX0 3 T.law_moved.a T.law_moved.d ["_law_point_here", "_law_by", "_law_many"] (spM K i_law_moved m_law_moved l_law_moved o_law_moved) := by
  show FnOk P w K mg base CX0 (2 + 1) T.law_moved.a T.law_moved.d ["_law_point_here", "_law_by", "_law_many"] (spM K i_law_moved (fun (a : (((Int × Int) × (Int × Int)) × ((Int × Int) × (Int × Int)) × (Int × Int))) => fin0 (mb_law_moved a.1 a.2.1 a.2.2)) l_law_moved o_law_moved)
  refine fn_ok (n1 := fun _ => []) (c1 := fun _ => []) (k1 := fun _ => []) (ins := i_law_moved) (sl := l_law_moved) (outs := o_law_moved) (fun (a : (((Int × Int) × (Int × Int)) × ((Int × Int) × (Int × Int)) × (Int × Int))) => mb_law_moved a.1 a.2.1 a.2.2) 0 T.law_moved.f sc_law_moved rfl (fun _ => rfl) (fun _ => rfl) (fun _ => rfl) (fun cdv A outer s H E hr B hB a => ?_)
  show JSs _ B _ _ (mb_law_moved a.1 a.2.1 a.2.2) _
  unfold mb_law_moved
  exact ((js_one (js_ret (fun (b657 : (((Int × Int) × (Int × Int)) × ((Int × Int) × (Int × Int)))) => (b657.1.2, b657.2.2)) [false, false, false] (je_tup (ja_e (ρ' := fun _ _ => _) (ρa := fun _ => _) (xa := fun (x647 : ((Int × Int) × (Int × Int))) => (eP2 D.int D.int) x647.2) (je_callVE (ρa := fun _ => _) (ins := i_law_plus) (mf := m_law_plus) (sl := l_law_plus) (outs := o_law_plus) (ok_law_plus T) (hr.mono (by decide)) (by rfl) T.law_plus.g T.law_plus.f.kp T.law_plus.b pass0 (arg := fun (c645 : (Int × Int)) => (c645, a.2.1.1)) (ja_el (ρa := fun _ => _) (xa := fun (x642 : (Int × Int)) => (eP2 D.int D.int) x642) (je_callV (ins := i_law_times) (mf := m_law_times) (sl := l_law_times) (outs := o_law_times) (ok_law_times T) (hr.mono (by decide)) (by rfl) T.law_times.g T.law_times.f.kp T.law_times.b pass0 (arg := (a.1.1, a.2.2)) (ja_p (je_op (fun _ _ ha hb => pe_ix ix_tup ha hb (fun _ _ => rfl)) (jp_var 0) jp_int (od_ixTs rfl)) (ja_p (jp_var 2) ja_nil)) hB) (fun x642 => (ja_p (je_op (fun _ _ ha hb => pe_ix ix_tup ha hb (fun _ _ => rfl)) (jp_var 1) jp_int (od_ixTs rfl)) ja_nil))) hB) (fun x647 => (ja_el (ρa := fun _ => _) (xa := fun (x655 : ((Int × Int) × (Int × Int))) => (eP2 D.int D.int) x655.2) (je_callVE (ρa := fun _ => _) (ins := i_law_plus) (mf := m_law_plus) (sl := l_law_plus) (outs := o_law_plus) (ok_law_plus T) (hr.mono (by decide)) (by rfl) T.law_plus.g T.law_plus.f.kp T.law_plus.b pass0 (arg := fun (c653 : (Int × Int)) => (c653, a.2.1.2)) (ja_el (ρa := fun _ => _) (xa := fun (x650 : (Int × Int)) => (eP2 D.int D.int) x650) (je_callV (ins := i_law_times) (mf := m_law_times) (sl := l_law_times) (outs := o_law_times) (ok_law_times T) (hr.mono (by decide)) (by rfl) T.law_times.g T.law_times.f.kp T.law_times.b pass0 (arg := (a.1.2, a.2.2)) (ja_p (je_op (fun _ _ ha hb => pe_ix ix_tup ha hb (fun _ _ => rfl)) (jp_var 0) jp_int (od_ixTs rfl)) (ja_p (jp_var 2) ja_nil)) hB) (fun x650 => (ja_p (je_op (fun _ _ ha hb => pe_ix ix_tup ha hb (fun _ _ => rfl)) (jp_var 1) jp_int (od_ixTs rfl)) ja_nil))) hB) (fun x655 => ja_nil))))))))
/-! law -/
abbrev s_law : Stmt := topS 23
theorem sc_law : FnScope ["_law_script", "_law_k", "_law_pot_here", "_law_points_here", "_law_p", "_law_q", "_law_r", "_law_due", "_law_by", "_law_many", "_law_j", "_law_one"] ["_law_script"] (defScope s_law) := ⟨rfl, rfl, rfl, by decide +kernel, rfl, by decide +kernel, by decide +kernel⟩
noncomputable def mb_law (v_script : List Int) : R (Fl Unit Unit Bool) :=
(bindF ((R.guard (rngOk (max (1 : Int) (min ((List.length v_script : Nat) : Int) (6 : Int))))).bind fun (b1 : Unit) => forR (fun (x4 : Int) (s2 : Unit) =>
((m_law_pot (v_script, x4)).bind fun (b34 : (List Int)) => lt b34 fun v_pot_here_33 =>
((m_law_points (v_pot_here_33, (4 : Int))).bind fun (b357 : ((List ((Int × Int) × (Int × Int))) × (List Int))) => lt b357.1 fun v_points_here_356 =>
((((R.guard (rngOk (3 : Int))).bind fun (b358 : Unit) => (R.guard (List.length (rng 0 (3 : Int)) ≤ sizeLine)).bind fun _ => compR (compF (fun (x360 : Int) (s359 : (List Int)) => R.ok ()) (fun (z366 : Unit) => true) (fun (x360 : Int) (s359 : (List Int)) => (((m_law_digit (s359, (4 : Int))).bind fun (y363 : (Int × (List Int))) => (R.some (atI v_points_here_356 y363.1)).bind fun (z364 : ((Int × Int) × (Int × Int))) => R.ok (y363, z364)).bind fun (y365 : ((Int × (List Int)) × ((Int × Int) × (Int × Int)))) => R.ok (y365.2, y365.1.2))) Prod.fst Prod.snd) (rng 0 (3 : Int)) [] b357.2).bind fun (b369 : ((List ((Int × Int) × (Int × Int))) × (List Int))) => (R.some (un3 b369.1)).bind fun (u370 : (((Int × Int) × (Int × Int)) × ((Int × Int) × (Int × Int)) × ((Int × Int) × (Int × Int)))) => R.ok (b369, u370)).bind fun (p371 : ((List ((Int × Int) × (Int × Int))) × (List Int)) × (((Int × Int) × (Int × Int)) × ((Int × Int) × (Int × Int)) × ((Int × Int) × (Int × Int)))) =>
((m_law_hand (p371.2.1, p371.2.2.1, p371.2.2.2)).bind fun (b470 : Int) => lt b470 fun v_due_469 =>
(bindF ((or2 (m_law_right (p371.2.1, p371.2.2.1, p371.2.2.2, v_due_469)) (fun (b582 : Bool) => (!b582)) (or2 ((m_hand (p371.2.1, p371.2.1, p371.2.2.2)).bind fun (c575 : Int) => (m_law_is (c575, (0 : Int))).bind fun (z576 : Bool) => R.ok (c575, z576)) (fun (b581 : (Int × Bool)) => (!b581.2)) (((m_hand (p371.2.1, p371.2.2.1, p371.2.2.1)).bind fun (c578 : Int) => (m_law_is (c578, (0 : Int))).bind fun (z579 : Bool) => R.ok (c578, z579)).bind fun (b580 : (Int × Bool)) => R.ok (!b580.2)))).bind fun (b583 : Bool) => if b583 = true then (R.ok (.rt false)) else (R.ok (.nx ()))) fun n584 =>
(bindF ((m_law_greatest v_points_here_356).bind fun (b617 : Int) => if (decide (b617 < ((10 : Int) ^ (Int.toNat (13 : Int))))) = true then (((m_law_number (p371.1.2, (0 : Int))).bind fun (x667 : ((Int × Int) × (List Int))) => (m_law_number (x667.2, (1 : Int))).bind fun (z669 : ((Int × Int) × (List Int))) => R.ok (x667, z669)).bind fun (b671 : (((Int × Int) × (List Int)) × ((Int × Int) × (List Int)))) => lt (b671.1.1, b671.2.1) fun v_by_670 =>
((((m_law_digit (b671.2.2, (5 : Int))).bind fun (x675 : (Int × (List Int))) => (m_law_digit (x675.2, (5 : Int))).bind fun (z680 : (Int × (List Int))) => R.ok (x675, z680)).bind fun (c681 : ((Int × (List Int)) × (Int × (List Int)))) => (m_law_low (((1 : Int) + c681.1.1), ((1 : Int) + c681.2.1))).bind fun (z682 : (Int × Int)) => R.ok (c681, z682)).bind fun (b684 : (((Int × (List Int)) × (Int × (List Int))) × (Int × Int))) => lt b684.2 fun v_many_683 =>
((((R.ok ()).bind fun (b685 : Unit) => (R.guard (List.length [(p371.2.1, p371.2.2.1, p371.2.2.2).1, (p371.2.1, p371.2.2.1, p371.2.2.2).2.1, (p371.2.1, p371.2.2.1, p371.2.2.2).2.2] ≤ sizeLine)).bind fun _ => compR (compF (fun (x687 : ((Int × Int) × (Int × Int))) (s686 : Unit) => R.ok ()) (fun (z690 : Unit) => true) (fun (x687 : ((Int × Int) × (Int × Int))) (s686 : Unit) => ((m_law_moved (x687, v_by_670, v_many_683)).bind fun (y689 : ((Int × Int) × (Int × Int))) => R.ok (y689, ()))) Prod.fst Prod.snd) [(p371.2.1, p371.2.2.1, p371.2.2.2).1, (p371.2.1, p371.2.2.1, p371.2.2.2).2.1, (p371.2.1, p371.2.2.1, p371.2.2.2).2.2] [] ()).bind fun (b693 : ((List ((Int × Int) × (Int × Int))) × Unit)) => (R.some (un3 b693.1)).bind fun (u694 : (((Int × Int) × (Int × Int)) × ((Int × Int) × (Int × Int)) × ((Int × Int) × (Int × Int)))) => R.ok (b693, u694)).bind fun (p695 : ((List ((Int × Int) × (Int × Int))) × Unit) × (((Int × Int) × (Int × Int)) × ((Int × Int) × (Int × Int)) × ((Int × Int) × (Int × Int)))) =>
(bindF ((m_law_right (p695.2.1, p695.2.2.1, p695.2.2.2, v_due_469)).bind fun (b696 : Bool) => if (!b696) = true then (R.ok (.rt false)) else (R.ok (.nx ()))) fun n697 =>
(R.ok (.nx (b684.1.2.2, p695.2.1, p695.2.2.1, p695.2.2.2))))))) else (R.ok (.nx (p371.1.2, p371.2.1, p371.2.2.1, p371.2.2.2)))) fun n698 =>
(R.ok (.nx ()))))))))) (rng 0 (max (1 : Int) (min ((List.length v_script : Nat) : Int) (6 : Int)))) ()) fun n3 =>
(R.ok (.rt true)))
noncomputable def m_law (a : List Int) : R Bool := fin0 (mb_law a)
abbrev i_law (a : List Int) : List Slot := [.val (D.scr a)]
abbrev l_law (b : Bool) : Slot := .val (D.bool b)
abbrev o_law (b : Bool) : List Slot := [.non]
theorem ok_law {P : Program} {w : World} {K : PySem.W.Frag} {mg : Str → Option Value} {base : Heap} (T : Top K mg) : FnOk P w K mg base CX0 6 T.law.a T.law.d ["_law_script"] (spM K i_law m_law l_law o_law) := by
  show FnOk P w K mg base CX0 (5 + 1) T.law.a T.law.d ["_law_script"] (spM K i_law (fun (a : List Int) => fin0 (mb_law a)) l_law o_law)
  refine fn_ok (n1 := fun _ => []) (c1 := fun _ => []) (k1 := fun _ => []) (ins := i_law) (sl := l_law) (outs := o_law) (fun (a : List Int) => mb_law a) 11 T.law.f sc_law rfl (fun _ => rfl) (fun _ => rfl) (fun _ => rfl) (fun cdv A outer s H E hr B hB a => ?_)
  show JSs _ B _ _ (mb_law a) _
  unfold mb_law
  exact ((js_cons (ρ1 := fun (n3 : Unit) => [.val (D.scr a), .non, .non, .non, .non, .non, .non, .non, .non, .non, .non, .non]) (js_for (en := D.int) (xs := fun (b1 : Unit) => (rng 0 (max (1 : Int) (min ((List.length a : Nat) : Int) (6 : Int))))) (s0 := fun (b1 : Unit) => ()) (fun (s2 : Unit) => [.val (D.scr a), .non, .non, .non, .non, .non, .non, .non, .non, .non, .non, .non]) (fun (x4 : Int) (s2 : Unit) => [.val (D.scr a), .val (D.int x4), .non, .non, .non, .non, .non, .non, .non, .non, .non, .non]) PassesOwn.never rfl (ji_rng1P (i := (max (1 : Int) (min ((List.length a : Nat) : Int) (6 : Int)))) T.z_range (ja_p (je_cb (fun _ ht => pe_callB (call_max2 rfl) (by rfl) T.z_max (by decide +kernel) ht) (ja_p jp_int (ja_p (je_cb (fun _ ht => pe_callB (call_min2 rfl) (by rfl) T.z_min (by decide +kernel) ht) (ja_p (je_cb (fun _ ht => pe_callB call_len_seq (by rfl) T.z_len (by decide +kernel) ht) (ja_p (jp_var 0) ja_nil) cb_lenS) (ja_p jp_int ja_nil)) cb_min) ja_nil)) cb_max) ja_nil)) [true, true, true, true, true, true, true, true, true, true, true, true] (fun _ => rfl) (fun x4 s2 => (jg_name 1 sc_law.nd)) (fun x4 s2 =>
(js_setO 2 (oL D.int) (fun (b34 : (List Int)) => b34) sc_law.nd (je_callV (ins := i_law_pot) (mf := m_law_pot) (sl := l_law_pot) (outs := o_law_pot) (ok_law_pot T) (hr.mono (by decide)) (by rfl) T.law_pot.g T.law_pot.f.kp T.law_pot.b pass0 (arg := (a, x4)) (ja_p (jp_var 0) (ja_p (jp_var 1) ja_nil)) hB) fun b34 v_pot_here_33 =>
(js_setE 3 (eT (eP2 (eP2 D.int D.int) (eP2 D.int D.int))) (fun (b357 : ((List ((Int × Int) × (Int × Int))) × (List Int))) => b357.1) sc_law.nd (je_callP (ins := i_law_points) (mf := m_law_points) (sl := l_law_points) (outs := o_law_points) (ok_law_points T) (hr.mono (by decide)) (by rfl) T.law_points.g T.law_points.f.kp T.law_points.b pass0 (arg := (v_pot_here_33, (4 : Int))) (ja_s 2 (ja_p jp_int ja_nil)) hB) fun b357 v_points_here_356 =>
(js_cons1 (j1_asg (d := fun (b369 : ((List ((Int × Int) × (Int × Int))) × (List Int))) => (eL (eP2 (eP2 D.int D.int) (eP2 D.int D.int))) b369.1) (je_frzL (v := fun (b368 : ((List ((Int × Int) × (Int × Int))) × (List Int))) => b368.1) (je_lc (xs := fun (b358 : Unit) => (rng 0 (3 : Int))) (ea := D.int) (ts := [10]) (c := fun (x360 : Int) (s359 : (List Int)) => R.ok ()) (bn := fun (z366 : Unit) => true) (me := fun (x360 : Int) (s359 : (List Int)) => (((m_law_digit (s359, (4 : Int))).bind fun (y363 : (Int × (List Int))) => (R.some (atI v_points_here_356 y363.1)).bind fun (z364 : ((Int × Int) × (Int × Int))) => R.ok (y363, z364)).bind fun (y365 : ((Int × (List Int)) × ((Int × Int) × (Int × Int)))) => R.ok (y365.2, y365.1.2))) [("_law_j", 10)] (eP2 (eP2 D.int D.int) (eP2 D.int D.int)) (fun (s359 : (List Int)) => [.val (D.scr a), .val (D.int x4), .own 0 ((oL D.int) s359), .val ((eT (eP2 (eP2 D.int D.int) (eP2 D.int D.int))) v_points_here_356), .non, .non, .non, .non, .non, .non, .non, .non]) (fun (b358 : Unit) => b357.2) (fun (x360 : Int) (s359 : (List Int)) => [.val (D.scr a), .val (D.int x4), .own 0 ((oL D.int) s359), .val ((eT (eP2 (eP2 D.int D.int) (eP2 D.int D.int))) v_points_here_356), .non, .non, .non, .non, .non, .non, .val (D.int x360), .non]) Prod.fst Prod.snd rfl sc_law.nd (ji_rng1P (i := (3 : Int)) T.z_range (ja_p jp_int ja_nil)) (blkOk_by (N := ["_law_script", "_law_k", "_law_pot_here", "_law_points_here", "_law_p", "_law_q", "_law_r", "_law_due", "_law_by", "_law_many", "_law_j", "_law_one"]) (sc := defScope s_law) (by decide +kernel)) (fun _ => rfl) (fun _ _ _ _ _ _ hB361 x360 s359 => (have hB := noRs hB361 hB; (jn_name 10 sc_law.nd))) (fun _ _ _ _ _ _ hB361 x360 s359 => (have hB := noRs hB361 hB; jts_nil)) (fun _ _ _ _ _ _ hB361 x360 s359 => (have hB := noRs hB361 hB; (je_mapS (en := (eP2 (eP2 D.int D.int) (eP2 D.int D.int))) (v := fun (y365 : ((Int × (List Int)) × ((Int × Int) × (Int × Int)))) => y365.2) (st := fun (y365 : ((Int × (List Int)) × ((Int × Int) × (Int × Int)))) => y365.1.2) (ρ' := fun (s367 : (List Int)) => [.val (D.scr a), .val (D.int x4), .own 0 ((oL D.int) s367), .val ((eT (eP2 (eP2 D.int D.int) (eP2 D.int D.int))) v_points_here_356), .non, .non, .non, .non, .non, .non, .val (D.int x360), .non]) (je_opRG (s := fun (y363 : (Int × (List Int))) (z364 : ((Int × Int) × (Int × Int))) => (.val ((eP2 (eP2 D.int D.int) (eP2 D.int D.int)) z364))) (xb := fun (y363 : (Int × (List Int))) => D.int y363.1) (fun _ _ ha hb => pe_ix ix_tup ha hb (fun _ _ => rfl)) (jp_var 3) (je_callP (ins := i_law_digit) (mf := m_law_digit) (sl := l_law_digit) (outs := o_law_digit) (ok_law_digit T) (hr.mono (by decide)) (by rfl) T.law_digit.g T.law_digit.f.kp T.law_digit.b pass0 (arg := (s359, (4 : Int))) (ja_s 2 (ja_p jp_int ja_nil)) hB) (fun y363 => od_ixTm))))))) (fun b369 => jg_un un3_ok rfl (fun u370 => (jgs_p (jg_name 4 sc_law.nd) (jgs_p (jg_name 5 sc_law.nd) (jgs_p (jg_name 6 sc_law.nd) jgs_nil)))))) fun p371 =>
(js_setE 7 D.int (fun (b470 : Int) => b470) sc_law.nd (je_callV (ins := i_law_hand) (mf := m_law_hand) (sl := l_law_hand) (outs := o_law_hand) (ok_law_hand T) (hr.mono (by decide)) (by rfl) T.law_hand.g T.law_hand.f.kp T.law_hand.b pass0 (arg := (p371.2.1, p371.2.2.1, p371.2.2.2)) (ja_p (jp_var 4) (ja_p (jp_var 5) (ja_p (jp_var 6) ja_nil))) hB) fun b470 v_due_469 =>
(js_cons (ρ1 := fun (n584 : Unit) => [.val (D.scr a), .val (D.int x4), .own 0 ((oL D.int) p371.1.2), .val ((eT (eP2 (eP2 D.int D.int) (eP2 D.int D.int))) v_points_here_356), .val ((eP2 (eP2 D.int D.int) (eP2 D.int D.int)) p371.2.1), .val ((eP2 (eP2 D.int D.int) (eP2 D.int D.int)) p371.2.2.1), .val ((eP2 (eP2 D.int D.int) (eP2 D.int D.int)) p371.2.2.2), .val (D.int v_due_469), .non, .non, .non, .non]) (js_if (jt_w (jw_or (xa := fun (b582 : Bool) => (!b582)) (jt_not (jt_val (je_callV (ins := i_law_right) (mf := m_law_right) (sl := l_law_right) (outs := o_law_right) (ok_law_right T) (hr.mono (by decide)) (by rfl) T.law_right.g T.law_right.f.kp T.law_right.b pass0 (arg := (p371.2.1, p371.2.2.1, p371.2.2.2, v_due_469)) (ja_p (jp_var 4) (ja_p (jp_var 5) (ja_p (jp_var 6) (ja_p (jp_var 7) ja_nil)))) hB))) (jw_or (xa := fun (b581 : (Int × Bool)) => (!b581.2)) (jt_not (jt_val (je_callVE (ρa := fun _ => _) (ins := i_law_is) (mf := m_law_is) (sl := l_law_is) (outs := o_law_is) (ok_law_is T) (hr.mono (by decide)) (by rfl) T.law_is.g T.law_is.f.kp T.law_is.b pass0 (arg := fun (c575 : Int) => (c575, (0 : Int))) (ja_el (ρa := fun _ => _) (xa := fun (x574 : Int) => D.int x574) (je_callV (ins := i_hand) (mf := m_hand) (sl := l_hand) (outs := o_hand) (ok_hand T) (hr.mono (by decide)) (by rfl) T.hand.g T.hand.f.kp T.hand.b pass0 (arg := (p371.2.1, p371.2.1, p371.2.2.2)) (ja_p (jp_var 4) (ja_p (jp_var 4) (ja_p (jp_var 6) ja_nil))) hB) (fun x574 => (ja_p jp_int ja_nil))) hB))) (jw_or1 (jt_map (jt_not (jt_val (je_callVE (ρa := fun _ => _) (ins := i_law_is) (mf := m_law_is) (sl := l_law_is) (outs := o_law_is) (ok_law_is T) (hr.mono (by decide)) (by rfl) T.law_is.g T.law_is.f.kp T.law_is.b pass0 (arg := fun (c578 : Int) => (c578, (0 : Int))) (ja_el (ρa := fun _ => _) (xa := fun (x577 : Int) => D.int x577) (je_callV (ins := i_hand) (mf := m_hand) (sl := l_hand) (outs := o_hand) (ok_hand T) (hr.mono (by decide)) (by rfl) T.hand.g T.hand.f.kp T.hand.b pass0 (arg := (p371.2.1, p371.2.2.1, p371.2.2.1)) (ja_p (jp_var 4) (ja_p (jp_var 5) (ja_p (jp_var 5) ja_nil))) hB) (fun x577 => (ja_p jp_int ja_nil))) hB)))))))) (fun b583 => (js_one (js_retP false [false, false, false, false, false, false, false, false, true, true, true, true] jp_bl))) (fun b583 => (js_nil [true, true, true, true, true, true, true, true, true, true, true, true] ()))) fun n584 =>
(js_cons (ρ1 := fun (n698 : ((List Int) × ((Int × Int) × (Int × Int)) × ((Int × Int) × (Int × Int)) × ((Int × Int) × (Int × Int)))) => [.val (D.scr a), .val (D.int x4), .own 0 ((oL D.int) n698.1), .val ((eT (eP2 (eP2 D.int D.int) (eP2 D.int D.int))) v_points_here_356), .val ((eP2 (eP2 D.int D.int) (eP2 D.int D.int)) n698.2.1), .val ((eP2 (eP2 D.int D.int) (eP2 D.int D.int)) n698.2.2.1), .val ((eP2 (eP2 D.int D.int) (eP2 D.int D.int)) n698.2.2.2), .val (D.int v_due_469), .non, .non, .non, .non]) (js_if (jt_opL (ρa := fun _ => _) (bn := fun (x612 : Int) => (decide (x612 < ((10 : Int) ^ (Int.toNat (13 : Int)))))) (xa := fun (x612 : Int) => D.int x612) (y := fun (x612 : Int) => D.int ((10 : Int) ^ (Int.toNat (13 : Int)))) (fun _ _ ha hb => pt_cmpR op_lt ha hb (nomark _)) (je_callV (ins := i_law_greatest) (mf := m_law_greatest) (sl := l_law_greatest) (outs := o_law_greatest) (ok_law_greatest T) (hr.mono (by decide)) (by rfl) T.law_greatest.g T.law_greatest.f.kp T.law_greatest.b pass0 (arg := v_points_here_356) (ja_p (jp_var 3) ja_nil) hB) (fun x612 => (je_op (fun _ _ ha hb => pe_op op_pow ha hb) jp_int jp_int od_powC)) (fun x612 => od_lt)) (fun b617 => (js_setE 8 (eP2 (eP2 D.int D.int) (eP2 D.int D.int)) (fun (b671 : (((Int × Int) × (List Int)) × ((Int × Int) × (List Int)))) => (b671.1.1, b671.2.1)) sc_law.nd (je_tup (ja_e (xa := fun (x667 : ((Int × Int) × (List Int))) => (eP2 D.int D.int) x667.1) (je_callP (ins := i_law_number) (mf := m_law_number) (sl := l_law_number) (outs := o_law_number) (ok_law_number T) (hr.mono (by decide)) (by rfl) T.law_number.g T.law_number.f.kp T.law_number.b pass0 (arg := (p371.1.2, (0 : Int))) (ja_s 2 (ja_p jp_int ja_nil)) hB) (fun x667 => (ja_el (xa := fun (x668 : ((Int × Int) × (List Int))) => (eP2 D.int D.int) x668.1) (je_callP (ins := i_law_number) (mf := m_law_number) (sl := l_law_number) (outs := o_law_number) (ok_law_number T) (hr.mono (by decide)) (by rfl) T.law_number.g T.law_number.f.kp T.law_number.b pass0 (arg := (x667.2, (1 : Int))) (ja_s 2 (ja_p jp_int ja_nil)) hB) (fun x668 => ja_nil))))) fun b671 v_by_670 =>
(js_setE 9 (eP2 D.int D.int) (fun (b684 : (((Int × (List Int)) × (Int × (List Int))) × (Int × Int))) => b684.2) sc_law.nd (je_callVE (ins := i_law_low) (mf := m_law_low) (sl := l_law_low) (outs := o_law_low) (ok_law_low T) (hr.mono (by decide)) (by rfl) T.law_low.g T.law_low.f.kp T.law_low.b pass0 (arg := fun (c681 : ((Int × (List Int)) × (Int × (List Int)))) => (((1 : Int) + c681.1.1), ((1 : Int) + c681.2.1))) (ja_e (xa := fun (x675 : (Int × (List Int))) => D.int ((1 : Int) + x675.1)) (je_opR (s := fun (y673 : (Int × (List Int))) => (.val (D.int ((1 : Int) + y673.1)))) (xb := fun (y673 : (Int × (List Int))) => D.int y673.1) (fun _ _ ha hb => pe_op op_add ha hb) jp_int (je_callP (ins := i_law_digit) (mf := m_law_digit) (sl := l_law_digit) (outs := o_law_digit) (ok_law_digit T) (hr.mono (by decide)) (by rfl) T.law_digit.g T.law_digit.f.kp T.law_digit.b pass0 (arg := (b671.2.2, (5 : Int))) (ja_s 2 (ja_p jp_int ja_nil)) hB) (fun y673 => od_add)) (fun x675 => (ja_el (xa := fun (x679 : (Int × (List Int))) => D.int ((1 : Int) + x679.1)) (je_opR (s := fun (y677 : (Int × (List Int))) => (.val (D.int ((1 : Int) + y677.1)))) (xb := fun (y677 : (Int × (List Int))) => D.int y677.1) (fun _ _ ha hb => pe_op op_add ha hb) jp_int (je_callP (ins := i_law_digit) (mf := m_law_digit) (sl := l_law_digit) (outs := o_law_digit) (ok_law_digit T) (hr.mono (by decide)) (by rfl) T.law_digit.g T.law_digit.f.kp T.law_digit.b pass0 (arg := (x675.2, (5 : Int))) (ja_s 2 (ja_p jp_int ja_nil)) hB) (fun y677 => od_add)) (fun x679 => ja_nil)))) hB) fun b684 v_many_683 =>
(js_cons1 (j1_asg (d := fun (b693 : ((List ((Int × Int) × (Int × Int))) × Unit)) => (eL (eP2 (eP2 D.int D.int) (eP2 D.int D.int))) b693.1) (je_frzL (v := fun (b692 : ((List ((Int × Int) × (Int × Int))) × Unit)) => b692.1) (je_lc (xs := fun (b685 : Unit) => [(p371.2.1, p371.2.2.1, p371.2.2.2).1, (p371.2.1, p371.2.2.1, p371.2.2.2).2.1, (p371.2.1, p371.2.2.1, p371.2.2.2).2.2]) (ea := (eP2 (eP2 D.int D.int) (eP2 D.int D.int))) (ts := [11]) (c := fun (x687 : ((Int × Int) × (Int × Int))) (s686 : Unit) => R.ok ()) (bn := fun (z690 : Unit) => true) (me := fun (x687 : ((Int × Int) × (Int × Int))) (s686 : Unit) => ((m_law_moved (x687, v_by_670, v_many_683)).bind fun (y689 : ((Int × Int) × (Int × Int))) => R.ok (y689, ()))) [("_law_one", 11)] (eP2 (eP2 D.int D.int) (eP2 D.int D.int)) (fun (s686 : Unit) => [.val (D.scr a), .val (D.int x4), .own 0 ((oL D.int) b684.1.2.2), .val ((eT (eP2 (eP2 D.int D.int) (eP2 D.int D.int))) v_points_here_356), .val ((eP2 (eP2 D.int D.int) (eP2 D.int D.int)) p371.2.1), .val ((eP2 (eP2 D.int D.int) (eP2 D.int D.int)) p371.2.2.1), .val ((eP2 (eP2 D.int D.int) (eP2 D.int D.int)) p371.2.2.2), .val (D.int v_due_469), .val ((eP2 (eP2 D.int D.int) (eP2 D.int D.int)) v_by_670), .val ((eP2 D.int D.int) v_many_683), .non, .non]) (fun (b685 : Unit) => ()) (fun (x687 : ((Int × Int) × (Int × Int))) (s686 : Unit) => [.val (D.scr a), .val (D.int x4), .own 0 ((oL D.int) b684.1.2.2), .val ((eT (eP2 (eP2 D.int D.int) (eP2 D.int D.int))) v_points_here_356), .val ((eP2 (eP2 D.int D.int) (eP2 D.int D.int)) p371.2.1), .val ((eP2 (eP2 D.int D.int) (eP2 D.int D.int)) p371.2.2.1), .val ((eP2 (eP2 D.int D.int) (eP2 D.int D.int)) p371.2.2.2), .val (D.int v_due_469), .val ((eP2 (eP2 D.int D.int) (eP2 D.int D.int)) v_by_670), .val ((eP2 D.int D.int) v_many_683), .non, .val ((eP2 (eP2 D.int D.int) (eP2 D.int D.int)) x687)]) Prod.fst Prod.snd rfl sc_law.nd (ji_tup (show JP _ _ _ _ ((eT (eP2 (eP2 D.int D.int) (eP2 D.int D.int))) [(p371.2.1, p371.2.2.1, p371.2.2.2).1, (p371.2.1, p371.2.2.1, p371.2.2.2).2.1, (p371.2.1, p371.2.2.1, p371.2.2.2).2.2]) from (je_tup (ja_p (jp_var 4) (ja_p (jp_var 5) (ja_p (jp_var 6) ja_nil)))))) (blkOk_by (N := ["_law_script", "_law_k", "_law_pot_here", "_law_points_here", "_law_p", "_law_q", "_law_r", "_law_due", "_law_by", "_law_many", "_law_j", "_law_one"]) (sc := defScope s_law) (by decide +kernel)) (fun _ => rfl) (fun _ _ _ _ _ _ hB688 x687 s686 => (have hB := noRs hB688 hB; (jn_name 11 sc_law.nd))) (fun _ _ _ _ _ _ hB688 x687 s686 => (have hB := noRs hB688 hB; jts_nil)) (fun _ _ _ _ _ _ hB688 x687 s686 => (have hB := noRs hB688 hB; (je_mapS (en := (eP2 (eP2 D.int D.int) (eP2 D.int D.int))) (v := fun (y689 : ((Int × Int) × (Int × Int))) => y689) (st := fun (y689 : ((Int × Int) × (Int × Int))) => ()) (ρ' := fun (s691 : Unit) => [.val (D.scr a), .val (D.int x4), .own 0 ((oL D.int) b684.1.2.2), .val ((eT (eP2 (eP2 D.int D.int) (eP2 D.int D.int))) v_points_here_356), .val ((eP2 (eP2 D.int D.int) (eP2 D.int D.int)) p371.2.1), .val ((eP2 (eP2 D.int D.int) (eP2 D.int D.int)) p371.2.2.1), .val ((eP2 (eP2 D.int D.int) (eP2 D.int D.int)) p371.2.2.2), .val (D.int v_due_469), .val ((eP2 (eP2 D.int D.int) (eP2 D.int D.int)) v_by_670), .val ((eP2 D.int D.int) v_many_683), .non, .val ((eP2 (eP2 D.int D.int) (eP2 D.int D.int)) x687)]) (je_callV (ins := i_law_moved) (mf := m_law_moved) (sl := l_law_moved) (outs := o_law_moved) (ok_law_moved T) (hr.mono (by decide)) (by rfl) T.law_moved.g T.law_moved.f.kp T.law_moved.b pass0 (arg := (x687, v_by_670, v_many_683)) (ja_p (jp_var 11) (ja_p (jp_var 8) (ja_p (jp_var 9) ja_nil))) hB)))))) (fun b693 => jg_un un3_ok rfl (fun u694 => (jgs_p (jg_name 4 sc_law.nd) (jgs_p (jg_name 5 sc_law.nd) (jgs_p (jg_name 6 sc_law.nd) jgs_nil)))))) fun p695 =>
(js_cons (ρ1 := fun (n697 : Unit) => [.val (D.scr a), .val (D.int x4), .own 0 ((oL D.int) b684.1.2.2), .val ((eT (eP2 (eP2 D.int D.int) (eP2 D.int D.int))) v_points_here_356), .val ((eP2 (eP2 D.int D.int) (eP2 D.int D.int)) p695.2.1), .val ((eP2 (eP2 D.int D.int) (eP2 D.int D.int)) p695.2.2.1), .val ((eP2 (eP2 D.int D.int) (eP2 D.int D.int)) p695.2.2.2), .val (D.int v_due_469), .val ((eP2 (eP2 D.int D.int) (eP2 D.int D.int)) v_by_670), .val ((eP2 D.int D.int) v_many_683), .non, .non]) (js_if (jt_not (jt_val (je_callV (ins := i_law_right) (mf := m_law_right) (sl := l_law_right) (outs := o_law_right) (ok_law_right T) (hr.mono (by decide)) (by rfl) T.law_right.g T.law_right.f.kp T.law_right.b pass0 (arg := (p695.2.1, p695.2.2.1, p695.2.2.2, v_due_469)) (ja_p (jp_var 4) (ja_p (jp_var 5) (ja_p (jp_var 6) (ja_p (jp_var 7) ja_nil)))) hB))) (fun b696 => (js_one (js_retP false [false, false, false, false, false, false, false, false, false, false, true, true] jp_bl))) (fun b696 => (js_nil [true, true, true, true, true, true, true, true, true, true, true, true] ()))) fun n697 =>
(js_nil [true, true, true, true, true, true, true, true, false, false, true, true] (b684.1.2.2, p695.2.1, p695.2.2.1, p695.2.2.2))))))) (fun b617 => (js_nil [true, true, true, true, true, true, true, true, true, true, true, true] (p371.1.2, p371.2.1, p371.2.2.1, p371.2.2.2)))) fun n698 =>
(js_nil [true, false, false, false, false, false, false, false, true, true, true, true] ()))))))))) fun n3 =>
(js_one (js_retP true [false, true, true, true, true, true, true, true, true, true, true, true] jp_bl))))

/-! ### the plain law -/
theorem digit_ok (a b many : Int) (h : 0 < many) (h2 : many < 2 ^ 8000) : ∃ r a' b', m_law_digit ([a, b], many) = .ok (r, [a', b']) ∧ 0 ≤ r ∧ r < many := by
  unfold m_law_digit mb_law_digit
  have e0 : atI [a, b] (0 : Int) = some a := rfl
  have e1 : atI [a, b] (1 : Int) = some b := rfl
  have i0 : ixN (List.length [a, b]) (0 : Int) = some 0 := rfl
  have i1 : ixN (List.length [a, b]) (1 : Int) = some 1 := rfl
  simp only [e0, e1, i0, i1, some_ok, bind_ok, List.set_cons_succ, List.set_cons_zero]
  by_cases ha : a > 0
  · rw [guard_ok (divp_ok' h h2)]
    refine ⟨a % many, a / many, b, ?_, Int.emod_nonneg _ (by omega), Int.emod_lt_of_pos _ h⟩
    simp only [ha, decide_true, if_true, bind_ok, bindF_rt, fin0_rt]
    rfl
  · generalize hc : (b * 48271 + 39373) % 2147483647 = c
    have c0 : 0 ≤ c := by omega
    have c1 : c < 2147483647 := by omega
    have e2 : atI [a, c] (1 : Int) = some c := rfl
    have hm : CMulX c c := mulx 31 (by omega) (by omega)
    simp only [ha, decide_false, Bool.false_eq_true, if_false, bindF_nx, e2, some_ok, op2_ok, bind_ok, guard_ok hm, guard_ok (show many ≠ 0 by omega)]
    refine ⟨_, a, c, rfl, ?_, ?_⟩
    · rw [Int.fmod_eq_emod_of_nonneg _ (by omega)]
      exact Int.emod_nonneg _ (by omega)
    · rw [Int.fmod_eq_emod_of_nonneg _ (by omega)]
      exact Int.emod_lt_of_pos _ h
/-- the greatest divisor -/
theorem gcd_loop : ∀ (k : Nat) (a b : Int), 0 ≤ a → 0 ≤ b → b ≤ k → whR (L := Unit) (T := Int × Int) (fun (s : Int × Int) => R.ok (decide (s.2 > (0 : Int)))) (fun s => (R.guard (s.2 ≠ (0 : Int))).bind fun (x : Unit) => R.ok (.nx (s.2, Int.fmod s.1 s.2))) (a, b) = .ok (.nx ((Int.gcd a b : Int), 0)) := by
  intro k
  induction k with
  | zero =>
    intro a b ha hb h
    have : b = 0 := by omega
    subst this
    rw [whR_false (by rfl)]
    rw [Int.gcd_zero_right]
    simp [Int.natAbs_of_nonneg ha]
  | succ k ih =>
    intro a b ha hb h
    by_cases hb0 : b = 0
    · subst hb0
      rw [whR_false (by rfl), Int.gcd_zero_right]
      simp [Int.natAbs_of_nonneg ha]
    · refine whR_true (s' := (b, a.fmod b)) (by simp; omega) (by rw [guard_ok hb0]; rfl) ?_
      rw [Int.fmod_eq_emod_of_nonneg _ hb]
      have := Int.emod_lt_of_pos a (show 0 < b by omega)
      rw [ih b (a % b) hb (Int.emod_nonneg _ hb0) (by omega)]
      have e : Int.gcd b (a % b) = Int.gcd a b := by
        obtain ⟨m, rfl⟩ := Int.eq_ofNat_of_zero_le ha
        obtain ⟨n, rfl⟩ := Int.eq_ofNat_of_zero_le hb
        rw [← Int.natCast_emod]
        simp only [Int.gcd, Int.natAbs_natCast]
        rw [Nat.gcd_comm n, ← Nat.gcd_rec, Nat.gcd_comm]
      rw [e]
theorem abs_ite (i : Int) : (if i < 0 then -i else i) = (i.natAbs : Int) := by split <;> omega
theorem gcd_lt {n d : Int} {k : Nat} (hd : d ≠ 0) (h : d.natAbs < 2 ^ k) : (Int.gcd n d : Int).natAbs < 2 ^ k := by
  have := Nat.le_of_dvd (by omega) (Int.natAbs_dvd_natAbs.mpr (Int.gcd_dvd_right n d))
  omega
/-- a fraction told rightly -/
def Right (f : Int × Int) (n d : Int) : Prop := 0 < f.2 ∧ Int.gcd f.1 f.2 = 1 ∧ f.1 * d = n * f.2
theorem low_ok (n d : Int) (hd : d ≠ 0) (hb : d.natAbs < 2 ^ 8000) : ∃ f, m_law_low (n, d) = .ok f ∧ Right f n d ∧ f.1.natAbs ≤ n.natAbs ∧ f.2.natAbs ≤ d.natAbs := by
  unfold m_law_low mb_law_low
  simp only [abs_ite]
  rw [gcd_loop d.natAbs _ _ (by omega) (by omega) (by omega)]
  rw [show Int.gcd (n.natAbs : Int) (d.natAbs : Int) = Int.gcd n d by simp [Int.gcd]]
  simp only [bindF_nx, lt_eq]
  have hg := gcd_lt (n := n) hd hb
  generalize hG : (if d < 0 then -(Int.gcd n d : Int) else (Int.gcd n d : Int)) = g
  obtain ⟨h1, h2, h3, h4, h5⟩ := fr_low hG.symm hd
  have gb : g.natAbs < 2 ^ 8000 := by
    rw [← hG]
    split
    · rw [Int.natAbs_neg]
      exact hg
    · exact hg
  have hif : ∀ (k : Int → R (Fl Unit Unit (Int × Int))), bindF (if (decide (d < (0 : Int))) = true then (R.ok (.nx (-(Int.gcd n d : Int)))) else (R.ok (.nx (Int.gcd n d : Int))) : R (Fl Int Unit (Int × Int))) k = k g := by
    intro k
    rw [← hG]
    by_cases h : d < 0 <;> simp [h, bindF_nx]
  simp only [hif, guard_ok (div_ok (i := n) h1 gb), guard_ok (div_ok (i := d) h1 gb), bind_ok, fin0_rt]
  refine ⟨_, rfl, ⟨h4, h5, ?_⟩, ?_, ?_⟩
  · show n.fdiv g * d = n * d.fdiv g
    calc n.fdiv g * d = n.fdiv g * (d.fdiv g * g) := by rw [h3]
      _ = (n.fdiv g * g) * d.fdiv g := by rw [Int.mul_comm (d.fdiv g) g, Int.mul_assoc]
      _ = n * d.fdiv g := by rw [h2]
  · have e := congrArg Int.natAbs h2
    rw [Int.natAbs_mul] at e
    show (n.fdiv g).natAbs ≤ n.natAbs
    rw [← e]
    exact Nat.le_mul_of_pos_right _ (by omega)
  · have e := congrArg Int.natAbs h3
    rw [Int.natAbs_mul] at e
    show (d.fdiv g).natAbs ≤ d.natAbs
    rw [← e]
    exact Nat.le_mul_of_pos_right _ (by omega)
theorem pw (a b : Nat) (h : a ≤ b) {x : Nat} (hx : x < 2 ^ a) : x < 2 ^ b := Nat.lt_of_lt_of_le hx (Nat.pow_le_pow_right (by decide) h)
theorem mul_lt2 {i j : Int} {a b : Nat} (hi : i.natAbs < 2 ^ a) (hj : j.natAbs < 2 ^ b) : (i * j).natAbs < 2 ^ (a + b) := wide_lt hi hj
theorem add_lt2 {i j : Int} {a : Nat} (hi : i.natAbs < 2 ^ a) (hj : j.natAbs < 2 ^ a) : (i + j).natAbs < 2 ^ (a + 1) := by
  rw [Nat.pow_succ]
  omega
theorem sub_lt2 {i j : Int} {a : Nat} (hi : i.natAbs < 2 ^ a) (hj : j.natAbs < 2 ^ a) : (i - j).natAbs < 2 ^ (a + 1) := by
  rw [Nat.pow_succ]
  omega
/-- a fraction of so many bits -/
def Fr (b : Nat) (f : Int × Int) : Prop := 0 < f.2 ∧ f.1.natAbs < 2 ^ b ∧ f.2.natAbs < 2 ^ b
theorem Fr.up {a b : Nat} {f : Int × Int} (h : Fr a f) (l : a ≤ b) : Fr b f := ⟨h.1, pw a b l h.2.1, pw a b l h.2.2⟩
theorem plus_ok {a b : Nat} {f g : Int × Int} (hf : Fr a f) (hg : Fr b g) (l : a + b ≤ 8000) : ∃ r, m_law_plus (f, g) = .ok r ∧ Fr (a + b + 1) r ∧ r.1 * (f.2 * g.2) = (f.1 * g.2 + g.1 * f.2) * r.2 := by
  obtain ⟨f1, f2, f3⟩ := hf
  obtain ⟨g1, g2, g3⟩ := hg
  have w : ∀ {i j : Int}, i.natAbs < 2 ^ 8000 → j.natAbs < 2 ^ 8000 → CMulX i j := fun h k => mulx 8000 h k
  have u : ∀ {i : Int}, i.natAbs < 2 ^ a → i.natAbs < 2 ^ 8000 := fun h => pw a 8000 (by omega) h
  have u' : ∀ {i : Int}, i.natAbs < 2 ^ b → i.natAbs < 2 ^ 8000 := fun h => pw b 8000 (by omega) h
  have m1 := mul_lt2 f2 g3
  have m2 := mul_lt2 g2 f3
  have m3 := mul_lt2 f3 g3
  rw [Nat.add_comm b a] at m2
  obtain ⟨r, e, h1, h2, h3⟩ := low_ok (f.1 * g.2 + g.1 * f.2) (f.2 * g.2) (Int.mul_ne_zero (by omega) (by omega)) (pw _ 8000 l m3)
  refine ⟨r, ?_, ⟨h1.1, Nat.lt_of_le_of_lt h2 (add_lt2 m1 m2), Nat.lt_of_le_of_lt h3 (pw _ _ (by omega) m3)⟩, h1.2.2⟩
  unfold m_law_plus mb_law_plus
  simp only [guard_ok (w (u f2) (u' g3)), guard_ok (w (u' g2) (u f3)), guard_ok (w (u f3) (u' g3)), op2_ok, bind_ok, e, fin0_rt]
theorem less_ok {a b : Nat} {f g : Int × Int} (hf : Fr a f) (hg : Fr b g) (l : a + b ≤ 8000) : ∃ r, m_law_less (f, g) = .ok r ∧ Fr (a + b + 1) r ∧ r.1 * (f.2 * g.2) = (f.1 * g.2 - g.1 * f.2) * r.2 := by
  obtain ⟨f1, f2, f3⟩ := hf
  obtain ⟨g1, g2, g3⟩ := hg
  have w : ∀ {i j : Int}, i.natAbs < 2 ^ 8000 → j.natAbs < 2 ^ 8000 → CMulX i j := fun h k => mulx 8000 h k
  have u : ∀ {i : Int}, i.natAbs < 2 ^ a → i.natAbs < 2 ^ 8000 := fun h => pw a 8000 (by omega) h
  have u' : ∀ {i : Int}, i.natAbs < 2 ^ b → i.natAbs < 2 ^ 8000 := fun h => pw b 8000 (by omega) h
  have m1 := mul_lt2 f2 g3
  have m2 := mul_lt2 g2 f3
  have m3 := mul_lt2 f3 g3
  rw [Nat.add_comm b a] at m2
  obtain ⟨r, e, h1, h2, h3⟩ := low_ok (f.1 * g.2 - g.1 * f.2) (f.2 * g.2) (Int.mul_ne_zero (by omega) (by omega)) (pw _ 8000 l m3)
  refine ⟨r, ?_, ⟨h1.1, Nat.lt_of_le_of_lt h2 (sub_lt2 m1 m2), Nat.lt_of_le_of_lt h3 (pw _ _ (by omega) m3)⟩, h1.2.2⟩
  unfold m_law_less mb_law_less
  simp only [guard_ok (w (u f2) (u' g3)), guard_ok (w (u' g2) (u f3)), guard_ok (w (u f3) (u' g3)), op2_ok, bind_ok, e, fin0_rt]
theorem times_ok {a b : Nat} {f g : Int × Int} (hf : Fr a f) (hg : Fr b g) (l : a + b ≤ 8000) : ∃ r, m_law_times (f, g) = .ok r ∧ Fr (a + b) r ∧ r.1 * (f.2 * g.2) = (f.1 * g.1) * r.2 := by
  obtain ⟨f1, f2, f3⟩ := hf
  obtain ⟨g1, g2, g3⟩ := hg
  have w : ∀ {i j : Int}, i.natAbs < 2 ^ 8000 → j.natAbs < 2 ^ 8000 → CMulX i j := fun h k => mulx 8000 h k
  have u : ∀ {i : Int}, i.natAbs < 2 ^ a → i.natAbs < 2 ^ 8000 := fun h => pw a 8000 (by omega) h
  have u' : ∀ {i : Int}, i.natAbs < 2 ^ b → i.natAbs < 2 ^ 8000 := fun h => pw b 8000 (by omega) h
  have m1 := mul_lt2 f2 g2
  have m3 := mul_lt2 f3 g3
  obtain ⟨r, e, h1, h2, h3⟩ := low_ok (f.1 * g.1) (f.2 * g.2) (Int.mul_ne_zero (by omega) (by omega)) (pw _ 8000 l m3)
  refine ⟨r, ?_, ⟨h1.1, Nat.lt_of_le_of_lt h2 m1, Nat.lt_of_le_of_lt h3 m3⟩, h1.2.2⟩
  unfold m_law_times mb_law_times
  simp only [guard_ok (w (u f2) (u' g2)), guard_ok (w (u f3) (u' g3)), op2_ok, bind_ok, e, fin0_rt]
theorem between_ok {b : Nat} {f g p : Int × Int} (hf : Fr b f) (hg : Fr b g) (hp : Fr 2 p) (l : b ≤ 2000) : ∃ r, m_law_between (f, g, p) = .ok r ∧ Fr (3 * b + 4) r := by
  obtain ⟨r, e1, h1, _⟩ := less_ok hg hf (by omega)
  obtain ⟨s, e2, h2, _⟩ := times_ok hp h1 (by omega)
  obtain ⟨t, e3, h3, _⟩ := plus_ok hf h2 (by omega)
  refine ⟨t, ?_, h3.up (by omega)⟩
  unfold m_law_between mb_law_between
  simp only [e1, e2, e3, bind_ok, fin0_rt]
theorem p3 : (10 : Int) ^ (Int.toNat (3 : Int)) = 1000 := by decide +kernel
theorem p12 : (10 : Int) ^ (Int.toNat (12 : Int)) = 1000000000000 := by decide +kernel
theorem p57 : (10 : Int) ^ (Int.toNat (57 : Int)) = 1000000000000000000000000000000000000000000000000000000000 := by decide +kernel
theorem b191 : (2 : Nat) ^ 191 = 3138550867693340381917894711603833208051177722232017256448 := by decide +kernel
theorem b8000 {i : Int} (h : i < 3138550867693340381917894711603833208051177722232017256448) : i < 2 ^ 8000 := by
  have h2 : (2 : Int) ^ 191 ≤ 2 ^ 8000 := by
    have h4 : ((2 ^ 191 : Nat) : Int) ≤ ((2 ^ 8000 : Nat) : Int) := Int.ofNat_le.mpr (Nat.pow_le_pow_right (by decide) (by decide))
    rw [Int.natCast_pow, Int.natCast_pow] at h4
    exact h4
  have h3 : (2 : Int) ^ 191 = 3138550867693340381917894711603833208051177722232017256448 := by decide +kernel
  omega
theorem number_ok (a b mode : Int) : ∃ f a' b', m_law_number ([a, b], mode) = .ok (f, [a', b']) ∧ Fr 191 f := by
  unfold m_law_number mb_law_number
  by_cases h0 : mode = 0
  · obtain ⟨q, a1, b1, e1, g1, g2⟩ := digit_ok a b 9 (by decide) (by decide)
    obtain ⟨r, a2, b2, e2, g3, g4⟩ := digit_ok a1 b1 3 (by decide) (by decide)
    obtain ⟨f, e3, h1, h2, h3⟩ := low_ok (q - 4) (1 + r) (by omega) (pw 191 8000 (by decide) (by rw [b191]; omega))
    simp only [h0, e1, e2, e3, decide_true, if_true, bind_ok, bindF_rt, fin0_rt]
    exact ⟨_, _, _, rfl, h1.1, by rw [b191]; omega, by rw [b191]; omega⟩
  · by_cases h1 : mode = 1
    · obtain ⟨q, a1, b1, e1, g1, g2⟩ := digit_ok a b 7 (by decide) (by decide)
      simp only [h1, e1, decide_true, if_true, bind_ok, bindF_rt, bindF_nx, fin0_rt]
      refine ⟨_, _, _, rfl, ?_, ?_, ?_⟩
      · show (0 : Int) < 1
        decide
      · show (q - 3).natAbs < _
        rw [b191]
        omega
      · show (1 : Int).natAbs < _
        decide +kernel
    · obtain ⟨q, a1, b1, e1, g1, g2⟩ := digit_ok a b 3 (by decide) (by decide)
      have hfar : ∃ far : Int, atI [((10 : Int) ^ (Int.toNat (3 : Int))), ((10 : Int) ^ (Int.toNat (12 : Int))), ((10 : Int) ^ (Int.toNat (57 : Int)))] q = some far ∧ 0 < far ∧ far ≤ 1000000000000000000000000000000000000000000000000000000000 := by
        rw [p3, p12, p57]
        have : q = 0 ∨ q = 1 ∨ q = 2 := by omega
        rcases this with rfl | rfl | rfl
        · exact ⟨_, rfl, by decide, by decide⟩
        · exact ⟨_, rfl, by decide, by decide⟩
        · exact ⟨_, rfl, by decide, by decide⟩
      obtain ⟨far, e0, f1, f2⟩ := hfar
      obtain ⟨n, a2, b2, e2, g3, g4⟩ := digit_ok a1 b1 (2 * far) (by omega) (b8000 (by omega))
      obtain ⟨d, a3, b3, e3, g5, g6⟩ := digit_ok a2 b2 far (by omega) (b8000 (by omega))
      obtain ⟨f, e4, h2, h3, h4⟩ := low_ok (n - far) (1 + d) (by omega) (pw 191 8000 (by decide) (by rw [b191]; omega))
      simp only [h0, h1, e0, e1, e2, e3, e4, decide_false, Bool.false_eq_true, if_false, some_ok, lt_eq, bind_ok, bindF_rt, bindF_nx, fin0_rt]
      exact ⟨_, _, _, rfl, h2.1, by rw [b191]; omega, by rw [b191]; omega⟩
def Pt (b : Nat) (p : (Int × Int) × (Int × Int)) : Prop := Fr b p.1 ∧ Fr b p.2
theorem Pt.up {a b : Nat} {p : (Int × Int) × (Int × Int)} (h : Pt a p) (l : a ≤ b) : Pt b p := ⟨h.1.up l, h.2.up l⟩
theorem atI_in {α : Type} {l : List α} {i : Int} (h0 : 0 ≤ i) (h1 : i < l.length) : ∃ x, atI l i = some x ∧ x ∈ l := by
  obtain ⟨n, rfl⟩ := Int.eq_ofNat_of_zero_le h0
  have hn : n < l.length := by omega
  refine ⟨l[n], ?_, List.getElem_mem hn⟩
  unfold atI ixN
  rw [if_pos h0, if_pos h1]
  simp [hn]
theorem point_ok (a b mode : Int) (found : List ((Int × Int) × (Int × Int))) (k : Nat) (hk : k ≤ 2000) (hf : ∀ p ∈ found, Pt k p) (hl : found.length ≤ 100) : ∃ p a' b', m_law_point ([a, b], found, mode) = .ok (p, [a', b']) ∧ Pt (if found.length ≤ 1 then 191 else 191 + (3 * k + 4)) p := by
  unfold m_law_point mb_law_point
  have tail : ∀ a b : Int, ∃ p a' b', (fin0 (((m_law_number ([a, b], mode)).bind fun (x288 : ((Int × Int) × (List Int))) => (m_law_number (x288.2, mode)).bind fun (z290 : ((Int × Int) × (List Int))) => R.ok (x288, z290)).bind fun (b291 : (((Int × Int) × (List Int)) × ((Int × Int) × (List Int)))) => (R.ok (.rt ((b291.1.1, b291.2.1), b291.2.2)) : R (Fl Unit Unit (((Int × Int) × (Int × Int)) × (List Int))))) : R (((Int × Int) × (Int × Int)) × (List Int))) = .ok (p, [a', b']) ∧ Pt 191 p := by
    intro a b
    obtain ⟨f, a1, b1, e1, h1⟩ := number_ok a b mode
    obtain ⟨g, a2, b2, e2, h2⟩ := number_ok a1 b1 mode
    simp only [e1, e2, bind_ok, fin0_rt]
    exact ⟨_, _, _, rfl, h1, h2⟩
  have up : ∀ p, Pt 191 p → Pt (if found.length ≤ 1 then 191 else 191 + (3 * k + 4)) p := fun p h => h.up (by split <;> omega)
  by_cases hm : mode < 2
  · by_cases hn : ((found.length : Nat) : Int) > 1
    · obtain ⟨q, a1, b1, e1, g1, g2⟩ := digit_ok a b 4 (by decide) (by decide)
      simp only [hm, hn, e1, decide_true, if_true, bind_ok]
      by_cases hq : q = 0
      · obtain ⟨q2, a2, b2, e2, g3, g4⟩ := digit_ok a1 b1 (found.length : Int) (by omega) (by exact b8000 (by omega))
        obtain ⟨p, ep, mp⟩ := atI_in g3 g4
        obtain ⟨q3, a3, b3, e3, g5, g6⟩ := digit_ok a2 b2 (found.length : Int) (by omega) (by exact b8000 (by omega))
        obtain ⟨r, er, mr⟩ := atI_in g5 g6
        obtain ⟨q4, a4, b4, e4, g7, g8⟩ := digit_ok a3 b3 4 (by decide) (by decide)
        have hpart : ∃ f, atI [((1 : Int), (2 : Int)), ((2 : Int), (1 : Int)), ((-(1 : Int)), (1 : Int)), ((1 : Int), (3 : Int))] q4 = some f ∧ Fr 2 f := by
          have : q4 = 0 ∨ q4 = 1 ∨ q4 = 2 ∨ q4 = 3 := by omega
          rcases this with rfl | rfl | rfl | rfl
          · exact ⟨_, rfl, by decide, by decide, by decide⟩
          · exact ⟨_, rfl, by decide, by decide, by decide⟩
          · exact ⟨_, rfl, by decide, by decide, by decide⟩
          · exact ⟨_, rfl, by decide, by decide, by decide⟩
        obtain ⟨part, e5, h5⟩ := hpart
        obtain ⟨x, e6, h6⟩ := between_ok (hf p mp).1 (hf r mr).1 h5 hk
        obtain ⟨y, e7, h7⟩ := between_ok (hf p mp).2 (hf r mr).2 h5 hk
        simp only [hq, e2, ep, e3, er, e4, e5, e6, e7, decide_true, if_true, some_ok, lt_eq, bind_ok, bindF_rt, fin0_rt]
        refine ⟨_, _, _, rfl, ?_⟩
        rw [if_neg (by omega)]
        exact ⟨h6.up (by omega), h7.up (by omega)⟩
      · simp only [hq, decide_false, Bool.false_eq_true, if_false, bindF_nx]
        obtain ⟨p, a2, b2, e, h⟩ := tail a1 b1
        exact ⟨p, a2, b2, e, up p h⟩
    · simp only [hm, hn, decide_true, decide_false, Bool.false_eq_true, if_true, if_false, bind_ok, bindF_nx]
      obtain ⟨p, a2, b2, e, h⟩ := tail a b
      exact ⟨p, a2, b2, e, up p h⟩
  · simp only [hm, decide_false, Bool.false_eq_true, if_false, bind_ok, bindF_nx]
    obtain ⟨p, a2, b2, e, h⟩ := tail a b
    exact ⟨p, a2, b2, e, up p h⟩
def cc : Nat → Nat
  | 0 => 196
  | 1 => 196
  | 2 => 196
  | 3 => 788
  | _ => 2564
theorem plus1_ok {a : Nat} {f : Int × Int} {n d : Int} (hf : Fr a f) (hn : n.natAbs < 2 ^ 4) (hd : d.natAbs < 2 ^ 4) (h0 : 0 < d) (l : a ≤ 7000) : ∃ r, m_law_plus (f, (n, d)) = .ok r ∧ Fr (a + 5) r := by
  obtain ⟨r, e, h, _⟩ := plus_ok hf (show Fr 4 (n, d) from ⟨h0, hn, hd⟩) (by omega)
  exact ⟨r, e, h⟩
def PP (i : Nat) (s : List Int × List ((Int × Int) × (Int × Int))) : Prop := (∃ a b, s.1 = [a, b]) ∧ s.2.length = i ∧ ∀ p ∈ s.2, Pt (cc i) p
theorem points_ok (a b : Int) : ∃ ps a' b', m_law_points ([a, b], 4) = .ok (ps, [a', b']) ∧ ps.length = 4 ∧ ∀ p ∈ ps, Pt 2564 p := by
  unfold m_law_points mb_law_points
  obtain ⟨mode, a1, b1, e1, _, _⟩ := digit_ok a b 3 (by decide) (by decide)
  simp only [e1, bind_ok, lt_eq, guard_ok (rng_ok (i := 4) (by decide) (by decide))]
  generalize hF : forR _ _ _ = F
  have hl : ∃ s' : List Int × List ((Int × Int) × (Int × Int)), F = .ok (.nx s') ∧ PP (0 + (rng 0 4).length) s' := by
    rw [← hF]
    refine forR_okI PP ⟨⟨a1, b1, rfl⟩, rfl, fun p m => nomatch m⟩ ?_
    rintro k x hx ⟨l, found⟩ ⟨⟨a, b, h⟩, h1, h2⟩
    have h : l = [a, b] := h
    subst h
    have h1 : found.length = 0 + k := h1
    have hk : k < 4 := by
      have := (List.getElem?_eq_some_iff.mp hx).1
      exact this
    have hx : x = (k : Int) := by
      have : k = 0 ∨ k = 1 ∨ k = 2 ∨ k = 3 := by omega
      rcases this with rfl | rfl | rfl | rfl <;> (injection hx with hx; exact hx.symm)
    subst hx
    have h2 : ∀ p ∈ found, Pt (cc (0 + k)) p := h2
    rw [Nat.zero_add] at h1 h2
    have hc : cc k ≤ 788 := by
      have : k = 0 ∨ k = 1 ∨ k = 2 ∨ k = 3 := by omega
      rcases this with rfl | rfl | rfl | rfl <;> decide
    obtain ⟨p, a2, b2, e2, hp⟩ := point_ok a b mode found (cc k) (by omega) h2 (by omega)
    simp only [e2, bind_ok]
    have hcc : (if found.length ≤ 1 then 191 else 191 + (3 * cc k + 4)) + 5 ≤ cc (0 + k + 1) := by
      rw [h1]
      have : k = 0 ∨ k = 1 ∨ k = 2 ∨ k = 3 := by omega
      rcases this with rfl | rfl | rfl | rfl <;> decide
    have step : ∀ q, Pt (cc (0 + k + 1)) q → ∀ r ∈ found ++ [q], Pt (cc (0 + k + 1)) r := fun q hq r m => by
      rcases List.mem_append.mp m with m | m
      · exact (h2 r m).up (by
          have : k = 0 ∨ k = 1 ∨ k = 2 ∨ k = 3 := by omega
          rcases this with rfl | rfl | rfl | rfl <;> decide)
      · rw [List.mem_singleton.mp m]
        exact hq
    have hsz : found.length < sizeLine := Nat.lt_of_lt_of_le (by omega) (line_ok (n := 1000) (by decide))
    obtain ⟨u, eu, hu⟩ := plus1_ok (n := (k : Int) + 1) (d := 7 + (k : Int)) hp.1 (by omega) (by omega) (by omega) (by split <;> omega)
    obtain ⟨w, ew, hw⟩ := plus1_ok (n := 1) (d := 11 + (k : Int)) hp.2 (by decide) (by omega) (by omega) (by split <;> omega)
    by_cases hin : hasL p found = true
    · obtain ⟨q, a3, b3, e3, _, _⟩ := digit_ok a2 b2 8 (by decide) (by decide)
      simp only [hin, e3, if_true, bind_ok]
      by_cases hq : q > 0
      · simp only [hq, eu, ew, decide_true, if_true, bind_ok, bindF_nx, guard_ok hsz]
        refine ⟨_, .inl rfl, ⟨_, _, rfl⟩, by simp [h1], step _ ⟨hu.up hcc, hw.up hcc⟩⟩
      · simp only [hq, decide_false, Bool.false_eq_true, if_false, bind_ok, bindF_nx, guard_ok hsz]
        refine ⟨_, .inl rfl, ⟨_, _, rfl⟩, by simp [h1], step _ (hp.up (by omega))⟩
    · simp only [hin, if_false, Bool.false_eq_true, bind_ok, bindF_nx, guard_ok hsz]
      refine ⟨_, .inl rfl, ⟨_, _, rfl⟩, by simp [h1], step _ (hp.up (by omega))⟩
  obtain ⟨⟨l, ps⟩, e, ⟨a2, b2, h⟩, h1, h2⟩ := hl
  have h : l = [a2, b2] := h
  subst h
  rw [e]
  simp only [bindF_nx, fin0_rt]
  exact ⟨ps, a2, b2, rfl, h1, h2⟩
theorem greatest_ok (ps : List ((Int × Int) × (Int × Int))) : ∃ g, m_law_greatest ps = .ok g := by
  unfold m_law_greatest mb_law_greatest
  simp only [lt_eq]
  generalize hF : forR _ _ _ = F
  have hl : ∃ s' : Int, F = .ok (.nx s') ∧ True := by
    rw [← hF]
    refine forR_ok (fun _ => True) trivial fun x _ s _ => ?_
    rw [guard_ok (line_ok (by simp)), bind_ok, bind_ok, bind_ok, guard_ok (line_ok (by simp)), bind_ok, bind_ok, guard_ok (by simp)]
    exact ⟨_, .inl rfl, trivial⟩
  obtain ⟨g, e, _⟩ := hl
  rw [e]
  exact ⟨g, rfl⟩
def ap (f g : Int × Int) : Int × Int := (g.1 * f.2 - f.1 * g.2, f.2 * g.2)
def HH (p q r : (Int × Int) × (Int × Int)) : Int := (ap p.1 q.1).1 * (ap p.2 r.2).1 * (ap p.2 q.2).2 * (ap p.1 r.1).2 - (ap p.2 q.2).1 * (ap p.1 r.1).1 * (ap p.1 q.1).2 * (ap p.2 r.2).2
def sg (i : Int) : Int := (if (decide (i > (0 : Int))) = true then (1 : Int) else 0) - (if (decide (i < (0 : Int))) = true then (1 : Int) else 0)
theorem ap_fr {b : Nat} {f g : Int × Int} (hf : Fr b f) (hg : Fr b g) : Fr (2 * b + 1) (ap f g) := by
  obtain ⟨f1, f2, f3⟩ := hf
  obtain ⟨g1, g2, g3⟩ := hg
  have m1 := mul_lt2 g2 f3
  have m2 := mul_lt2 f2 g3
  have m3 := mul_lt2 f3 g3
  rw [show b + b = 2 * b by omega] at m1 m2 m3
  exact ⟨Int.mul_pos f1 g1, sub_lt2 m1 m2, pw _ _ (by omega) m3⟩
theorem apart_ok {b : Nat} {f g : Int × Int} (hf : Fr b f) (hg : Fr b g) (l : b ≤ 4000) : m_apart (f, g) = .ok (ap f g) ∧ m_law_apart (f, g) = .ok (ap f g) := by
  obtain ⟨f1, f2, f3⟩ := hf
  obtain ⟨g1, g2, g3⟩ := hg
  have w : ∀ {i j : Int}, i.natAbs < 2 ^ b → j.natAbs < 2 ^ b → CMulX i j := fun h k => mulx b h k (by omega)
  constructor
  · unfold m_apart mb_apart
    simp only [guard_ok (w g2 f3), guard_ok (w f2 g3), guard_ok (w f3 g3), op2_ok, bind_ok, fin0_rt]
    rfl
  · unfold m_law_apart mb_law_apart
    simp only [guard_ok (w g2 f3), guard_ok (w f2 g3), guard_ok (w f3 g3), op2_ok, bind_ok, fin0_rt]
    rfl
theorem hand_ok {b : Nat} {p q r : (Int × Int) × (Int × Int)} (hp : Pt b p) (hq : Pt b q) (hr : Pt b r) (l : b ≤ 4000) : m_hand (p, q, r) = .ok (sg (HH p q r)) ∧ m_law_hand (p, q, r) = .ok (sg (HH p q r)) := by
  obtain ⟨e1, g1⟩ := apart_ok hp.1 hq.1 l
  obtain ⟨e2, g2⟩ := apart_ok hp.2 hq.2 l
  obtain ⟨e3, g3⟩ := apart_ok hp.1 hr.1 l
  obtain ⟨e4, g4⟩ := apart_ok hp.2 hr.2 l
  have w1 := ap_fr hp.1 hq.1
  have w2 := ap_fr hp.2 hq.2
  have w3 := ap_fr hp.1 hr.1
  have w4 := ap_fr hp.2 hr.2
  have way1 : m_way (p, q) = .ok (ap p.1 q.1, ap p.2 q.2) := by
    unfold m_way mb_way
    simp only [e1, e2, bind_ok, fin0_rt]
  have way2 : m_way (p, r) = .ok (ap p.1 r.1, ap p.2 r.2) := by
    unfold m_way mb_way
    simp only [e3, e4, bind_ok, fin0_rt]
  have s1 : ∀ i, m_sign_of i = .ok (sg i) := fun i => rfl
  have s2 : ∀ i j, m_law_sign (i, j) = .ok (sg i) := fun i j => rfl
  generalize ha : ap p.1 q.1 = a at *
  generalize hb : ap p.2 q.2 = bb at *
  generalize hc : ap p.1 r.1 = c at *
  generalize hd : ap p.2 r.2 = d at *
  have w : ∀ {i j : Int} {x y : Nat}, i.natAbs < 2 ^ x → j.natAbs < 2 ^ y → x + y ≤ 40000 → CMulX i j := fun {i j x y} h k z => mulx 40000 (pw x 40000 (by omega) h) (pw y 40000 (by omega) k)
  have m1 := mul_lt2 w1.2.1 w4.2.1
  have m2 := mul_lt2 m1 w2.2.2
  have n1 := mul_lt2 w2.2.1 w3.2.1
  have n2 := mul_lt2 n1 w1.2.2
  have c1 : CMulX a.1 d.1 := w w1.2.1 w4.2.1 (by omega)
  have c2 : CMulX (a.1 * d.1) bb.2 := w m1 w2.2.2 (by omega)
  have c3 : CMulX (a.1 * d.1 * bb.2) c.2 := w m2 w3.2.2 (by omega)
  have d1 : CMulX bb.1 c.1 := w w2.2.1 w3.2.1 (by omega)
  have d2 : CMulX (bb.1 * c.1) a.2 := w n1 w1.2.2 (by omega)
  have d3 : CMulX (bb.1 * c.1 * a.2) d.2 := w n2 w4.2.2 (by omega)
  have hH : HH p q r = a.1 * d.1 * bb.2 * c.2 - bb.1 * c.1 * a.2 * d.2 := by
    unfold HH
    rw [ha, hb, hc, hd]
  rw [hH]
  constructor
  · unfold m_hand mb_hand
    simp only [way1, way2, guard_ok c1, guard_ok c2, guard_ok c3, guard_ok d1, guard_ok d2, guard_ok d3, op2_ok, bind_ok, s1, fin0_rt]
  · unfold m_law_hand mb_law_hand
    simp only [g1, g2, g3, g4, guard_ok c1, guard_ok c2, guard_ok c3, guard_ok d1, guard_ok d2, guard_ok d3, op2_ok, bind_ok, s2, fin0_rt]
theorem sg_neg (i : Int) : sg (-i) = -sg i := by
  unfold sg
  by_cases h1 : i > 0
  · have : ¬ i < 0 := by omega
    have h2 : ¬ -i > 0 := by omega
    have h3 : -i < 0 := by omega
    simp [h1, this, h3, h2]
  · by_cases h2 : i < 0
    · have h3 : -i > 0 := by omega
      have h4 : ¬ -i < 0 := by omega
      simp [h1, h2, h3, h4]
    · have : i = 0 := by omega
      subst this
      rfl
theorem mpos {i x : Int} (hx : 0 < x) : 0 < i * x ↔ 0 < i := by
  constructor
  · intro h
    by_cases k : 0 < i
    · exact k
    · have := Int.mul_le_mul_of_nonneg_right (a := i) (b := 0) (c := x) (by omega) (by omega)
      rw [Int.zero_mul] at this
      omega
  · exact fun h => Int.mul_pos h hx
theorem sg_pos {i j x y : Int} (hx : 0 < x) (hy : 0 < y) (h : i * x = y * j) : sg i = sg j := by
  have h1 : 0 < i ↔ 0 < j := by
    rw [← mpos hx, h, Int.mul_comm, mpos hy]
  have h2 : i < 0 ↔ j < 0 := by
    have e : (-i) * x = y * (-j) := by
      rw [Int.neg_mul, h, Int.mul_neg]
    have := mpos (i := -i) hx
    rw [e, Int.mul_comm, mpos hy] at this
    omega
  unfold sg
  by_cases a : 0 < i
  · have b := h1.mp a
    have c : ¬ i < 0 := by omega
    have d : ¬ j < 0 := by omega
    simp [a, b, c, d]
  · have b : ¬ 0 < j := fun z => a (h1.mpr z)
    by_cases c : i < 0
    · have d := h2.mp c
      simp [a, b, c, d]
    · have d : ¬ j < 0 := fun z => c (h2.mpr z)
      simp [a, b, c, d]
/-- the same turn: signs of HH -/
def KK (p q r : (Int × Int) × (Int × Int)) : Int :=
  q.1.1 * r.2.1 * (p.1.2 * r.1.2) * (p.2.2 * q.2.2) - q.1.1 * p.2.1 * (p.1.2 * r.1.2) * (q.2.2 * r.2.2) - p.1.1 * r.2.1 * (q.1.2 * r.1.2) * (p.2.2 * q.2.2)
    - r.1.1 * q.2.1 * (p.1.2 * q.1.2) * (p.2.2 * r.2.2) + p.1.1 * q.2.1 * (q.1.2 * r.1.2) * (p.2.2 * r.2.2) + r.1.1 * p.2.1 * (p.1.2 * q.1.2) * (q.2.2 * r.2.2)
theorem HH_KK (p q r : (Int × Int) × (Int × Int)) : HH p q r = (p.1.2 * p.2.2) * KK p q r := by
  unfold HH KK ap
  grind
theorem KK_cyc (p q r : (Int × Int) × (Int × Int)) : KK q r p = KK p q r := by
  unfold KK
  grind
theorem KK_sw (p q r : (Int × Int) × (Int × Int)) : KK q p r = -KK p q r := by
  unfold KK
  grind
theorem KK_sw2 (p q r : (Int × Int) × (Int × Int)) : KK p r q = -KK p q r := by
  unfold KK
  grind
theorem KK_pp (p r : (Int × Int) × (Int × Int)) : KK p p r = 0 := by
  unfold KK
  grind
theorem KK_qq (p q : (Int × Int) × (Int × Int)) : KK p q q = 0 := by
  unfold KK
  grind
def PosP (p : (Int × Int) × (Int × Int)) : Prop := 0 < p.1.2 ∧ 0 < p.2.2
theorem Pt.pos {b : Nat} {p : (Int × Int) × (Int × Int)} (h : Pt b p) : PosP p := ⟨h.1.1, h.2.1⟩
theorem sgH {p : (Int × Int) × (Int × Int)} (h : PosP p) (q r : (Int × Int) × (Int × Int)) : sg (HH p q r) = sg (KK p q r) := sg_pos (x := 1) (by decide) (Int.mul_pos h.1 h.2) (by rw [Int.mul_one, HH_KK])
theorem right_ok {b : Nat} {p q r : (Int × Int) × (Int × Int)} (hp : Pt b p) (hq : Pt b q) (hr : Pt b r) (l : b ≤ 4000) : m_law_right (p, q, r, sg (KK p q r)) = .ok true := by
  have i1 : ∀ x y : Int, m_law_is (x, y) = .ok (decide (x = y)) := fun x y => by
    unfold m_law_is mb_law_is
    simp [isInt, isBool, fin0_rt]
  unfold m_law_right mb_law_right
  simp only [(hand_ok hp hq hr l).1, (hand_ok hq hr hp l).1, (hand_ok hq hp hr l).1, (hand_ok hp hr hq l).1, sgH hp.pos, sgH hq.pos, KK_cyc p q r, KK_sw p q r, KK_sw2 p q r, sg_neg, i1, bind_ok, or2_ok, and2_ok, decide_true, Bool.not_true, Bool.false_eq_true, if_false, bindF_nx, if_true, fin0_rt]
/-- moved by s behind being m times as great -/
def Mv (m s f f' : Int × Int) : Prop := f'.1 * (f.2 * m.2 * s.2) = (f.1 * m.1 * s.2 + s.1 * f.2 * m.2) * f'.2
theorem ap_moved {m s f f' g g' : Int × Int} (hf : Mv m s f f') (hg : Mv m s g g') : (ap f' g').1 * ((ap f g).2 * (m.2 * s.2)) = ((ap f' g').2 * (m.1 * s.2)) * (ap f g).1 := by
  unfold Mv at hf hg
  have e1 : g'.1 * (g.2 * m.2 * s.2) * (f'.2 * f.2) = (g.1 * m.1 * s.2 + s.1 * g.2 * m.2) * g'.2 * (f'.2 * f.2) := by rw [hg]
  have e2 : f'.1 * (f.2 * m.2 * s.2) * (g'.2 * g.2) = (f.1 * m.1 * s.2 + s.1 * f.2 * m.2) * f'.2 * (g'.2 * g.2) := by rw [hf]
  unfold ap
  grind
theorem comb {a1 a2 b1 b2 c1 c2 d1 d2 a1' a2' b1' b2' c1' c2' d1' d2' m n s t : Int} (ha : a1' * (a2 * (n * s)) = (a2' * (m * s)) * a1) (hb : b1' * (b2 * (n * t)) = (b2' * (m * t)) * b1) (hc : c1' * (c2 * (n * s)) = (c2' * (m * s)) * c1) (hd : d1' * (d2 * (n * t)) = (d2' * (m * t)) * d1) :
    (a1' * d1' * b2' * c2' - b1' * c1' * a2' * d2') * (a2 * b2 * c2 * d2 * (n * n) * (s * t)) = (a2' * b2' * c2' * d2' * (m * m) * (s * t)) * (a1 * d1 * b2 * c2 - b1 * c1 * a2 * d2) := by
  have e1 : (a1' * (a2 * (n * s))) * (d1' * (d2 * (n * t))) * (b2' * c2' * b2 * c2) = ((a2' * (m * s)) * a1) * ((d2' * (m * t)) * d1) * (b2' * c2' * b2 * c2) := by rw [ha, hd]
  have e2 : (b1' * (b2 * (n * t))) * (c1' * (c2 * (n * s))) * (a2' * d2' * a2 * d2) = ((b2' * (m * t)) * b1) * ((c2' * (m * s)) * c1) * (a2' * d2' * a2 * d2) := by rw [hb, hc]
  grind
def MvP (m : Int × Int) (s p p' : (Int × Int) × (Int × Int)) : Prop := Mv m s.1 p.1 p'.1 ∧ Mv m s.2 p.2 p'.2
theorem ap_pos {f g : Int × Int} (hf : 0 < f.2) (hg : 0 < g.2) : 0 < (ap f g).2 := Int.mul_pos hf hg
theorem KK_moved {m : Int × Int} {s p q r p' q' r' : (Int × Int) × (Int × Int)} (m1 : 0 < m.1) (m2 : 0 < m.2) (hs : PosP s) (hp : PosP p) (hq : PosP q) (hr : PosP r) (hp' : PosP p') (hq' : PosP q') (hr' : PosP r') (vp : MvP m s p p') (vq : MvP m s q q') (vr : MvP m s r r') : sg (KK p' q' r') = sg (KK p q r) := by
  rw [← sgH hp, ← sgH hp']
  refine sg_pos (x := _) (y := _) ?_ ?_ (comb (ap_moved vp.1 vq.1) (ap_moved vp.2 vq.2) (ap_moved vp.1 vr.1) (ap_moved vp.2 vr.2))
  · have h1 := ap_pos hp.1 hq.1
    have h2 := ap_pos hp.2 hq.2
    have h3 := ap_pos hp.1 hr.1
    have h4 := ap_pos hp.2 hr.2
    exact Int.mul_pos (Int.mul_pos (Int.mul_pos (Int.mul_pos (Int.mul_pos h1 h2) h3) h4) (Int.mul_pos m2 m2)) (Int.mul_pos hs.1 hs.2)
  · have h1 := ap_pos hp'.1 hq'.1
    have h2 := ap_pos hp'.2 hq'.2
    have h3 := ap_pos hp'.1 hr'.1
    have h4 := ap_pos hp'.2 hr'.2
    exact Int.mul_pos (Int.mul_pos (Int.mul_pos (Int.mul_pos (Int.mul_pos h1 h2) h3) h4) (Int.mul_pos m1 m1)) (Int.mul_pos hs.1 hs.2)
theorem mv_ok {b : Nat} {f m s : Int × Int} (hf : Fr b f) (hm : Fr 3 m) (hs : Fr 191 s) (l : b ≤ 4000) : ∃ t g, m_law_times (f, m) = .ok t ∧ m_law_plus (t, s) = .ok g ∧ Fr (b + 195) g ∧ Mv m s f g := by
  obtain ⟨t, e1, h1, h2⟩ := times_ok hf hm (by omega)
  obtain ⟨g, e2, h3, h4⟩ := plus_ok h1 hs (by omega)
  refine ⟨t, g, e1, e2, h3.up (by omega), ?_⟩
  unfold Mv
  have ht : t.2 ≠ 0 := by have := h1.1; omega
  refine Int.eq_of_mul_eq_mul_left ht ?_
  have e3 : g.1 * (t.2 * s.2) * (f.2 * m.2) = (t.1 * s.2 + s.1 * t.2) * g.2 * (f.2 * m.2) := by rw [h4]
  have e4 : t.1 * (f.2 * m.2) * (s.2 * g.2) = f.1 * m.1 * t.2 * (s.2 * g.2) := by rw [h2]
  grind
theorem moved_ok {b : Nat} {m : Int × Int} {p s : (Int × Int) × (Int × Int)} (hp : Pt b p) (hm : Fr 3 m) (hs : Pt 191 s) (l : b ≤ 3000) : ∃ g, m_law_moved (p, s, m) = .ok g ∧ Pt (b + 195) g ∧ MvP m s p g := by
  obtain ⟨t, g, e1, e2, h1, h2⟩ := mv_ok hp.1 hm hs.1 (by omega)
  obtain ⟨u, k, e3, e4, h3, h4⟩ := mv_ok hp.2 hm hs.2 (by omega)
  refine ⟨(g, k), ?_, ⟨h1, h3⟩, h2, h4⟩
  unfold m_law_moved mb_law_moved
  simp only [e1, e2, e3, e4, bind_ok, fin0_rt]
theorem pot_ok (ns : List Int) (k : Int) (h0 : 0 ≤ k) : ∃ a b, m_law_pot (ns, k) = .ok [a, b] := by
  unfold m_law_pot mb_law_pot
  obtain ⟨c, h1, h2⟩ := cell_ok ns k h0
  rw [guard_ok (line_ok (by simp only [List.length_cons, List.length_nil]; omega))]
  simp only [h1, some_ok, bind_ok, lt_eq, fin0_rt]
  exact ⟨_, _, rfl⟩
theorem law_true (ns : List Int) (hl : ns.length ≤ 63) : m_law ns = .ok true := by
  unfold m_law mb_law
  rw [guard_ok (rng_ok (by omega) (by omega)), bind_ok]
  generalize hF : forR _ _ _ = F
  have hl : ∃ s' : Unit, F = .ok (.nx s') ∧ True := by
    rw [← hF]
    refine forR_ok (fun _ => True) trivial fun x hx s _ => ⟨(), .inl ?_, trivial⟩
    have hx0 := (mem_rng hx).1
    obtain ⟨a, b, e⟩ := pot_ok ns x hx0
    obtain ⟨ps, a1, b1, e1, l4, hps⟩ := points_ok a b
    have dr : ∀ a b : Int, ∃ d p a' b', m_law_digit ([a, b], 4) = .ok (d, [a', b']) ∧ atI ps d = some p ∧ Pt 2564 p := fun a b => by
      obtain ⟨d, a2, b2, e2, g1, g2⟩ := digit_ok a b 4 (by decide) (by decide)
      obtain ⟨p, ep, mp⟩ := atI_in (l := ps) g1 (by omega)
      exact ⟨d, p, a2, b2, e2, ep, hps p mp⟩
    obtain ⟨d1, p, a2, b2, e2, f1, hp⟩ := dr a1 b1
    obtain ⟨d2, q, a3, b3, e3, f2, hq⟩ := dr a2 b2
    obtain ⟨d3, r, a4, b4, e4, f3, hr⟩ := dr a3 b3
    have hr3 : rng 0 (3 : Int) = [0, 1, 2] := by decide +kernel
    have hz : (3 : Nat) ≤ sizeLine := line_ok (by decide)
    simp only [e, e1, bind_ok, lt_eq, guard_ok (rng_ok (i := 3) (by decide) (by decide)), hr3, List.length_cons, List.length_nil, Nat.zero_add, Nat.reduceAdd, guard_ok hz, compR, compF, if_true, e2, e3, e4, f1, f2, f3, some_ok, List.nil_append, List.cons_append, un3, (hand_ok hp hq hr (by omega)).2, sgH hp.pos, right_ok hp hq hr (by omega)]
    have i1 : ∀ x y : Int, m_law_is (x, y) = .ok (decide (x = y)) := fun x y => by
      unfold m_law_is mb_law_is
      simp [isInt, isBool, fin0_rt]
    have s0 : sg 0 = 0 := rfl
    obtain ⟨gr, eg⟩ := greatest_ok ps
    simp only [(hand_ok hp hp hr (by omega)).1, (hand_ok hp hq hq (by omega)).1, sgH hp.pos, KK_pp, KK_qq, s0, i1, decide_true, bind_ok, or2_ok, Bool.not_true, Bool.false_eq_true, if_false, bindF_nx, eg]
    by_cases hgr : gr < (10 : Int) ^ (Int.toNat (13 : Int))
    · obtain ⟨n1, a5, b5, e5, h5⟩ := number_ok a4 b4 0
      obtain ⟨n2, a6, b6, e6, h6⟩ := number_ok a5 b5 1
      obtain ⟨q1, a7, b7, e7, g1, g2⟩ := digit_ok a6 b6 5 (by decide) (by decide)
      obtain ⟨q2, a8, b8, e8, g3, g4⟩ := digit_ok a7 b7 5 (by decide) (by decide)
      obtain ⟨m, e9, m1, m2, m3⟩ := low_ok (1 + q1) (1 + q2) (by omega) (pw 3 8000 (by decide) (by omega))
      have hm : Fr 3 m := ⟨m1.1, by omega, by omega⟩
      have hm1 : 0 < m.1 := by
        have := m1.2.2
        rw [← mpos (x := 1 + q2) (by omega), this]
        exact Int.mul_pos (by omega) m1.1
      have hs : Pt 191 (n1, n2) := ⟨h5, h6⟩
      obtain ⟨p', ep, hp', vp⟩ := moved_ok hp hm hs (by omega)
      obtain ⟨q', eq, hq', vq⟩ := moved_ok hq hm hs (by omega)
      obtain ⟨r', er, hr', vr⟩ := moved_ok hr hm hs (by omega)
      have hK := KK_moved hm1 m1.1 hs.pos hp.pos hq.pos hr.pos hp'.pos hq'.pos hr'.pos vp vq vr
      have hR := right_ok hp' hq' hr' (by omega)
      rw [hK] at hR
      simp only [hgr, decide_true, if_true, e5, e6, e7, e8, e9, ep, eq, er, hR, bind_ok, Bool.not_true, Bool.false_eq_true, if_false, bindF_nx, List.nil_append, List.cons_append, un3, some_ok]
    · simp only [hgr, decide_false, Bool.false_eq_true, if_false, bindF_nx]
  obtain ⟨_, e, _⟩ := hl
  rw [e]
  rfl

def e_law_pot : He.DefD := ⟨("_law_pot", none), "_law_pot", "_law_pot", defArgs s_law_pot, defBody s_law_pot, defScope s_law_pot, [], []⟩
def e_law_digit : He.DefD := ⟨("_law_digit", none), "_law_digit", "_law_digit", defArgs s_law_digit, defBody s_law_digit, defScope s_law_digit, [], []⟩
def e_law_low : He.DefD := ⟨("_law_low", none), "_law_low", "_law_low", defArgs s_law_low, defBody s_law_low, defScope s_law_low, [], []⟩
def e_law_plus : He.DefD := ⟨("_law_plus", none), "_law_plus", "_law_plus", defArgs s_law_plus, defBody s_law_plus, defScope s_law_plus, [], []⟩
def e_law_times : He.DefD := ⟨("_law_times", none), "_law_times", "_law_times", defArgs s_law_times, defBody s_law_times, defScope s_law_times, [], []⟩
def e_law_less : He.DefD := ⟨("_law_less", none), "_law_less", "_law_less", defArgs s_law_less, defBody s_law_less, defScope s_law_less, [], []⟩
def e_law_between : He.DefD := ⟨("_law_between", none), "_law_between", "_law_between", defArgs s_law_between, defBody s_law_between, defScope s_law_between, [], []⟩
def e_law_number : He.DefD := ⟨("_law_number", none), "_law_number", "_law_number", defArgs s_law_number, defBody s_law_number, defScope s_law_number, [], []⟩
def e_law_point : He.DefD := ⟨("_law_point", none), "_law_point", "_law_point", defArgs s_law_point, defBody s_law_point, defScope s_law_point, [], []⟩
def e_law_points : He.DefD := ⟨("_law_points", none), "_law_points", "_law_points", defArgs s_law_points, defBody s_law_points, defScope s_law_points, [], []⟩
def e_law_apart : He.DefD := ⟨("_law_apart", none), "_law_apart", "_law_apart", defArgs s_law_apart, defBody s_law_apart, defScope s_law_apart, [], []⟩
def e_law_sign : He.DefD := ⟨("_law_sign", none), "_law_sign", "_law_sign", defArgs s_law_sign, defBody s_law_sign, defScope s_law_sign, [], []⟩
def e_law_hand : He.DefD := ⟨("_law_hand", none), "_law_hand", "_law_hand", defArgs s_law_hand, defBody s_law_hand, defScope s_law_hand, [], []⟩
def e_law_is : He.DefD := ⟨("_law_is", none), "_law_is", "_law_is", defArgs s_law_is, defBody s_law_is, defScope s_law_is, [], []⟩
def e_apart : He.DefD := ⟨("apart", none), "apart", "apart", defArgs s_apart, defBody s_apart, defScope s_apart, [], []⟩
def e_way : He.DefD := ⟨("way", none), "way", "way", defArgs s_way, defBody s_way, defScope s_way, [], []⟩
def e_sign_of : He.DefD := ⟨("sign_of", none), "sign_of", "sign_of", defArgs s_sign_of, defBody s_sign_of, defScope s_sign_of, [], []⟩
def e_hand : He.DefD := ⟨("hand", none), "hand", "hand", defArgs s_hand, defBody s_hand, defScope s_hand, [], []⟩
def e_law_right : He.DefD := ⟨("_law_right", none), "_law_right", "_law_right", defArgs s_law_right, defBody s_law_right, defScope s_law_right, [], []⟩
def e_law_greatest : He.DefD := ⟨("_law_greatest", none), "_law_greatest", "_law_greatest", defArgs s_law_greatest, defBody s_law_greatest, defScope s_law_greatest, [], []⟩
def e_law_moved : He.DefD := ⟨("_law_moved", none), "_law_moved", "_law_moved", defArgs s_law_moved, defBody s_law_moved, defScope s_law_moved, [], []⟩
def e_law : He.DefD := ⟨("law", none), "law", "law", defArgs s_law, defBody s_law, defScope s_law, [], []⟩
def fnL : List He.DefD := [e_law_pot, e_law_digit, e_law_low, e_law_plus, e_law_times, e_law_less, e_law_between, e_law_number, e_law_point, e_law_points, e_law_apart, e_law_sign, e_law_hand, e_law_is, e_apart, e_way, e_sign_of, e_hand, e_law_right, e_law_greatest, e_law_moved, e_law]
def faL : List He.Fa := [.glo "_law_pot", .glo "_law_digit", .glo "_law_low", .glo "_law_plus", .glo "_law_times", .glo "_law_less", .glo "_law_between", .glo "_law_number", .glo "_law_point", .glo "_law_points", .glo "_law_apart", .glo "_law_sign", .glo "_law_hand", .glo "_law_is", .glo "apart", .glo "way", .glo "sign_of", .glo "hand", .glo "_law_right", .glo "_law_greatest", .glo "_law_moved", .glo "law", .free "abs", .free "bool", .free "divmod", .free "int", .free "isinstance", .free "len", .free "max", .free "min", .free "range", .free "tuple"]
abbrev Rw : PySem.W.OpenRow := PySem.W.OpenLaw.row PySem.Challenge.rw_restdraw_k41_hands
abbrev hkL : PySem.W.Hook := He.hookD 4 faL fnL
def obL (s : PySem.W.SharedT) : He.AlD := He.obsDG 4 faL fnL (HandSHeadRun.getT s)
theorem ob_eqL (s : PySem.W.SharedT) : obL s = hkL.obs s.abs := He.obsDG_eq (HandSHeadRun.getT_eq s)
theorem runL (w : World) : HandSHeadRun.RunEq Rw (PySem.W.view Rw.prog [23]) hkL obL 1000 ["apart", "way", "sign_of", "hand", "_law_pot", "_law_digit", "_law_low", "_law_plus", "_law_less", "_law_times", "_law_sign", "_law_number", "_law_between", "_law_point", "_law_points", "_law_apart", "_law_hand", "_law_is", "_law_moved", "_law_greatest", "_law_right"] w := by
  intro os
  kernel_rfl
theorem factsL {P : Program} {w : World} {K : PySem.W.Frag} {h : Heap} {mg : Str → Option Value} {f : Addr} (X : K.In h) (G : h.Ns mainGlobals mg) (hfa : mg ("law" : Str) = some (.ref f)) (c : He.SaysD faL fnL K) :
    ∃ fd : FuncData, (∀ (s : Shared) (v : Value), BindsTo s fd ⟨[v], []⟩ [("_law_script", v)]) ∧ ∀ base : Heap, K.In base → base.Ns mainGlobals mg → FnOk P w K mg base CX0 6 f fd ["_law_script"] (spM K i_law m_law l_law o_law) := by
  obtain ⟨d0, F0⟩ := c.def_ 0 (d := e_law_pot) rfl
  obtain ⟨d1, F1⟩ := c.def_ 1 (d := e_law_digit) rfl
  obtain ⟨d2, F2⟩ := c.def_ 2 (d := e_law_low) rfl
  obtain ⟨d3, F3⟩ := c.def_ 3 (d := e_law_plus) rfl
  obtain ⟨d4, F4⟩ := c.def_ 4 (d := e_law_times) rfl
  obtain ⟨d5, F5⟩ := c.def_ 5 (d := e_law_less) rfl
  obtain ⟨d6, F6⟩ := c.def_ 6 (d := e_law_between) rfl
  obtain ⟨d7, F7⟩ := c.def_ 7 (d := e_law_number) rfl
  obtain ⟨d8, F8⟩ := c.def_ 8 (d := e_law_point) rfl
  obtain ⟨d9, F9⟩ := c.def_ 9 (d := e_law_points) rfl
  obtain ⟨d10, F10⟩ := c.def_ 10 (d := e_law_apart) rfl
  obtain ⟨d11, F11⟩ := c.def_ 11 (d := e_law_sign) rfl
  obtain ⟨d12, F12⟩ := c.def_ 12 (d := e_law_hand) rfl
  obtain ⟨d13, F13⟩ := c.def_ 13 (d := e_law_is) rfl
  obtain ⟨d14, F14⟩ := c.def_ 14 (d := e_apart) rfl
  obtain ⟨d15, F15⟩ := c.def_ 15 (d := e_way) rfl
  obtain ⟨d16, F16⟩ := c.def_ 16 (d := e_sign_of) rfl
  obtain ⟨d17, F17⟩ := c.def_ 17 (d := e_hand) rfl
  obtain ⟨d18, F18⟩ := c.def_ 18 (d := e_law_right) rfl
  obtain ⟨d19, F19⟩ := c.def_ 19 (d := e_law_greatest) rfl
  obtain ⟨d20, F20⟩ := c.def_ 20 (d := e_law_moved) rfl
  obtain ⟨d21, F21⟩ := c.def_ 21 (d := e_law) rfl
  have e := hfa.symm.trans (He.glo_ok X G (c.fact 21 (f := .glo "law") rfl))
  cases e
  have b := FunD.bindsA (ps := ["_law_script"]) F21 fun _ _ _ _ _ _ us hl => match us, hl with | [_], _ => rfl
  let T : Top K mg := {
    law_pot := ⟨_, d0, F0, He.glo_ok X G (c.fact 0 (f := .glo "_law_pot") rfl), FunD.bindsN F0 fun _ _ _ _ _ _ us hl => match us, hl with | [_, _], _ => rfl⟩
    law_digit := ⟨_, d1, F1, He.glo_ok X G (c.fact 1 (f := .glo "_law_digit") rfl), FunD.bindsN F1 fun _ _ _ _ _ _ us hl => match us, hl with | [_, _], _ => rfl⟩
    law_low := ⟨_, d2, F2, He.glo_ok X G (c.fact 2 (f := .glo "_law_low") rfl), FunD.bindsN F2 fun _ _ _ _ _ _ us hl => match us, hl with | [_, _], _ => rfl⟩
    law_plus := ⟨_, d3, F3, He.glo_ok X G (c.fact 3 (f := .glo "_law_plus") rfl), FunD.bindsN F3 fun _ _ _ _ _ _ us hl => match us, hl with | [_, _], _ => rfl⟩
    law_times := ⟨_, d4, F4, He.glo_ok X G (c.fact 4 (f := .glo "_law_times") rfl), FunD.bindsN F4 fun _ _ _ _ _ _ us hl => match us, hl with | [_, _], _ => rfl⟩
    law_less := ⟨_, d5, F5, He.glo_ok X G (c.fact 5 (f := .glo "_law_less") rfl), FunD.bindsN F5 fun _ _ _ _ _ _ us hl => match us, hl with | [_, _], _ => rfl⟩
    law_between := ⟨_, d6, F6, He.glo_ok X G (c.fact 6 (f := .glo "_law_between") rfl), FunD.bindsN F6 fun _ _ _ _ _ _ us hl => match us, hl with | [_, _, _], _ => rfl⟩
    law_number := ⟨_, d7, F7, He.glo_ok X G (c.fact 7 (f := .glo "_law_number") rfl), FunD.bindsN F7 fun _ _ _ _ _ _ us hl => match us, hl with | [_, _], _ => rfl⟩
    law_point := ⟨_, d8, F8, He.glo_ok X G (c.fact 8 (f := .glo "_law_point") rfl), FunD.bindsN F8 fun _ _ _ _ _ _ us hl => match us, hl with | [_, _, _], _ => rfl⟩
    law_points := ⟨_, d9, F9, He.glo_ok X G (c.fact 9 (f := .glo "_law_points") rfl), FunD.bindsN F9 fun _ _ _ _ _ _ us hl => match us, hl with | [_, _], _ => rfl⟩
    law_apart := ⟨_, d10, F10, He.glo_ok X G (c.fact 10 (f := .glo "_law_apart") rfl), FunD.bindsN F10 fun _ _ _ _ _ _ us hl => match us, hl with | [_, _], _ => rfl⟩
    law_sign := ⟨_, d11, F11, He.glo_ok X G (c.fact 11 (f := .glo "_law_sign") rfl), FunD.bindsN F11 fun _ _ _ _ _ _ us hl => match us, hl with | [_], _ => rfl⟩
    law_hand := ⟨_, d12, F12, He.glo_ok X G (c.fact 12 (f := .glo "_law_hand") rfl), FunD.bindsN F12 fun _ _ _ _ _ _ us hl => match us, hl with | [_, _, _], _ => rfl⟩
    law_is := ⟨_, d13, F13, He.glo_ok X G (c.fact 13 (f := .glo "_law_is") rfl), FunD.bindsN F13 fun _ _ _ _ _ _ us hl => match us, hl with | [_, _], _ => rfl⟩
    apart := ⟨_, d14, F14, He.glo_ok X G (c.fact 14 (f := .glo "apart") rfl), FunD.bindsN F14 fun _ _ _ _ _ _ us hl => match us, hl with | [_, _], _ => rfl⟩
    way := ⟨_, d15, F15, He.glo_ok X G (c.fact 15 (f := .glo "way") rfl), FunD.bindsN F15 fun _ _ _ _ _ _ us hl => match us, hl with | [_, _], _ => rfl⟩
    sign_of := ⟨_, d16, F16, He.glo_ok X G (c.fact 16 (f := .glo "sign_of") rfl), FunD.bindsN F16 fun _ _ _ _ _ _ us hl => match us, hl with | [_], _ => rfl⟩
    hand := ⟨_, d17, F17, He.glo_ok X G (c.fact 17 (f := .glo "hand") rfl), FunD.bindsN F17 fun _ _ _ _ _ _ us hl => match us, hl with | [_, _, _], _ => rfl⟩
    law_right := ⟨_, d18, F18, He.glo_ok X G (c.fact 18 (f := .glo "_law_right") rfl), FunD.bindsN F18 fun _ _ _ _ _ _ us hl => match us, hl with | [_, _, _, _], _ => rfl⟩
    law_greatest := ⟨_, d19, F19, He.glo_ok X G (c.fact 19 (f := .glo "_law_greatest") rfl), FunD.bindsN F19 fun _ _ _ _ _ _ us hl => match us, hl with | [_], _ => rfl⟩
    law_moved := ⟨_, d20, F20, He.glo_ok X G (c.fact 20 (f := .glo "_law_moved") rfl), FunD.bindsN F20 fun _ _ _ _ _ _ us hl => match us, hl with | [_, _, _], _ => rfl⟩
    law := ⟨_, d21, F21, He.glo_ok X G (c.fact 21 (f := .glo "law") rfl), FunD.bindsN F21 fun _ _ _ _ _ _ us hl => match us, hl with | [_], _ => rfl⟩
    z_abs := He.free_ok X G (c.fact 22 (f := .free "abs") rfl)
    z_bool := He.free_ok X G (c.fact 23 (f := .free "bool") rfl)
    z_divmod := He.free_ok X G (c.fact 24 (f := .free "divmod") rfl)
    z_int := He.free_ok X G (c.fact 25 (f := .free "int") rfl)
    z_isinstance := He.free_ok X G (c.fact 26 (f := .free "isinstance") rfl)
    z_len := He.free_ok X G (c.fact 27 (f := .free "len") rfl)
    z_max := He.free_ok X G (c.fact 28 (f := .free "max") rfl)
    z_min := He.free_ok X G (c.fact 29 (f := .free "min") rfl)
    z_range := He.free_ok X G (c.fact 30 (f := .free "range") rfl)
    z_tuple := He.free_ok X G (c.fact 31 (f := .free "tuple") rfl)
  }
  exact ⟨d21, fun s v => b s [v] rfl, fun base _ _ => ok_law T⟩

end W
open PySem PySem.W PySem.Calls PyProof.Rows
set_option maxHeartbeats 8000000 in
theorem PySem.Challenge.cw_restdraw_k41_hands_holds : PySem.Challenge.rw_restdraw_k41_hands.Holds := by
  w_on; o_law
  refine HandSHeadRun.head_any (r := W.Rw) (q := view W.Rw.prog [23]) (H := W.hkL) (ob := W.obL) (M := 1000) (loose := ["apart", "way", "sign_of", "hand", "_law_pot", "_law_digit", "_law_low", "_law_plus", "_law_less", "_law_times", "_law_sign", "_law_number", "_law_between", "_law_point", "_law_points", "_law_apart", "_law_hand", "_law_is", "_law_moved", "_law_greatest", "_law_right"]) (d := HandSHeadRun.topDef W.Rw.prog 23) (kwd := []) W.ob_eqL
    (by kernel_rfl) (fun s => by kernel_rfl) W.runL (by kernel_rfl) (by kernel_rfl) (by kernel_rfl) (by rfl) (by first | assumption | decide +kernel) (by decide +kernel) ⟨rfl, rfl, rfl, rfl, rfl, by decide +kernel⟩ ?hw ?hc
  case hw => w_witness2
  case hc =>
    refine L2.walk_ofE (l := PySem.Challenge.rw_restdraw_k41_hands) (n := 63) (k := 6) (x := "_law_script") (CX := L2.CX0) rfl (by decide) (by kernel_rfl) ⟨rfl, by decide, by decide⟩ ?F (fun _ _ _ _ z => z)
    intro w mg fa h Y G hmg0
    obtain ⟨K, KX, c⟩ := Y
    have hmg : mg ("law" : PySem.Str) = some (.ref fa) := by
      have e : (HandSHeadRun.topDef W.Rw.prog 23).name = ("law" : PySem.Str) := by kernel_rfl
      rw [← e]
      exact hmg0
    obtain ⟨fd, hb, hF⟩ := W.factsL (P := (PySem.Challenge.rw_restdraw_k41_hands).prog) (w := w) KX G hmg c
    exact ⟨K, fd, _, KX, hb, fun H a ns hl _ hS => DL.law_sp hS (W.law_true ns hl), hF⟩
