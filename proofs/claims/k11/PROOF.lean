import PyProof.Rows.All
import Wide.All
import OpenK.AllK
import Wide.FinOn
import HandS.ForMost
import HandS.Wide
import HandS.WideBits
import HandS.IsInst
import HandS.Words
import HandS.WordsExc
import HandS.Defaults
import HandS.Head0
import HandS.Head1
import HandS.Head2
import HandS.HeadEnd
import HandS.HeadHook1
import HandS.HeadHook2
import PySem.Challenge.RW_restdraw_k11_fractions_reckoned
set_option Elab.async false
set_option linter.all false
set_option autoImplicit false
set_option exponentiation.threshold 100000
set_option maxRecDepth 100000
set_option maxHeartbeats 4000000
/-! DL1: mirrors' monad, environments of slots, what is owned -/
namespace DL
open PySem PySem.Spec L2
/-- data, without places; scr: the script -/
inductive D where
  | none
  | bool (b : Bool)
  | int (i : Int)
  | str (s : Str)
  | list (xs : List D)
  | tuple (xs : List D)
  | dict (kvs : List (D × D))
  | scr (ns : List Int)

/-! ### the mirrors' monad -/
structure Exn where
  cls : String
  fld : Option D
inductive R (α : Type) where
  | ok (a : α)
  | err (e : Exn)
  | bad
namespace R
def bind {α β : Type} : R α → (α → R β) → R β
  | .ok a, f => f a
  | .err e, _ => .err e
  | .bad, _ => .bad
def post {α : Type} (m : R α) (φ : α → Prop) (ψ : Exn → Prop) : Prop := match m with
  | .ok a => φ a
  | .err e => ψ e
  | .bad => False
theorem post_bind {α β : Type} {m : R α} {f : α → R β} {φ : β → Prop} {ψ : Exn → Prop} : (m.bind f).post φ ψ ↔ m.post (fun a => (f a).post φ ψ) ψ := by
  cases m <;> exact Iff.rfl
theorem post_mono {α : Type} {m : R α} {φ φ' : α → Prop} {ψ : Exn → Prop} (h : m.post φ ψ) (k : ∀ a, φ a → φ' a) : m.post φ' ψ := by
  cases m with
  | ok a => exact k a h
  | err e => exact h
  | bad => exact h
/-- go on where it holds -/
def guard (c : Prop) [Decidable c] : R Unit := if c then .ok () else .bad
theorem post_guard {c : Prop} [Decidable c] {φ : Unit → Prop} {ψ : Exn → Prop} (h : (guard c).post φ ψ) : c ∧ φ () := by
  unfold guard at h
  by_cases hc : c
  · rw [if_pos hc] at h
    exact ⟨hc, h⟩
  · rw [if_neg hc] at h
    exact h.elim
/-- what must be there -/
def some {α : Type} : Option α → R α
  | .some a => .ok a
  | .none => .bad
theorem post_some {α : Type} {o : Option α} {φ : α → Prop} {ψ : Exn → Prop} (h : (some o).post φ ψ) : ∃ a, o = .some a ∧ φ a := by
  cases o with
  | none => exact h.elim
  | some a => exact ⟨a, rfl, h⟩
end R

/-! ### heaps that grow -/
def Ex (H H' : Hp) : Prop := ∀ a o, H a = some o → H' a = some o
theorem Ex.refl (H : Hp) : Ex H H := fun _ _ h => h
theorem Ex.trans {H H1 H2 : Hp} (a : Ex H H1) (b : Ex H1 H2) : Ex H H2 := fun x o h => b x o (a x o h)
theorem Ex.new {H : Hp} {p : Addr} {o : HO} (h : H p = none) : Ex H (upd H p o) := fun a u e => by
  rw [upd_ne (ne_of_none e h)]
  exact e
theorem Ex.upd {H H' : Hp} (e : Ex H H') (p : Addr) (o : HO) : Ex (upd H p o) (upd H' p o) := fun a u h => by
  by_cases ha : a = p
  · subst ha
    rw [upd_same] at h ⊢
    exact h
  · rw [upd_ne ha] at h ⊢
    exact e a u h
theorem Ex.rd {H H' : Hp} {a : Addr} {u : HO} (e : Ex H H') (h : Rd H a u) : Rd H' a u := by
  rcases h with h | ⟨o, h⟩
  · exact Or.inl (e a _ h)
  · exact Or.inr ⟨o, e a _ h⟩
theorem Ex.l {K : PySem.W.Frag} {H H' : Hp} {a : Addr} {xs : List V} (e : Ex H H') (h : SqL K H a xs) : SqL K H' a xs := by
  rcases h with h | h
  · exact Or.inl (e.rd h)
  · exact Or.inr h
theorem Ex.t {K : PySem.W.Frag} {H H' : Hp} {a : Addr} {xs : List V} (e : Ex H H') (h : SqT K H a xs) : SqT K H' a xs := by
  rcases h with h | h
  · exact Or.inl (e.rd h)
  · exact Or.inr h
theorem Ex.back {H H' : Hp} {p : Addr} (e : Ex H H') (h : H' p = none) : H p = none := by
  cases h1 : H p with
  | none => rfl
  | some o =>
    rw [e p o h1] at h
    cases h

/-! ### data in the heap (as Dp, and dicts) -/
mutual
inductive Rp (K : PySem.W.Frag) (G : Hp) : V → D → Prop
  | non : Rp K G .non .none
  | bl (b : Bool) : Rp K G (.bl b) (.bool b)
  | int (i : Int) : Rp K G (.int i) (.int i)
  | str (x : Str) : Rp K G (.str x) (.str x)
  | lst {a : Addr} {xs : List V} {ds : List D} : Rd G a (.lst xs) → RpAll K G xs ds → Rp K G (.ref a) (.list ds)
  | tup {a : Addr} {xs : List V} {ds : List D} : SqT K G a xs → RpAll K G xs ds → Rp K G (.ref a) (.tuple ds)
  | scr {a : Addr} {ns : List Int} : SqL K G a (ns.map V.int) → Rp K G (.ref a) (.scr ns)
  | dK {a : Addr} {kvs : List (Key × V)} {ds : List (D × D)} : G a = some (.dK kvs) → RpK K G kvs ds → Rp K G (.ref a) (.dict ds)
  | dT {a : Addr} {kvs : List (List Key × V)} {ds : List (D × D)} : G a = some (.dT kvs) → RpT K G kvs ds → Rp K G (.ref a) (.dict ds)
inductive RpAll (K : PySem.W.Frag) (G : Hp) : List V → List D → Prop
  | nil : RpAll K G [] []
  | cons {v : V} {vs : List V} {d : D} {ds : List D} : Rp K G v d → RpAll K G vs ds → RpAll K G (v :: vs) (d :: ds)
inductive RpK (K : PySem.W.Frag) (G : Hp) : List (Key × V) → List (D × D) → Prop
  | nil : RpK K G [] []
  | cons {k : Key} {v : V} {r : List (Key × V)} {d : D} {ds : List (D × D)} : Rp K G v d → RpK K G r ds → RpK K G ((k, v) :: r) ((match k with | .inl i => D.int i | .inr x => D.str x, d) :: ds)
inductive RpT (K : PySem.W.Frag) (G : Hp) : List (List Key × V) → List (D × D) → Prop
  | nil : RpT K G [] []
  | cons {k : List Key} {v : V} {r : List (List Key × V)} {d : D} {ds : List (D × D)} : Rp K G v d → RpT K G r ds → RpT K G ((k, v) :: r) ((D.tuple (k.map fun k => match k with | .inl i => D.int i | .inr x => D.str x), d) :: ds)
end
mutual
theorem Rp.ex {K : PySem.W.Frag} {G G' : Hp} (e : Ex G G') : ∀ {v : V} {d : D}, Rp K G v d → Rp K G' v d
  | _, _, .non => .non
  | _, _, .bl b => .bl b
  | _, _, .int i => .int i
  | _, _, .str x => .str x
  | _, _, .lst h r => .lst (e.rd h) (RpAll.ex e r)
  | _, _, .tup h r => .tup (e.t h) (RpAll.ex e r)
  | _, _, .scr h => .scr (e.l h)
  | _, _, .dK h r => .dK (e _ _ h) (RpK.ex e r)
  | _, _, .dT h r => .dT (e _ _ h) (RpT.ex e r)
theorem RpAll.ex {K : PySem.W.Frag} {G G' : Hp} (e : Ex G G') : ∀ {v : List V} {d : List D}, RpAll K G v d → RpAll K G' v d
  | _, _, .nil => .nil
  | _, _, .cons h r => .cons (Rp.ex e h) (RpAll.ex e r)
theorem RpK.ex {K : PySem.W.Frag} {G G' : Hp} (e : Ex G G') : ∀ {v : List (Key × V)} {d : List (D × D)}, RpK K G v d → RpK K G' v d
  | _, _, .nil => .nil
  | _, _, .cons h r => .cons (Rp.ex e h) (RpK.ex e r)
theorem RpT.ex {K : PySem.W.Frag} {G G' : Hp} (e : Ex G G') : ∀ {v : List (List Key × V)} {d : List (D × D)}, RpT K G v d → RpT K G' v d
  | _, _, .nil => .nil
  | _, _, .cons h r => .cons (Rp.ex e h) (RpT.ex e r)
end
section
variable {K : PySem.W.Frag} {G : Hp}
theorem Rp.int_inv {v : V} {i : Int} (h : Rp K G v (.int i)) : v = .int i := by
  cases h
  rfl
theorem Rp.bl_inv {v : V} {b : Bool} (h : Rp K G v (.bool b)) : v = .bl b := by
  cases h
  rfl
theorem Rp.str_inv {v : V} {b : Str} (h : Rp K G v (.str b)) : v = .str b := by
  cases h
  rfl
theorem Rp.non_inv {v : V} (h : Rp K G v .none) : v = .non := by
  cases h
  rfl
theorem Rp.lst_inv {v : V} {ds : List D} (h : Rp K G v (.list ds)) : ∃ a xs, v = .ref a ∧ Rd G a (.lst xs) ∧ RpAll K G xs ds := by
  cases h with
  | lst h r => exact ⟨_, _, rfl, h, r⟩
theorem Rp.tup_inv {v : V} {ds : List D} (h : Rp K G v (.tuple ds)) : ∃ a xs, v = .ref a ∧ SqT K G a xs ∧ RpAll K G xs ds := by
  cases h with
  | tup h r => exact ⟨_, _, rfl, h, r⟩
theorem RpAll.len : ∀ {vs : List V} {ds : List D}, RpAll K G vs ds → vs.length = ds.length
  | _, _, .nil => rfl
  | _, _, .cons _ r => by rw [List.length_cons, List.length_cons, RpAll.len r]
theorem RpAll.get : ∀ {vs : List V} {ds : List D} {i : Nat} {d : D}, RpAll K G vs ds → ds[i]? = some d → ∃ v, vs[i]? = some v ∧ Rp K G v d
  | _, _, _, _, .nil, e => by simp at e
  | _, _, 0, _, .cons h _, e => by
    simp at e
    subst e
    exact ⟨_, rfl, h⟩
  | _, _, i + 1, _, .cons _ r, e => by
    obtain ⟨v, h1, h2⟩ := RpAll.get (i := i) r (by simpa using e)
    exact ⟨v, by simpa using h1, h2⟩
theorem RpAll.getV : ∀ {vs : List V} {ds : List D} {i : Nat} {v : V}, RpAll K G vs ds → vs[i]? = some v → ∃ d, ds[i]? = some d ∧ Rp K G v d
  | _, _, _, _, .nil, e => by simp at e
  | _, _, 0, _, .cons h _, e => by
    simp at e
    subst e
    exact ⟨_, rfl, h⟩
  | _, _, i + 1, _, .cons _ r, e => by
    obtain ⟨v, h1, h2⟩ := RpAll.getV (i := i) r (by simpa using e)
    exact ⟨v, by simpa using h1, h2⟩
theorem RpAll.append : ∀ {vs ws : List V} {ds es : List D}, RpAll K G vs ds → RpAll K G ws es → RpAll K G (vs ++ ws) (ds ++ es)
  | _, _, _, _, .nil, s => s
  | _, _, _, _, .cons h r, s => .cons h (RpAll.append r s)
theorem RpAll.take : ∀ {vs : List V} {ds : List D} (n : Nat), RpAll K G vs ds → RpAll K G (vs.take n) (ds.take n)
  | _, _, 0, _ => by
    rw [List.take_zero, List.take_zero]
    exact .nil
  | _, _, _ + 1, .nil => .nil
  | _, _, n + 1, .cons h r => .cons h (RpAll.take n r)
theorem RpAll.drop : ∀ {vs : List V} {ds : List D} (n : Nat), RpAll K G vs ds → RpAll K G (vs.drop n) (ds.drop n)
  | _, _, 0, r => r
  | _, _, _ + 1, .nil => .nil
  | _, _, n + 1, .cons _ r => RpAll.drop n r
theorem RpAll.ints : ∀ {vs : List V} {ns : List Int}, RpAll K G vs (ns.map D.int) → vs = ns.map V.int
  | _, [], .nil => rfl
  | _, n :: ns, .cons h r => by
    rw [List.map_cons, ← RpAll.ints r, Rp.int_inv h]
theorem RpAll.of_ints : ∀ (ns : List Int), RpAll K G (ns.map V.int) (ns.map D.int)
  | [] => .nil
  | n :: ns => .cons (.int n) (RpAll.of_ints ns)
theorem RpAll.bools : ∀ {vs : List V} {ns : List Bool}, RpAll K G vs (ns.map D.bool) → vs = ns.map V.bl
  | _, [], .nil => rfl
  | _, n :: ns, .cons h r => by
    rw [List.map_cons, ← RpAll.bools r, Rp.bl_inv h]
end
/-! ### what is owned: a tree of lists, at places of their own -/
inductive OT where
  | dat (d : D)
  | lst (os : List OT)
mutual
inductive Own (K : PySem.W.Frag) (G H : Hp) : V → OT → List Addr → Prop
  | dat {v : V} {d : D} : Rp K G v d → Own K G H v (.dat d) []
  | lst {a : Addr} {vs : List V} {os : List OT} {A : List Addr} : H a = some (.lst vs) → OwnAll K G H vs os A → Own K G H (.ref a) (.lst os) (a :: A)
inductive OwnAll (K : PySem.W.Frag) (G H : Hp) : List V → List OT → List Addr → Prop
  | nil : OwnAll K G H [] [] []
  | cons {v : V} {vs : List V} {o : OT} {os : List OT} {A A' : List Addr} : Own K G H v o A → OwnAll K G H vs os A' → OwnAll K G H (v :: vs) (o :: os) (A ++ A')
end
mutual
/-- what is owned stays where its places and the data do -/
theorem Own.ex {K : PySem.W.Frag} {G G' H H' : Hp} (e : Ex G G') : ∀ {v : V} {o : OT} {A : List Addr}, Own K G H v o A → (∀ a ∈ A, ∀ u, H a = some u → H' a = some u) → Own K G' H' v o A
  | _, _, _, .dat h, _ => .dat (h.ex e)
  | _, _, _, .lst h r, k => .lst (k _ (List.mem_cons_self) _ h) (OwnAll.ex e r fun a m => k a (List.mem_cons_of_mem _ m))
theorem OwnAll.ex {K : PySem.W.Frag} {G G' H H' : Hp} (e : Ex G G') : ∀ {v : List V} {o : List OT} {A : List Addr}, OwnAll K G H v o A → (∀ a ∈ A, ∀ u, H a = some u → H' a = some u) → OwnAll K G' H' v o A
  | _, _, _, .nil, _ => .nil
  | _, _, _, .cons h r, k => .cons (Own.ex e h fun a m => k a (List.mem_append_left _ m)) (OwnAll.ex e r fun a m => k a (List.mem_append_right _ m))
end
mutual
def OT.toD : OT → D
  | .dat d => d
  | .lst os => .list (OT.toDs os)
def OT.toDs : List OT → List D
  | [] => []
  | o :: os => o.toD :: OT.toDs os
end
mutual
/-- it stands in the heap -/
theorem Own.there {K : PySem.W.Frag} {G H : Hp} : ∀ {v : V} {o : OT} {A : List Addr}, Own K G H v o A → ∀ a ∈ A, ∃ u, H a = some u
  | _, _, _, .dat _, _, m => nomatch m
  | _, _, _, .lst h r, a, m => by
    rcases List.mem_cons.mp m with rfl | m
    · exact ⟨_, h⟩
    · exact OwnAll.there r a m
theorem OwnAll.there {K : PySem.W.Frag} {G H : Hp} : ∀ {v : List V} {o : List OT} {A : List Addr}, OwnAll K G H v o A → ∀ a ∈ A, ∃ u, H a = some u
  | _, _, _, .nil, _, m => nomatch m
  | _, _, _, .cons h r, a, m => by
    rcases List.mem_append.mp m with m | m
    · exact Own.there h a m
    · exact OwnAll.there r a m
end
mutual
/-- owned things, made data -/
theorem Own.rp {K : PySem.W.Frag} {G G' H : Hp} (e : Ex G G') : ∀ {v : V} {o : OT} {A : List Addr}, Own K G H v o A → (∀ a ∈ A, ∀ u, H a = some u → G' a = some u) → Rp K G' v o.toD
  | _, _, _, .dat h, _ => by
    rw [OT.toD]
    exact h.ex e
  | _, _, _, .lst h r, k => by
    rw [OT.toD]
    exact .lst (Or.inl (k _ (List.mem_cons_self) _ h)) (OwnAll.rp e r fun a m => k a (List.mem_cons_of_mem _ m))
theorem OwnAll.rp {K : PySem.W.Frag} {G G' H : Hp} (e : Ex G G') : ∀ {v : List V} {o : List OT} {A : List Addr}, OwnAll K G H v o A → (∀ a ∈ A, ∀ u, H a = some u → G' a = some u) → RpAll K G' v (OT.toDs o)
  | _, _, _, .nil, _ => by
    rw [OT.toDs]
    exact .nil
  | _, _, _, .cons h r, k => by
    rw [OT.toDs]
    exact .cons (Own.rp e h fun a m => k a (List.mem_append_left _ m)) (OwnAll.rp e r fun a m => k a (List.mem_append_right _ m))
end
end DL

/-! DL2: environments -/
namespace DL
open PySem PySem.Spec L2

inductive Slot where
  | non
  | val (d : D)
  | own (l : Nat) (o : OT)
  | ali (j : Nat) (path : List Nat)

structure Base where
  H0 : Hp
  G0 : Hp
  Mo : Nat → List Addr
  m0 : Mo 0 = []
  pv : Nat → Option V
  rs : Exn → Prop

structure Anc (B : Base) (G H : Hp) : Prop where
  keep : ∀ a o, (∀ l, a ∉ B.Mo l) → B.H0 a = some o → H a = some o
  there : ∀ a l, a ∈ B.Mo l → H a ≠ none
  gsub : Ex B.G0 G
  gnew : ∀ a, B.H0 a ≠ none → B.G0 a = none → G a = none
  sub : Ex G H
theorem Anc.fresh {B : Base} {G H : Hp} (h : Anc B G H) {p : Addr} (hp : H p = none) : B.H0 p = none := by
  cases e : B.H0 p with
  | none => rfl
  | some o =>
    by_cases hm : ∃ l, p ∈ B.Mo l
    · obtain ⟨l, hm⟩ := hm
      exact absurd hp (h.there p l hm)
    · rw [h.keep p o (fun l m => hm ⟨l, m⟩) e] at hp
      cases hp
theorem Anc.new {B : Base} {G H : Hp} (h : Anc B G H) {p : Addr} (hp : H p = none) (o : HO) : Anc B (upd G p o) (upd H p o) := by
  have h0 := h.fresh hp
  refine ⟨fun a u hm e => ?_, fun a l hm => ?_, h.gsub.trans (Ex.new (h.sub.back hp)), fun a e1 e2 => ?_, h.sub.upd p o⟩
  · rw [upd_ne (ne_of_none (h.keep a u hm e) hp)]
    exact h.keep a u hm e
  · by_cases ha : a = p
    · subst ha
      rw [upd_same]
      exact fun z => nomatch z
    · rw [upd_ne ha]
      exact h.there a l hm
  · have ha : a ≠ p := fun z => by
      subst z
      exact e1 h0
    rw [upd_ne ha]
    exact h.gnew a e1 e2
/-- a change of what is nobody's data: the caller's own argument, or new here -/
theorem Anc.put {B : Base} {G H : Hp} (h : Anc B G H) {p : Addr} (hG : G p = none) (hp : (∃ l, p ∈ B.Mo l) ∨ B.H0 p = none) (o : HO) : Anc B G (upd H p o) := by
  refine ⟨fun a u hm e => ?_, fun a l hm => ?_, h.gsub, h.gnew, fun a u e => ?_⟩
  · have ha : a ≠ p := fun z => by
      subst z
      rcases hp with ⟨l, hp⟩ | hp
      · exact hm l hp
      · rw [hp] at e
        cases e
    rw [upd_ne ha]
    exact h.keep a u hm e
  · by_cases ha : a = p
    · subst ha
      rw [upd_same]
      exact fun z => nomatch z
    · rw [upd_ne ha]
      exact h.there a l hm
  · rw [upd_ne (ne_of_none e hG)]
    exact h.sub a u e
/-- what is new here is made data -/
theorem Anc.frz {B : Base} {G H : Hp} (h : Anc B G H) {A : List Addr} (hA : ∀ a ∈ A, G a = none ∧ B.H0 a = none) : Anc B (fun a => if a ∈ A then H a else G a) H := by
  refine ⟨h.keep, h.there, fun a u e => ?_, fun a e1 e2 => ?_, fun a u e => ?_⟩
  · by_cases ha : a ∈ A
    · have z := (hA a ha).1.symm.trans (h.gsub a u e)
      cases z
    · show (if a ∈ A then H a else G a) = _
      rw [if_neg ha]
      exact h.gsub a u e
  · show (if a ∈ A then H a else G a) = _
    by_cases ha : a ∈ A
    · exact absurd (hA a ha).2 e1
    · rw [if_neg ha]
      exact h.gnew a e1 e2
  · have e : (if a ∈ A then H a else G a) = some u := e
    by_cases ha : a ∈ A
    · rw [if_pos ha] at e
      exact e
    · rw [if_neg ha] at e
      exact h.sub a u e

/-- a value and its slot, with the places it owns -/
inductive Cell (K : PySem.W.Frag) (B : Base) (G H : Hp) : Option V → Slot → List Addr → Prop
  | non {x : Option V} : Cell K B G H x .non []
  | val {v : V} {d : D} : Rp K G v d → Cell K B G H (some v) (.val d) []
  | own {v : V} {l : Nat} {o : OT} {A : List Addr} : Own K G H v o A → (∀ a ∈ A, a ∈ B.Mo l ∨ B.H0 a = none) → (l = 0 ∨ B.pv l = some v) → Cell K B G H (some v) (.own l o) A
  | ali {x : Option V} {j : Nat} {p : List Nat} : Cell K B G H x (.ali j p) []
inductive Cells (K : PySem.W.Frag) (B : Base) (G H : Hp) : List (Option V) → List Slot → List Addr → Prop
  | nil : Cells K B G H [] [] []
  | cons {x : Option V} {s : Slot} {A : List Addr} {σ : St} {ρ : List Slot} {A' : List Addr} : Cell K B G H x s A → Cells K B G H σ ρ A' → Cells K B G H (x :: σ) (s :: ρ) (A ++ A')
section
variable {K : PySem.W.Frag} {B : Base} {G G' H H' : Hp}
theorem Cell.ex {x : Option V} {s : Slot} {A : List Addr} (h : Cell K B G H x s A) (e : Ex G G') (k : ∀ a ∈ A, ∀ u, H a = some u → H' a = some u) : Cell K B G' H' x s A := by
  cases h with
  | non => exact .non
  | val h => exact .val (h.ex e)
  | own h l z => exact .own (h.ex e k) l z
  | ali => exact .ali
theorem Cells.ex {σ : St} {ρ : List Slot} {A : List Addr} (h : Cells K B G H σ ρ A) (e : Ex G G') (k : ∀ a ∈ A, ∀ u, H a = some u → H' a = some u) : Cells K B G' H' σ ρ A := by
  induction h with
  | nil => exact .nil
  | cons c r ih => exact .cons (c.ex e fun a m => k a (List.mem_append_left _ m)) (ih fun a m => k a (List.mem_append_right _ m))
theorem Cell.there {x : Option V} {s : Slot} {A : List Addr} (h : Cell K B G H x s A) : ∀ a ∈ A, ∃ u, H a = some u := by
  cases h with
  | non => exact fun _ m => nomatch m
  | val h => exact fun _ m => nomatch m
  | own h l _ => exact h.there
  | ali => exact fun _ m => nomatch m
theorem Cells.there {σ : St} {ρ : List Slot} {A : List Addr} (h : Cells K B G H σ ρ A) : ∀ a ∈ A, ∃ u, H a = some u := by
  induction h with
  | nil => exact fun _ m => nomatch m
  | cons c r ih =>
    intro a m
    rcases List.mem_append.mp m with m | m
    · exact c.there a m
    · exact ih a m
theorem Cells.len {σ : St} {ρ : List Slot} {A : List Addr} (h : Cells K B G H σ ρ A) : σ.length = ρ.length := by
  induction h with
  | nil => rfl
  | cons c r ih => rw [List.length_cons, List.length_cons, ih]
/-- one cell of them, the rest apart -/
theorem Cells.get {σ : St} {ρ : List Slot} {A : List Addr} (h : Cells K B G H σ ρ A) : ∀ {i : Nat} {s : Slot}, ρ[i]? = some s → ∃ x A1, σ[i]? = some x ∧ Cell K B G H x s A1 ∧ A1.Sublist A := by
  induction h with
  | nil => exact fun e => nomatch e
  | cons c r ih =>
    intro i s e
    cases i with
    | zero =>
      simp at e
      subst e
      exact ⟨_, _, rfl, c, List.sublist_append_left _ _⟩
    | succ i =>
      obtain ⟨x, A1, h1, h2, h3⟩ := ih (i := i) (s := s) (by simpa using e)
      exact ⟨x, A1, by simpa using h1, h2, h3.trans (List.sublist_append_right _ _)⟩
/-- a cell put in the place of one of them -/
theorem Cells.set {σ : St} {ρ : List Slot} {A : List Addr} (h : Cells K B G H σ ρ A) {x : Option V} {s : Slot} {A1 : List Addr} (c : Cell K B G H x s A1) : ∀ {i : Nat}, i < ρ.length → ∃ A' C, Cells K B G H (σ.set i x) (ρ.set i s) A' ∧ A'.Perm (A1 ++ C) ∧ C.Sublist A := by
  induction h with
  | nil => exact fun e => absurd e (Nat.not_lt_zero _)
  | @cons x0 s0 A0 σ ρ A' c0 r ih =>
    intro i hi
    cases i with
    | zero => exact ⟨A1 ++ A', A', .cons c r, List.Perm.refl _, List.sublist_append_right _ _⟩
    | succ i =>
      obtain ⟨A2, C, h1, h2, h3⟩ := ih (i := i) (by simpa using hi)
      refine ⟨A0 ++ A2, A0 ++ C, .cons c0 h1, ?_, h3.append_left _⟩
      have e1 : (A0 ++ A2).Perm (A0 ++ (A1 ++ C)) := h2.append_left _
      have e2 : (A0 ++ (A1 ++ C)).Perm (A1 ++ (A0 ++ C)) := by
        rw [← List.append_assoc, ← List.append_assoc]
        exact List.perm_append_comm.append_right C
      exact e1.trans e2
/-- two cells: apart -/
theorem Cells.swap2 {σ : St} {ρ : List Slot} {A : List Addr} {x y : Option V} {s t : Slot} (h : Cells K B G H (x :: y :: σ) (s :: t :: ρ) A) : ∃ A', Cells K B G H (y :: x :: σ) (t :: s :: ρ) A' ∧ A'.Perm A := by
  cases h with
  | cons c r =>
    cases r with
    | cons d r =>
      refine ⟨_, .cons d (.cons c r), ?_⟩
      rw [← List.append_assoc, ← List.append_assoc]
      exact List.perm_append_comm.append_right _
end
/-- slots forgotten: each is as it was or nothing is known -/
def forgot : List Slot → List Bool → List Slot
  | [], _ => []
  | s :: ρ, [] => s :: ρ
  | s :: ρ, b :: bs => (if b then s else .non) :: forgot ρ bs
theorem Cells.forgot {K : PySem.W.Frag} {B : Base} {G H : Hp} : ∀ {σ : St} {ρ : List Slot} {A : List Addr} (bs : List Bool), Cells K B G H σ ρ A → ∃ A', Cells K B G H σ (forgot ρ bs) A' ∧ A'.Sublist A
  | _, _, _, _, .nil => ⟨[], .nil, List.Sublist.refl _⟩
  | _, _, _, [], .cons c r => ⟨_, .cons c r, List.Sublist.refl _⟩
  | _, _, _, true :: bs, .cons c r => by
    obtain ⟨A', h1, h2⟩ := Cells.forgot bs r
    exact ⟨_, .cons c h1, h2.append_left _⟩
  | _, _, _, false :: bs, .cons c r => by
    obtain ⟨A', h1, h2⟩ := Cells.forgot bs r
    exact ⟨_, .cons (s := .non) .non h1, h2.trans (List.sublist_append_right _ _)⟩
theorem forgot_len : ∀ (ρ : List Slot) (bs : List Bool), (forgot ρ bs).length = ρ.length
  | [], _ => rfl
  | _ :: _, [] => rfl
  | _ :: ρ, b :: bs => by rw [forgot, List.length_cons, List.length_cons, forgot_len ρ bs]
theorem forgot_get : ∀ (ρ : List Slot) (bs : List Bool) (i : Nat) (s : Slot), (forgot ρ bs)[i]? = some s → s = .non ∨ ρ[i]? = some s
  | [], _, _, _, e => nomatch e
  | _ :: _, [], _, _, e => .inr e
  | s0 :: ρ, b :: bs, 0, s, e => by
    cases b with
    | true => exact .inr e
    | false =>
      simp [forgot] at e
      exact .inl e.symm
  | s0 :: ρ, b :: bs, i + 1, s, e => by
    have e : (forgot ρ bs)[i]? = some s := by simpa [forgot] using e
    rcases forgot_get ρ bs i s e with h | h
    · exact .inl h
    · exact .inr (by simpa using h)

/-- going down from a value along places of lists -/
def At (H : Hp) : V → List Nat → V → Prop
  | v, [], w => v = w
  | v, k :: ks, w => ∃ a vs u, v = .ref a ∧ H a = some (.lst vs) ∧ vs[k]? = some u ∧ At H u ks w
theorem At.ex {H H' : Hp} (e : Ex H H') : ∀ {p : List Nat} {v w : V}, At H v p w → At H' v p w
  | [], _, _, h => h
  | _ :: _, _, _, ⟨a, vs, u, h1, h2, h3, h4⟩ => ⟨a, vs, u, h1, e _ _ h2, h3, At.ex e h4⟩

structure En (K : PySem.W.Frag) (B : Base) (G H : Hp) (σ : St) (ρ : List Slot) (ex : List (V × Slot)) : Prop where
  anc : Anc B G H
  own : ∃ A, Cells K B G H (ex.map (fun p => some p.1) ++ σ) (ex.map (·.2) ++ ρ) A ∧ A.Nodup ∧ ∀ a ∈ A, G a = none
  len : σ.length = ρ.length
  ali : ∀ (i j : Nat) (p : List Nat), ρ[i]? = some (Slot.ali j p) → ∃ v w, σ[i]? = some (some v) ∧ σ[j]? = some (some w) ∧ At H w p v
def noAli (j : Nat) : List Slot → Bool
  | [] => true
  | .ali i _ :: r => i != j && noAli j r
  | _ :: r => noAli j r
theorem noAli_get {j : Nat} : ∀ {ρ : List Slot}, noAli j ρ = true → ∀ {i k : Nat} {p : List Nat}, ρ[i]? = some (.ali k p) → k ≠ j
  | [], _, _, _, _, e => nomatch e
  | s :: ρ, h, 0, k, p, e => by
    simp at e
    subst e
    simp [noAli] at h
    exact h.1
  | s :: ρ, h, i + 1, k, p, e => by
    have h' : noAli j ρ = true := by
      cases s <;> simp [noAli] at h
      · exact h
      · exact h
      · exact h
      · exact h.2
    exact noAli_get h' (i := i) (by simpa using e)
section
variable {K : PySem.W.Frag} {B : Base} {G G' H H' : Hp} {σ : St} {ρ : List Slot} {ex : List (V × Slot)}
theorem En.fresh (E : En K B G H σ ρ ex) {p : Addr} (hp : H p = none) : B.H0 p = none := E.anc.fresh hp
theorem En.sub (E : En K B G H σ ρ ex) : Ex G H := E.anc.sub
theorem En.get (E : En K B G H σ ρ ex) {i : Nat} {d : D} (h : ρ[i]? = some (.val d)) : ∃ v, σ[i]? = some (some v) ∧ Rp K G v d := by
  obtain ⟨A, c, _, _⟩ := E.own
  obtain ⟨x, A1, h1, h2, _⟩ := c.get (i := ex.length + i) (s := .val d) (by
    rw [List.getElem?_append_right (by simp), List.length_map]
    simpa using h)
  rw [List.getElem?_append_right (by simp), List.length_map] at h1
  cases h2 with
  | val r => exact ⟨_, by simpa using h1, r⟩
/-- the top temp -/
theorem En.top {v : V} {d : D} (E : En K B G H σ ρ ((v, .val d) :: ex)) : Rp K G v d := by
  obtain ⟨A, c, _, _⟩ := E.own
  cases c with
  | cons c r =>
    cases c with
    | val h => exact h
theorem En.pop {x : V × Slot} (E : En K B G H σ ρ (x :: ex)) : En K B G H σ ρ ex := by
  obtain ⟨A, c, n, f⟩ := E.own
  cases c with
  | cons c r => exact ⟨E.anc, ⟨_, r, (List.nodup_append.mp n).2.1, fun a m => f a (List.mem_append_right _ m)⟩, E.len, E.ali⟩
theorem En.push {v : V} {d : D} (E : En K B G H σ ρ ex) (h : Rp K G v d) : En K B G H σ ρ ((v, .val d) :: ex) := by
  obtain ⟨A, c, n, f⟩ := E.own
  exact ⟨E.anc, ⟨[] ++ A, .cons (.val h) c, n, f⟩, E.len, E.ali⟩
/-- temps of data may come and go -/
theorem En.swap {x y : V × Slot} (E : En K B G H σ ρ (x :: y :: ex)) : En K B G H σ ρ (y :: x :: ex) := by
  obtain ⟨A, c, n, f⟩ := E.own
  obtain ⟨A', c', p⟩ := c.swap2
  exact ⟨E.anc, ⟨A', c', p.nodup_iff.mpr n, fun a m => f a (p.mem_iff.mp m)⟩, E.len, E.ali⟩
/-- a new thing that never changes -/
theorem En.new (E : En K B G H σ ρ ex) {p : Addr} (hp : H p = none) (o : HO) : En K B (upd G p o) (upd H p o) σ ρ ex := by
  obtain ⟨A, c, n, f⟩ := E.own
  have hG := E.sub.back hp
  refine ⟨E.anc.new hp o, ⟨A, c.ex (Ex.new hG) fun a m u e => Ex.new hp a u e, n, fun a m => ?_⟩, E.len, fun i j q e => ?_⟩
  · obtain ⟨u, hu⟩ := c.there a m
    rw [upd_ne (ne_of_none hu hp)]
    exact f a m
  · obtain ⟨v, w, h1, h2, h3⟩ := E.ali i j q e
    exact ⟨v, w, h1, h2, h3.ex (Ex.new hp)⟩
/-- a new list of data, owned -/
theorem En.newL (E : En K B G H σ ρ ex) {p : Addr} (hp : H p = none) {vs : List V} {ds : List D} (r : RpAll K G vs ds) : En K B G (upd H p (.lst vs)) σ ρ ((.ref p, .own 0 (.lst (ds.map OT.dat))) :: ex) := by
  obtain ⟨A, c, n, f⟩ := E.own
  have hG := E.sub.back hp
  have h0 := E.fresh hp
  have ra : ∀ {vs : List V} {ds : List D}, RpAll K G vs ds → OwnAll K G (upd H p (.lst vs)) vs (ds.map OT.dat) [] := fun {vs ds} r => by
    have gen : ∀ (H' : Hp) {vs : List V} {ds : List D}, RpAll K G vs ds → OwnAll K G H' vs (ds.map OT.dat) [] := fun H' {vs ds} r => by
      induction ds generalizing vs with
      | nil =>
        cases r
        exact .nil
      | cons d ds ih =>
        cases r with
        | cons h r => exact .cons (A := []) (.dat h) (ih r)
    exact gen _ r
  have hn : p ∉ A := fun m => by
    obtain ⟨u, hu⟩ := c.there p m
    rw [hu] at hp
    cases hp
  refine ⟨E.anc.put hG (.inr h0) _, ⟨p :: ([] ++ A), .cons (A := [p]) (.own (.lst upd_same (ra r)) (fun a m => by
      rw [List.mem_singleton.mp m]
      exact .inr h0) (.inl rfl)) (c.ex (Ex.refl G) fun a m u e => by
      rw [upd_ne (ne_of_none e hp)]
      exact e), ?_, fun a m => ?_⟩, E.len, fun i j q e => ?_⟩
  · exact List.nodup_cons.mpr ⟨hn, n⟩
  · rcases List.mem_cons.mp m with rfl | m
    · exact hG
    · exact f a m
  · obtain ⟨v, w, h1, h2, h3⟩ := E.ali i j q e
    exact ⟨v, w, h1, h2, h3.ex (Ex.new hp)⟩
/-- what is owned here becomes data -/
theorem En.frz {v : V} {o : OT} (E : En K B G H σ ρ ((v, .own 0 o) :: ex)) : ∃ G', Ex G G' ∧ En K B G' H σ ρ ((v, .val o.toD) :: ex) := by
  obtain ⟨A, c, n, f⟩ := E.own
  cases c with
  | @cons _ _ A1 _ _ A2 c r =>
    cases c with
    | own h l _ =>
      have n1 := List.nodup_append.mp n
      have hA : ∀ a ∈ A1, G a = none ∧ B.H0 a = none := fun a m => ⟨f a (List.mem_append_left _ m), (l a m).resolve_left (by rw [B.m0]; exact fun z => nomatch z)⟩
      have eG : Ex G fun a => if a ∈ A1 then H a else G a := fun a u e => by
        show (if a ∈ A1 then H a else G a) = _
        by_cases ha : a ∈ A1
        · rw [(hA a ha).1] at e
          cases e
        · rw [if_neg ha]
          exact e
      refine ⟨_, eG, E.anc.frz hA, ⟨[] ++ A2, .cons (.val (h.rp eG fun a m u e => by
          show (if a ∈ A1 then H a else G a) = _
          rw [if_pos m]
          exact e)) (r.ex eG fun _ _ _ e => e), n1.2.1, fun a m => ?_⟩, E.len, E.ali⟩
      have ha : a ∉ A1 := fun z => n1.2.2 a z a m rfl
      show (if a ∈ A1 then H a else G a) = _
      rw [if_neg ha]
      exact f a (List.mem_append_right _ m)
/-- the top temp goes into slot i -/
theorem En.set {v : V} {s : Slot} (E : En K B G H σ ρ [(v, s)]) {i : Nat} (hi : i < ρ.length) (hs : ∀ j p, s ≠ .ali j p) (ha : noAli i ρ = true) : En K B G H (σ.set i (some v)) (ρ.set i s) [] := by
  obtain ⟨A, c, n, f⟩ := E.own
  cases c with
  | @cons _ _ A1 _ _ A2 c r =>
    obtain ⟨A', C, h1, h2, h3⟩ := Cells.set r c hi
    have sub : (A1 ++ C).Sublist (A1 ++ A2) := h3.append_left A1
    refine ⟨E.anc, ⟨A', h1, h2.nodup_iff.mpr (sub.nodup n), fun a m => f a (sub.subset (h2.mem_iff.mp m))⟩, by rw [List.length_set, List.length_set]; exact E.len, fun k j p e => ?_⟩
    by_cases hk : i = k
    · subst hk
      rw [List.getElem?_set_self hi] at e
      cases e
      exact absurd rfl (hs j p)
    · rw [List.getElem?_set_ne hk] at e
      obtain ⟨v', w, q1, q2, q3⟩ := E.ali k j p e
      have hj := noAli_get ha e
      exact ⟨v', w, by rw [List.getElem?_set_ne hk]; exact q1, by rw [List.getElem?_set_ne (Ne.symm hj)]; exact q2, q3⟩
theorem En.forgot (E : En K B G H σ ρ []) (bs : List Bool) : En K B G H σ (forgot ρ bs) [] := by
  obtain ⟨A, c, n, f⟩ := E.own
  obtain ⟨A', h1, h2⟩ := Cells.forgot bs c
  refine ⟨E.anc, ⟨A', h1, h2.nodup n, fun a m => f a (h2.subset m)⟩, by rw [forgot_len]; exact E.len, fun i j p e => ?_⟩
  rcases forgot_get ρ bs i _ e with z | z
  · cases z
  · exact E.ali i j p z
end

/-! ### cells taken out and put back -/
section
variable {K : PySem.W.Frag} {B : Base} {G G' H H' : Hp}
theorem Cells.take1 {σ : L2.St} {ρ : List Slot} {A : List Addr} (h : Cells K B G H σ ρ A) : ∀ {i : Nat} {l : Nat} {o : OT}, ρ[i]? = some (.own l o) →
    ∃ v A1 A2, σ[i]? = some (some v) ∧ Own K G H v o A1 ∧ ((∀ a ∈ A1, a ∈ B.Mo l ∨ B.H0 a = none) ∧ (l = 0 ∨ B.pv l = some v)) ∧ Cells K B G H σ (ρ.set i .non) A2 ∧ A.Perm (A1 ++ A2) := by
  induction h with
  | nil => exact fun e => nomatch e
  | @cons x0 s0 A0 σ ρ A' c0 r ih =>
    intro i l o e
    cases i with
    | zero =>
      simp at e
      subst e
      cases c0 with
      | own hO hl hv => exact ⟨_, A0, [] ++ A', rfl, hO, ⟨hl, hv⟩, .cons (.non) r, List.Perm.refl _⟩
    | succ i =>
      obtain ⟨v, A1, A2, h1, h2, h3, h4, h5⟩ := ih (i := i) (l := l) (o := o) (by simpa using e)
      refine ⟨v, A1, A0 ++ A2, by simpa using h1, h2, h3, .cons c0 h4, ?_⟩
      have e1 : (A0 ++ A').Perm (A0 ++ (A1 ++ A2)) := h5.append_left _
      have e2 : (A0 ++ (A1 ++ A2)).Perm (A1 ++ (A0 ++ A2)) := by
        rw [← List.append_assoc, ← List.append_assoc]
        exact List.perm_append_comm.append_right A2
      exact e1.trans e2
theorem Cells.put1 {σ : L2.St} {ρ : List Slot} {A : List Addr} (h : Cells K B G H σ ρ A) : ∀ {i : Nat} {l : Nat} {o : OT} {v : V} {A1 : List Addr}, ρ[i]? = some .non → σ[i]? = some (some v) → Own K G H v o A1 → ((∀ a ∈ A1, a ∈ B.Mo l ∨ B.H0 a = none) ∧ (l = 0 ∨ B.pv l = some v)) →
    ∃ A2, Cells K B G H σ (ρ.set i (.own l o)) A2 ∧ A2.Perm (A1 ++ A) := by
  induction h with
  | nil => exact fun e => nomatch e
  | @cons x0 s0 A0 σ ρ A' c0 r ih =>
    intro i l o v A1 e e2 hO hl
    cases i with
    | zero =>
      simp at e
      subst e
      simp at e2
      subst e2
      cases c0
      exact ⟨A1 ++ A', .cons (.own hO hl.1 hl.2) r, by
        rw [List.nil_append]⟩
    | succ i =>
      obtain ⟨A2, h4, h5⟩ := ih (i := i) (l := l) (by simpa using e) (by simpa using e2) hO hl
      refine ⟨A0 ++ A2, .cons c0 h4, ?_⟩
      have e1 : (A0 ++ A2).Perm (A0 ++ (A1 ++ A')) := h5.append_left _
      have e2 : (A0 ++ (A1 ++ A')).Perm (A1 ++ (A0 ++ A')) := by
        rw [← List.append_assoc, ← List.append_assoc]
        exact List.perm_append_comm.append_right A'
      exact e1.trans e2
end
end DL

/-! DL3: the judgements; expressions -/
namespace DL
open PySem PySem.Spec L2

section
variable {X : Cx} {B : Base}
theorem PE_imp {e : Expr} {t t' : TE} (h : PE X e t) (k : ∀ σ H Q, t' σ H Q → t σ H Q) : PE X e t' := ⟨fun pins s σ H Q I q => h.run pins s σ H Q I (k σ H Q q)⟩
theorem PT_imp {e : Expr} {t t' : TT} (h : PT X e t) (k : ∀ σ H Q, t' σ H Q → t σ H Q) : PT X e t' := ⟨fun pins s σ H Q I q => h.run pins s σ H Q I (k σ H Q q)⟩
theorem PW_imp {e : Expr} {t t' : TT} (h : PW X e t) (k : ∀ σ H Q, t' σ H Q → t σ H Q) : PW X e t' := ⟨fun wh pins s σ H Q I q => h.run wh pins s σ H Q I (k σ H Q q)⟩
theorem PA_imp {e : List Expr} {t t' : TA} (h : PA X e t) (k : ∀ σ H Q, t' σ H Q → t σ H Q) : PA X e t' := ⟨fun pos pins s σ H Q I q => h.run pos pins s σ H Q I (k σ H Q q)⟩
theorem PS_imp {e : Stmt} {t t' : TS} (h : PS X e t) (k : ∀ D σ H, t' D σ H → t D σ H) : PS X e t' := ⟨fun pins s σ H D I q => h.run pins s σ H D I (k D σ H q)⟩
theorem PSs_imp {e : List Stmt} {t t' : TS} (h : PSs X e t) (k : ∀ D σ H, t' D σ H → t D σ H) : PSs X e t' := ⟨fun pins s σ H D I q => h.run pins s σ H D I (k D σ H q)⟩
end

/-- an expression: its mirror, the slot of its value, the slots behind it -/
def tJ (K : PySem.W.Frag) (B : Base) (ρ : List Slot) {β : Type} (m : R β) (sl : β → Slot) (ρ' : β → List Slot) : TE := fun σ H Q =>
  ∃ G, En K B G H σ ρ [] ∧ m.post (fun b => ∀ v G' H', Ex G G' → En K B G' H' σ (ρ' b) [(v, sl b)] → Q v H') B.rs
def JE (X : Cx) (B : Base) (ρ : List Slot) (e : Expr) {β : Type} (m : R β) (sl : β → Slot) (ρ' : β → List Slot) : Prop := PE X e (tJ X.K B ρ m sl ρ')
/-- one that changes nothing, fails never, and gives data -/
abbrev JP (X : Cx) (B : Base) (ρ : List Slot) (e : Expr) (d : D) : Prop := JE X B ρ e (.ok ()) (fun _ => .val d) (fun _ => ρ)
def tJT (K : PySem.W.Frag) (B : Base) (ρ : List Slot) {β : Type} (m : R β) (bn : β → Bool) (ρ' : β → List Slot) : TT := fun σ H Q =>
  ∃ G, En K B G H σ ρ [] ∧ m.post (fun b => ∀ G' H', Ex G G' → En K B G' H' σ (ρ' b) [] → Q (bn b) H') B.rs
def JT (X : Cx) (B : Base) (ρ : List Slot) (e : Expr) {β : Type} (m : R β) (bn : β → Bool) (ρ' : β → List Slot) : Prop := PT X e (tJT X.K B ρ m bn ρ')
def JW (X : Cx) (B : Base) (ρ : List Slot) (e : Expr) {β : Type} (m : R β) (bn : β → Bool) (ρ' : β → List Slot) : Prop := PW X e (tJT X.K B ρ m bn ρ')
abbrev TP0 (X : Cx) (B : Base) (ρ : List Slot) (e : Expr) (b : Bool) : Prop := JT X B ρ e (.ok ()) (fun _ => b) (fun _ => ρ)
/-- arguments: data, or an owned slot -/
inductive Ar where
  | val (d : D)
  | slot (i : Nat)
inductive ArOk (K : PySem.W.Frag) (G : Hp) (σ : L2.St) : List V → List Ar → Prop
  | nil : ArOk K G σ [] []
  | val {v : V} {d : D} {vs : List V} {as : List Ar} : Rp K G v d → ArOk K G σ vs as → ArOk K G σ (v :: vs) (.val d :: as)
  | slot {v : V} {i : Nat} {vs : List V} {as : List Ar} : σ[i]? = some (some v) → ArOk K G σ vs as → ArOk K G σ (v :: vs) (.slot i :: as)
theorem ArOk.ex {K : PySem.W.Frag} {G G' : Hp} {σ : L2.St} {vs : List V} {as : List Ar} (h : ArOk K G σ vs as) (e : Ex G G') : ArOk K G' σ vs as := by
  induction h with
  | nil => exact .nil
  | val h _ ih => exact .val (h.ex e) ih
  | slot h _ ih => exact .slot h ih
def tJA (K : PySem.W.Frag) (B : Base) (ρ : List Slot) {β : Type} (m : R β) (as : β → List Ar) (ρ' : β → List Slot) : TA := fun σ H Q =>
  ∃ G, En K B G H σ ρ [] ∧ m.post (fun b => ∀ vs G' H', Ex G G' → En K B G' H' σ (ρ' b) [] → ArOk K G' σ vs (as b) → Q vs H') B.rs
def JA (X : Cx) (B : Base) (ρ : List Slot) (es : List Expr) {β : Type} (m : R β) (as : β → List Ar) (ρ' : β → List Slot) : Prop := PA X es (tJA X.K B ρ m as ρ')

section
variable {X : Cx} {B : Base} {ρ : List Slot} {a b e : Expr} {pos : Pos}
theorem post_ok {α : Type} {x : α} {φ : α → Prop} {ψ : Exn → Prop} : (R.ok x).post φ ψ ↔ φ x := Iff.rfl

/-! ### names, constants -/
theorem jp_of {t : TE} {d : D} (h : PE X e t) (k : ∀ σ G H Q, En X.K B G H σ ρ [] → (∀ v G' H', Ex G G' → En X.K B G' H' σ ρ [(v, .val d)] → Q v H') → t σ H Q) : JP X B ρ e d :=
  PE_imp h fun σ H Q ⟨G, E, q⟩ => k σ G H Q E q
theorem jp_var (i : Nat) {x : Str} {d : D} (h : ρ[i]? = some (.val d) := by rfl) (hN : X.N[i]? = some x := by rfl) (hv : Vis X.env.scope x := by first | exact Or.inl rfl | exact Or.inr (Or.inl rfl) | exact Or.inr (Or.inr rfl))
    (hd : (x == ("__debug__" : Str)) = false := by decide) (hcd : (x == ("__classdict__" : Str)) = false := by decide) : JP X B ρ (.Name x pos) d :=
  jp_of (pv i hN hv hd hcd) fun σ G H Q E q => by
    obtain ⟨v, h1, h2⟩ := E.get h
    exact ⟨v, h1, q v G H (Ex.refl G) (E.push h2)⟩
theorem jp_int {i : Int} {j : Nat} : JP X B ρ (.Constant (.int i) j pos) (.int i) := jp_of pe_int fun σ G H Q E q => q _ G H (Ex.refl G) (E.push (.int i))
theorem jp_bl {b : Bool} {j : Nat} : JP X B ρ (.Constant (.bool b) j pos) (.bool b) := jp_of pe_bl fun σ G H Q E q => q _ G H (Ex.refl G) (E.push (.bl b))
theorem jp_non {j : Nat} : JP X B ρ (.Constant .none j pos) .none := jp_of pe_non fun σ G H Q E q => q _ G H (Ex.refl G) (E.push .non)
theorem jp_str {x : Str} {j : Nat} : JP X B ρ (.Constant (.str x) j pos) (.str x) := jp_of pe_str fun σ G H Q E q => q _ G H (Ex.refl G) (E.push (.str x))
/-- the result of an own expression, as data -/
theorem je_frz {β : Type} {m : R β} {o : β → OT} {ρ' : β → List Slot} (h : JE X B ρ e m (fun b => .own 0 (o b)) ρ') : JE X B ρ e m (fun b => .val (o b).toD) ρ' :=
  PE_imp h fun σ H Q ⟨G, E, q⟩ => ⟨G, E, R.post_mono q fun b k v G' H' x E' => by
    obtain ⟨G2, x2, E2⟩ := E'.frz
    exact k v G2 H' (x.trans x2) E2⟩
/-- the same mirror by another name -/
theorem je_eq {β : Type} {m m' : R β} {sl : β → Slot} {ρ' : β → List Slot} (h : JE X B ρ e m sl ρ') (k : m' = m) : JE X B ρ e m' sl ρ' := by
  rw [k]
  exact h

/-! ### operators by data -/
/-- what a two-place operation makes of data -/
def OpD (K : PySem.W.Frag) (B : Base) (r : R2) (x y : D) {γ : Type} (mr : R γ) (s : γ → Slot) : Prop :=
  ∀ G H σ ρ vx vy Q, En K B G H σ ρ [] → Rp K G vx x → Rp K G vy y → mr.post (fun z => ∀ v G' H', Ex G G' → En K B G' H' σ ρ [(v, s z)] → Q v H') B.rs → r vx vy H Q
theorem od_val {K : PySem.W.Frag} {r : R2} {x y z : D} {c : Prop} [Decidable c] {w : V} (h : c → ∀ G H vx vy Q, Ex G H → Rp K G vx x → Rp K G vy y → Q w H → r vx vy H Q) (hw : ∀ G, Rp K G w z) : OpD K B r x y (R.guard c) (fun _ => .val z) :=
  fun G H σ ρ vx vy Q E hx hy q => by
    obtain ⟨hc, q⟩ := R.post_guard q
    exact h hc G H vx vy Q E.sub hx hy (q w G H (Ex.refl G) (E.push (hw G)))
theorem od_val0 {K : PySem.W.Frag} {r : R2} {x y z : D} {w : V} (h : ∀ G H vx vy Q, Ex G H → Rp K G vx x → Rp K G vy y → Q w H → r vx vy H Q) (hw : ∀ G, Rp K G w z) : OpD K B r x y (.ok ()) (fun _ => .val z) :=
  fun G H σ ρ vx vy Q E hx hy q => h G H vx vy Q E.sub hx hy (q w G H (Ex.refl G) (E.push (hw G)))
def op2 {α β γ : Type} (ma : R α) (mb : α → R β) (mr : α → β → R γ) : R (α × β × γ) := ma.bind fun x => (mb x).bind fun y => (mr x y).bind fun z => .ok (x, y, z)
theorem je_op2 {r : R2} (ht : ∀ ta tb, PE X a ta → PE X b tb → PE X e (tOp r ta tb)) {α β γ : Type} {ma : R α} {mb : α → R β} {xa : α → D} {xb : α → β → D} {ρa : α → List Slot} {ρb : α → β → List Slot} {mr : α → β → R γ} {s : α → β → γ → Slot}
    (ha : JE X B ρ a ma (fun x => .val (xa x)) ρa) (hb : ∀ x, JE X B (ρa x) b (mb x) (fun y => .val (xb x y)) (ρb x)) (hr : ∀ x y, OpD X.K B r (xa x) (xb x y) (mr x y) (s x y)) :
    JE X B ρ e (op2 ma mb mr) (fun p => s p.1 p.2.1 p.2.2) (fun p => ρb p.1 p.2.1) := by
  have hb' : PE X b (fun σ H Q => ∃ x, tJ X.K B (ρa x) (mb x) (fun y => .val (xb x y)) (ρb x) σ H Q) := ⟨fun pins s σ H Q I ⟨x, q⟩ => (hb x).run pins s σ H Q I q⟩
  refine PE_imp (ht _ _ ha hb') fun σ H Q ⟨G, E, q⟩ => ?_
  refine ⟨G, E, R.post_mono (R.post_bind.mp q) fun x q1 vx G1 H1 x1 E1 => ?_⟩
  refine ⟨x, G1, E1.pop, R.post_mono (R.post_bind.mp q1) fun y q2 vy G2 H2 x2 E2 => ?_⟩
  exact hr x y G2 H2 σ (ρb x y) vx vy Q E2.pop (E1.top.ex x2) E2.top (R.post_mono (R.post_bind.mp q2) fun z q3 v G3 H3 x3 E3 => q3 v G3 H3 (x1.trans (x2.trans x3)) E3)
/-- both pure -/
theorem je_op {r : R2} (ht : ∀ ta tb, PE X a ta → PE X b tb → PE X e (tOp r ta tb)) {x y : D} {γ : Type} {mr : R γ} {s : γ → Slot} (ha : JP X B ρ a x) (hb : JP X B ρ b y) (hr : OpD X.K B r x y mr s) : JE X B ρ e mr s (fun _ => ρ) := by
  refine PE_imp (ht _ _ ha hb) fun σ H Q ⟨G, E, q⟩ => ?_
  refine ⟨G, E, fun vx G1 H1 x1 E1 => ?_⟩
  refine ⟨G1, E1.pop, fun vy G2 H2 x2 E2 => ?_⟩
  exact hr G2 H2 σ ρ vx vy Q E2.pop (E1.top.ex x2) E2.top (R.post_mono q fun z q v G3 H3 x3 E3 => q v G3 H3 (x1.trans (x2.trans x3)) E3)

/-! ### int operators -/
/-- what C's division does by itself -/
def divOk (i j : Int) : Prop := j ≠ 0 ∧ Builtin.divisionGoesByPylong i j = false
instance {i j : Int} : Decidable (divOk i j) := by unfold divOk; infer_instance
def powOk (i j : Int) : Prop := 0 ≤ j ∧ j ≤ 1000000 ∧ i.natAbs < 2 ^ 64
instance {i j : Int} : Decidable (powOk i j) := by unfold powOk; infer_instance
instance {i j : Int} : Decidable (CPow i j) := by unfold CPow; infer_instance
instance {i j : Int} : Decidable (CMulX i j) := by unfold CMulX; infer_instance
theorem op_fdivZ : OpR X (binaryOp .FloorDiv) (rI divOk fun i j => .int (i.fdiv j)) := opI fun i j _ _ _ _ _ hc q => PyProof.Rows.floordiv_int hc.1 q (.inl hc.2)
section
variable {K : PySem.W.Frag} {i j : Int}
theorem od_I0 {g : Int → Int → V} {z : D} (hz : ∀ G, Rp K G (g i j) z) : OpD K B (rI0 g) (.int i) (.int j) (.ok ()) (fun _ => .val z) :=
  od_val0 (fun G H vx vy Q _ hx hy q => ⟨i, j, hx.int_inv, hy.int_inv, q⟩) hz
theorem od_I {C : Int → Int → Prop} [Decidable (C i j)] {g : Int → Int → V} {z : D} (hz : ∀ G, Rp K G (g i j) z) : OpD K B (rI C g) (.int i) (.int j) (R.guard (C i j)) (fun _ => .val z) :=
  od_val (fun c G H vx vy Q _ hx hy q => ⟨i, j, hx.int_inv, hy.int_inv, c, q⟩) hz
theorem od_add : OpD K B (rI0 fun i j => .int (i + j)) (.int i) (.int j) (.ok ()) (fun _ => .val (.int (i + j))) := od_I0 fun _ => .int _
theorem od_sub : OpD K B (rI0 fun i j => .int (i - j)) (.int i) (.int j) (.ok ()) (fun _ => .val (.int (i - j))) := od_I0 fun _ => .int _
theorem od_mul : OpD K B (rI CMulX fun i j => .int (i * j)) (.int i) (.int j) (R.guard (CMulX i j)) (fun _ => .val (.int (i * j))) := od_I fun _ => .int _
theorem od_fdiv : OpD K B (rI divOk fun i j => .int (i.fdiv j)) (.int i) (.int j) (R.guard (divOk i j)) (fun _ => .val (.int (i.fdiv j))) := od_I fun _ => .int _
theorem od_mod : OpD K B (rI (fun _ j => j ≠ 0) fun i j => .int (i.fmod j)) (.int i) (.int j) (R.guard (j ≠ 0)) (fun _ => .val (.int (i.fmod j))) := od_I (C := fun _ j => j ≠ 0) fun _ => .int _
theorem od_pow : OpD K B (rI CPow fun i j => .int (i ^ j.toNat)) (.int i) (.int j) (R.guard (CPow i j)) (fun _ => .val (.int (i ^ j.toNat))) := od_I (C := CPow) (fun _ => .int _)
theorem od_lt : OpD K B (rI0 fun i j => .bl (decide (i < j))) (.int i) (.int j) (.ok ()) (fun _ => .val (.bool (decide (i < j)))) := od_I0 fun _ => .bl _
theorem od_le : OpD K B (rI0 fun i j => .bl (decide (i ≤ j))) (.int i) (.int j) (.ok ()) (fun _ => .val (.bool (decide (i ≤ j)))) := od_I0 fun _ => .bl _
theorem od_gt : OpD K B (rI0 fun i j => .bl (decide (j < i))) (.int i) (.int j) (.ok ()) (fun _ => .val (.bool (decide (j < i)))) := od_I0 fun _ => .bl _
theorem od_ge : OpD K B (rI0 fun i j => .bl (decide (j ≤ i))) (.int i) (.int j) (.ok ()) (fun _ => .val (.bool (decide (j ≤ i)))) := od_I0 fun _ => .bl _
/-- == of ints, of bools, of texts -/
theorem od_eqI : OpD K B rEq (.int i) (.int j) (.ok ()) (fun _ => .val (.bool (decide (i = j)))) := od_val0 (w := .bl (decide (i = j))) (fun G H vx vy Q _ hx hy q => by
  rw [hx.int_inv, hy.int_inv]
  refine ⟨rfl, ?_⟩
  rw [show decide (V.int i = V.int j) = decide (i = j) from decide_eq_decide.mpr ⟨fun h => V.int.inj h, fun h => by rw [h]⟩]
  exact q) fun _ => .bl _
theorem od_neI : OpD K B rNe (.int i) (.int j) (.ok ()) (fun _ => .val (.bool (!decide (i = j)))) := od_val0 (w := .bl (!decide (i = j))) (fun G H vx vy Q _ hx hy q => by
  rw [hx.int_inv, hy.int_inv]
  refine ⟨rfl, ?_⟩
  rw [show decide (V.int i = V.int j) = decide (i = j) from decide_eq_decide.mpr ⟨fun h => V.int.inj h, fun h => by rw [h]⟩]
  exact q) fun _ => .bl _
end
theorem jp_neg {i : Int} (ha : JP X B ρ a (.int i)) : JP X B ρ (.UnaryOp .USub a pos) (.int (-i)) :=
  jp_of (pe_un un_neg ha) fun σ G H Q E q => ⟨G, E, fun v G1 H1 x1 E1 => ⟨i, E1.top.int_inv, q _ G1 H1 x1 (E1.pop.push (.int _))⟩⟩
theorem je_neg {β : Type} {m : R β} {i : β → Int} {ρ' : β → List Slot} (ha : JE X B ρ a m (fun b => .val (.int (i b))) ρ') : JE X B ρ (.UnaryOp .USub a pos) m (fun b => .val (.int (-(i b)))) ρ' :=
  PE_imp (pe_un un_neg ha) fun σ H Q ⟨G, E, q⟩ => ⟨G, E, R.post_mono q fun b k v G1 H1 x1 E1 => ⟨i b, E1.top.int_inv, k _ G1 H1 x1 (E1.pop.push (.int _))⟩⟩

/-! ### tests -/
theorem jt_val {β : Type} {m : R β} {bn : β → Bool} {ρ' : β → List Slot} (h : JE X B ρ e m (fun b => .val (.bool (bn b))) ρ') (he : ∀ whole, isTrue e X.env whole = (do let v ← whole; standAt e.pos; holding [v] (truthy v)) := by intro _; rfl) : JT X B ρ e m bn ρ' :=
  PT_imp (pt_val h he) fun σ H Q ⟨G, E, q⟩ => ⟨G, E, R.post_mono q fun b k v G1 H1 x1 E1 => ⟨bn b, E1.top.bl_inv, k G1 H1 x1 E1.pop⟩⟩
theorem jt_not {β : Type} {m : R β} {bn : β → Bool} {ρ' : β → List Slot} (h : JT X B ρ a m bn ρ') : JT X B ρ (.UnaryOp .Not a pos) m (fun b => !bn b) ρ' :=
  PT_imp (pt_not h) fun σ H Q ⟨G, E, q⟩ => ⟨G, E, q⟩
theorem jt_w {β : Type} {m : R β} {bn : β → Bool} {ρ' : β → List Slot} (h : JW X B ρ e m bn ρ') : JT X B ρ e m bn ρ' := PW.pt h
variable {rest : List Expr}
theorem jw_and1 {β : Type} {m : R β} {bn : β → Bool} {ρ' : β → List Slot} (h : JT X B ρ a m bn ρ') : JW X B ρ (.BoolOp .And [a] pos) m bn ρ' := pw_and1 h
theorem jw_or1 {β : Type} {m : R β} {bn : β → Bool} {ρ' : β → List Slot} (h : JT X B ρ a m bn ρ') : JW X B ρ (.BoolOp .Or [a] pos) m bn ρ' := pw_or1 h
/-- pure ones -/
theorem tw_and {x y : Bool} (ha : TP0 X B ρ a x) (hb : JW X B ρ (.BoolOp .And (b :: rest) pos) (.ok ()) (fun _ => y) (fun _ => ρ)) : JW X B ρ (.BoolOp .And (a :: b :: rest) pos) (.ok ()) (fun _ => x && y) (fun _ => ρ) :=
  PW_imp (pw_and ha hb) fun σ H Q ⟨G, E, q⟩ => ⟨G, E, fun G1 H1 x1 E1 => by
    cases x with
    | true => exact ⟨G1, E1, fun G2 H2 x2 E2 => q G2 H2 (x1.trans x2) E2⟩
    | false => exact q G1 H1 x1 E1⟩
theorem tw_or {x y : Bool} (ha : TP0 X B ρ a x) (hb : JW X B ρ (.BoolOp .Or (b :: rest) pos) (.ok ()) (fun _ => y) (fun _ => ρ)) : JW X B ρ (.BoolOp .Or (a :: b :: rest) pos) (.ok ()) (fun _ => x || y) (fun _ => ρ) :=
  PW_imp (pw_or ha hb) fun σ H Q ⟨G, E, q⟩ => ⟨G, E, fun G1 H1 x1 E1 => by
    cases x with
    | false => exact ⟨G1, E1, fun G2 H2 x2 E2 => q G2 H2 (x1.trans x2) E2⟩
    | true => exact q G1 H1 x1 E1⟩
/-- the second part only where it is asked; nothing stored changes -/
def and2 {α : Type} (ma : R α) (xa : α → Bool) (mb : R Bool) : R Bool := ma.bind fun x => if xa x = true then mb else .ok false
def or2 {α : Type} (ma : R α) (xa : α → Bool) (mb : R Bool) : R Bool := ma.bind fun x => if xa x = true then .ok true else mb
theorem jw_and {α : Type} {ma : R α} {xa : α → Bool} {mb : R Bool} (ha : JT X B ρ a ma xa (fun _ => ρ)) (hb : JW X B ρ (.BoolOp .And (b :: rest) pos) mb (fun y => y) (fun _ => ρ)) : JW X B ρ (.BoolOp .And (a :: b :: rest) pos) (and2 ma xa mb) (fun y => y) (fun _ => ρ) :=
  PW_imp (pw_and ha hb) fun σ H Q ⟨G, E, q⟩ => ⟨G, E, R.post_mono (R.post_bind.mp q) fun x k G1 H1 x1 E1 => by
    cases hx : xa x with
    | true =>
      rw [if_pos hx] at k
      exact ⟨G1, E1, R.post_mono k fun b k G2 H2 x2 E2 => k G2 H2 (x1.trans x2) E2⟩
    | false =>
      rw [if_neg (by rw [hx]; decide)] at k
      exact k G1 H1 x1 E1⟩
theorem jw_or {α : Type} {ma : R α} {xa : α → Bool} {mb : R Bool} (ha : JT X B ρ a ma xa (fun _ => ρ)) (hb : JW X B ρ (.BoolOp .Or (b :: rest) pos) mb (fun y => y) (fun _ => ρ)) : JW X B ρ (.BoolOp .Or (a :: b :: rest) pos) (or2 ma xa mb) (fun y => y) (fun _ => ρ) :=
  PW_imp (pw_or ha hb) fun σ H Q ⟨G, E, q⟩ => ⟨G, E, R.post_mono (R.post_bind.mp q) fun x k G1 H1 x1 E1 => by
    cases hx : xa x with
    | false =>
      rw [if_neg (by rw [hx]; decide)] at k
      exact ⟨G1, E1, R.post_mono k fun b k G2 H2 x2 E2 => k G2 H2 (x1.trans x2) E2⟩
    | true =>
      rw [if_pos hx] at k
      exact k G1 H1 x1 E1⟩
/-- a test's outcome as the mirror's own result -/
theorem jt_map {β : Type} {m : R β} {bn : β → Bool} (h : JT X B ρ e m bn (fun _ => ρ)) : JT X B ρ e (m.bind fun b => .ok (bn b)) (fun y => y) (fun _ => ρ) :=
  PT_imp h fun σ H Q ⟨G, E, q⟩ => ⟨G, E, R.post_mono (R.post_bind.mp q) fun b k => k⟩
/-- and, or, not as values -/
theorem jp_one {op : PySem.BoolOp} {β : Type} {m : R β} {sl : β → Slot} {ρ' : β → List Slot} (h : JE X B ρ a m sl ρ') : JE X B ρ (.BoolOp op [a] pos) m sl ρ' := pe_one h
theorem jp_and {x y : Bool} (ha : JP X B ρ a (.bool x)) (hb : JP X B ρ (.BoolOp .And (b :: rest) pos) (.bool y)) : JP X B ρ (.BoolOp .And (a :: b :: rest) pos) (.bool (x && y)) :=
  jp_of (pe_and ha hb) fun σ G H Q E q => ⟨G, E, fun v G1 H1 x1 E1 => ⟨x, E1.top.bl_inv, by
    cases x with
    | true => exact ⟨G1, E1.pop, fun v G2 H2 x2 E2 => q v G2 H2 (x1.trans x2) E2⟩
    | false => exact q _ G1 H1 x1 (E1.pop.push (.bl false))⟩⟩
theorem jp_or {x y : Bool} (ha : JP X B ρ a (.bool x)) (hb : JP X B ρ (.BoolOp .Or (b :: rest) pos) (.bool y)) : JP X B ρ (.BoolOp .Or (a :: b :: rest) pos) (.bool (x || y)) :=
  jp_of (pe_or ha hb) fun σ G H Q E q => ⟨G, E, fun v G1 H1 x1 E1 => ⟨x, E1.top.bl_inv, by
    cases x with
    | false => exact ⟨G1, E1.pop, fun v G2 H2 x2 E2 => q v G2 H2 (x1.trans x2) E2⟩
    | true => exact q _ G1 H1 x1 (E1.pop.push (.bl true))⟩⟩
theorem je_and {α : Type} {ma : R α} {xa : α → Bool} {mb : R Bool} (ha : JE X B ρ a ma (fun x => .val (.bool (xa x))) (fun _ => ρ)) (hb : JE X B ρ (.BoolOp .And (b :: rest) pos) mb (fun y => .val (.bool y)) (fun _ => ρ)) : JE X B ρ (.BoolOp .And (a :: b :: rest) pos) (and2 ma xa mb) (fun y => .val (.bool y)) (fun _ => ρ) :=
  PE_imp (pe_and ha hb) fun σ H Q ⟨G, E, q⟩ => ⟨G, E, R.post_mono (R.post_bind.mp q) fun x k v G1 H1 x1 E1 => ⟨xa x, E1.top.bl_inv, by
    cases hx : xa x with
    | true =>
      rw [if_pos hx] at k
      exact ⟨G1, E1.pop, R.post_mono k fun b k v G2 H2 x2 E2 => k v G2 H2 (x1.trans x2) E2⟩
    | false =>
      rw [if_neg (by rw [hx]; decide)] at k
      exact k _ G1 H1 x1 (E1.pop.push (.bl false))⟩⟩
theorem je_or {α : Type} {ma : R α} {xa : α → Bool} {mb : R Bool} (ha : JE X B ρ a ma (fun x => .val (.bool (xa x))) (fun _ => ρ)) (hb : JE X B ρ (.BoolOp .Or (b :: rest) pos) mb (fun y => .val (.bool y)) (fun _ => ρ)) : JE X B ρ (.BoolOp .Or (a :: b :: rest) pos) (or2 ma xa mb) (fun y => .val (.bool y)) (fun _ => ρ) :=
  PE_imp (pe_or ha hb) fun σ H Q ⟨G, E, q⟩ => ⟨G, E, R.post_mono (R.post_bind.mp q) fun x k v G1 H1 x1 E1 => ⟨xa x, E1.top.bl_inv, by
    cases hx : xa x with
    | false =>
      rw [if_neg (by rw [hx]; decide)] at k
      exact ⟨G1, E1.pop, R.post_mono k fun b k v G2 H2 x2 E2 => k v G2 H2 (x1.trans x2) E2⟩
    | true =>
      rw [if_pos hx] at k
      exact k _ G1 H1 x1 (E1.pop.push (.bl true))⟩⟩
theorem je_map {β γ : Type} {m : R β} {sl : β → Slot} {sl' : γ → Slot} {f : β → γ} (h : JE X B ρ e m sl (fun _ => ρ)) (k : ∀ b, sl b = sl' (f b)) : JE X B ρ e (m.bind fun b => .ok (f b)) sl' (fun _ => ρ) :=
  PE_imp h fun σ H Q ⟨G, E, q⟩ => ⟨G, E, R.post_mono (R.post_bind.mp q) fun b q1 v G' H' x E' => q1 v G' H' x (by rw [← k b]; exact E')⟩
theorem je_not {β : Type} {m : R β} {bn : β → Bool} {ρ' : β → List Slot} (ha : JE X B ρ a m (fun b => .val (.bool (bn b))) ρ') : JE X B ρ (.UnaryOp .Not a pos) m (fun b => .val (.bool (!bn b))) ρ' :=
  PE_imp (pe_not ha) fun σ H Q ⟨G, E, q⟩ => ⟨G, E, R.post_mono q fun b k v G1 H1 x1 E1 => ⟨bn b, E1.top.bl_inv, k _ G1 H1 x1 (E1.pop.push (.bl _))⟩⟩
end
end DL

/-! DL4: calls of defs -/
namespace DL
open PySem PySem.Spec L2

def insAt : Nat → List Slot → List Ar → List Slot
  | _, _, [] => []
  | n, ρ, .val d :: as => .val d :: insAt (n + 1) ρ as
  | n, ρ, .slot i :: as => (match ρ[i]? with | some (.own _ o) => .own (n + 1) o | _ => .non) :: insAt (n + 1) (ρ.set i .non) as
def movedAt : List Slot → List Ar → List Slot
  | ρ, [] => ρ
  | ρ, .val _ :: as => movedAt ρ as
  | ρ, .slot i :: as => movedAt (ρ.set i .non) as
def relab : Slot → Option Slot → Slot
  | .own _ o, some (.own l _) => .own l o
  | _, _ => .non
def backAt (ρ0 : List Slot) : List Slot → List Ar → List Slot → List Slot
  | ρ, [], _ => ρ
  | ρ, _, [] => ρ
  | ρ, .val _ :: as, _ :: os => backAt ρ0 ρ as os
  | ρ, .slot i :: as, s :: os => backAt ρ0 (ρ.set i (relab s ρ0[i]?)) as os
def isOwn : Option Slot → Bool
  | some (.own _ _) => true
  | _ => false
def goodIn : List Slot → List Ar → Bool
  | _, [] => true
  | ρ, .val _ :: as => goodIn ρ as
  | ρ, .slot i :: as => isOwn ρ[i]? && goodIn (ρ.set i .non) as
def isOwnL (n : Nat) : Slot → Bool
  | .own l _ => l == n
  | _ => false
def goodOut : Nat → List Ar → List Slot → Bool
  | _, [], [] => true
  | n, .val _ :: as, _ :: os => goodOut (n + 1) as os
  | n, .slot _ :: as, s :: os => isOwnL (n + 1) s && goodOut (n + 1) as os
  | _, _, _ => false
def noSlots : List Ar → Bool
  | [] => true
  | .val _ :: as => noSlots as
  | .slot _ :: _ => false
def noAlis : List Slot → Bool
  | [] => true
  | .ali _ _ :: _ => false
  | _ :: r => noAlis r
theorem noAlis_get : ∀ {ρ : List Slot}, noAlis ρ = true → ∀ {i j : Nat} {p : List Nat}, ρ[i]? ≠ some (.ali j p)
  | [], _, _, _, _ => fun e => nomatch e
  | s :: ρ, h, 0, j, p => fun e => by
    simp at e
    subst e
    simp [noAlis] at h
  | s :: ρ, h, i + 1, j, p => fun e => by
    have h' : noAlis ρ = true := by
      cases s <;> simp [noAlis] at h <;> exact h
    exact noAlis_get h' (i := i) (j := j) (p := p) (by simpa using e)
section
variable {K : PySem.W.Frag} {B B' : Base} {G G' H H' : Hp}
theorem isOwn_inv {s : Option Slot} (h : isOwn s = true) : ∃ l o, s = some (.own l o) := by
  match s, h with
  | some (.own l o), _ => exact ⟨l, o, rfl⟩
theorem isOwnL_inv {n : Nat} {s : Slot} (h : isOwnL n s = true) : ∃ o, s = .own n o := by
  match s, h with
  | .own l o, h =>
    simp [isOwnL] at h
    subst h
    exact ⟨o, rfl⟩
/-- the arguments' cells, each with its places; the rest -/
theorem Cells.args {σ : L2.St} : ∀ {as : List Ar} {vs : List V} {ρ : List Slot} {A : List Addr} (n : Nat), Cells K B G H σ ρ A → ArOk K G σ vs as → goodIn ρ as = true →
    ∃ (As : List (List Addr)) (Ar' : List Addr), As.length = as.length ∧ (∀ B' : Base, (∀ k, B'.Mo (n + 1 + k) = As.getD k []) → (∀ k, B'.pv (n + 1 + k) = vs[k]?) → Cells K B' G H (vs.map some) (insAt n ρ as) As.flatten) ∧ Cells K B G H σ (movedAt ρ as) Ar' ∧ A.Perm (As.flatten ++ Ar') ∧
      ∀ (k i : Nat), as[k]? = some (.slot i) → ∃ l o, ρ[i]? = some (.own l o) ∧ (∀ a ∈ As.getD k [], a ∈ B.Mo l ∨ B.H0 a = none) ∧ ∀ v, σ[i]? = some (some v) → l = 0 ∨ B.pv l = some v
  | [], _, ρ, A, n, h, .nil, _ => ⟨[], A, rfl, fun _ _ _ => .nil, h, List.Perm.refl _, fun _ _ e => by simp at e⟩
  | .val d :: as, v :: vs, ρ, A, n, h, .val r q, g => by
    obtain ⟨As, A', h1, h2, h3, h4, h5⟩ := Cells.args (n + 1) h q (by simpa [goodIn] using g)
    refine ⟨[] :: As, A', by simp [h1], fun B' hB hP => ?_, h3, by simpa using h4, fun k i e => ?_⟩
    · exact .cons (A := []) (.val r) (h2 B' (fun k => by
        have := hB (k + 1)
        rw [show n + 1 + (k + 1) = n + 1 + 1 + k by omega] at this
        simpa using this) (fun k => by
        have := hP (k + 1)
        rw [show n + 1 + (k + 1) = n + 1 + 1 + k by omega] at this
        simpa using this))
    · cases k with
      | zero => simp at e
      | succ k =>
        obtain ⟨l, o, e1, e2⟩ := h5 k i (by simpa using e)
        exact ⟨l, o, e1, by simpa using e2.1, e2.2⟩
  | .slot j :: as, v :: vs, ρ, A, n, h, .slot e0 q, g => by
    simp [goodIn] at g
    obtain ⟨l, o, ho⟩ := isOwn_inv g.1
    obtain ⟨v', A1, A2, e1, hO, ⟨hl, hv⟩, c2, p⟩ := h.take1 ho
    have ev : v = v' := by
      have z := e0.symm.trans e1
      injection z with z
      injection z
    subst ev
    obtain ⟨As, A', h1, h2, h3, h4, h5⟩ := Cells.args (n + 1) c2 q g.2
    refine ⟨A1 :: As, A', by simp [h1], fun B' hB hP => ?_, h3, ?_, fun k i e => ?_⟩
    · have hins : insAt n ρ (.slot j :: as) = .own (n + 1) o :: insAt (n + 1) (ρ.set j .non) as := by
        show (match ρ[j]? with | some (.own _ o) => Slot.own (n + 1) o | _ => .non) :: _ = _
        rw [ho]
      rw [hins]
      refine .cons (A := A1) (.own hO (fun a m => .inl ?_) (.inr ?_)) (h2 B' (fun k => ?_) fun k => ?_)
      · have := hB 0
        simp at this
        rw [this]
        exact m
      · have := hP 0
        simpa using this
      · have := hB (k + 1)
        rw [show n + 1 + (k + 1) = n + 1 + 1 + k by omega] at this
        simpa using this
      · have := hP (k + 1)
        rw [show n + 1 + (k + 1) = n + 1 + 1 + k by omega] at this
        simpa using this
    · have := p.trans (h4.append_left A1)
      rw [← List.append_assoc] at this
      exact this
    · cases k with
      | zero =>
        simp at e
        subst e
        exact ⟨l, o, ho, by simpa using hl, fun w ew => by
          have z := e1.symm.trans ew
          injection z with z
          injection z with z
          rw [← z]
          exact hv⟩
      | succ k =>
        obtain ⟨l', o', q1, q2⟩ := h5 k i (by simpa using e)
        have hij : j ≠ i := fun z => by
          subst z
          by_cases hlt : j < ρ.length
          · rw [List.getElem?_set_self hlt] at q1
            cases q1
          · rw [List.getElem?_eq_none (by simpa using hlt)] at q1
            cases q1
        rw [List.getElem?_set_ne hij] at q1
        exact ⟨l', o', q1, by simpa using q2.1, q2.2⟩
theorem Cells.region {σ : L2.St} {ρ : List Slot} {A : List Addr} (h : Cells K B G H σ ρ A) : ∀ a ∈ A, (∃ l, a ∈ B.Mo l) ∨ B.H0 a = none := by
  induction h with
  | nil => exact fun _ m => nomatch m
  | cons c r ih =>
    intro a m
    rcases List.mem_append.mp m with m | m
    · cases c with
      | non => exact nomatch m
      | val _ => exact nomatch m
      | own _ hl _ => exact (hl a m).imp (fun z => ⟨_, z⟩) id
      | ali => exact nomatch m
    · exact ih a m
def slotsOf : List Ar → List Nat
  | [] => []
  | .val _ :: as => slotsOf as
  | .slot i :: as => i :: slotsOf as
theorem goodIn_nodup : ∀ {as : List Ar} {ρ : List Slot}, goodIn ρ as = true → (slotsOf as).Nodup ∧ ∀ i ∈ slotsOf as, isOwn ρ[i]? = true
  | [], _, _ => ⟨List.nodup_nil, fun _ m => nomatch m⟩
  | .val _ :: as, ρ, h => goodIn_nodup (as := as) (by simpa [goodIn] using h)
  | .slot j :: as, ρ, h => by
    simp [goodIn] at h
    obtain ⟨h1, h2⟩ := goodIn_nodup h.2
    have hj : ∀ i ∈ slotsOf as, i ≠ j := fun i m z => by
      subst z
      have := h2 i m
      by_cases hlt : i < ρ.length
      · rw [List.getElem?_set_self hlt] at this
        cases this
      · rw [List.getElem?_eq_none (by simpa using hlt)] at this
        cases this
    refine ⟨List.nodup_cons.mpr ⟨fun m => hj j m rfl, h1⟩, fun i m => ?_⟩
    rcases List.mem_cons.mp m with rfl | m
    · exact h.1
    · have := h2 i m
      rw [List.getElem?_set_ne (Ne.symm (hj i m))] at this
      exact this
theorem movedAt_len : ∀ (as : List Ar) (ρ : List Slot), (movedAt ρ as).length = ρ.length
  | [], _ => rfl
  | .val _ :: as, ρ => movedAt_len as ρ
  | .slot i :: as, ρ => by
    show (movedAt (ρ.set i .non) as).length = _
    rw [movedAt_len as, List.length_set]
theorem movedAt_get : ∀ {as : List Ar} {ρ : List Slot} {i : Nat}, i ∈ slotsOf as → i < ρ.length → (movedAt ρ as)[i]? = some .non
  | .val _ :: as, ρ, i, m, h => movedAt_get (as := as) (ρ := ρ) (by simpa [slotsOf] using m) h
  | .slot j :: as, ρ, i, m, h => by
    show (movedAt (ρ.set j .non) as)[i]? = _
    by_cases hi : i ∈ slotsOf as
    · exact movedAt_get hi (by simpa using h)
    · have e : i = j := by
        rcases List.mem_cons.mp m with e | m
        · exact e
        · exact absurd m hi
      subst e
      have keep : ∀ (as : List Ar) (ρ : List Slot), i ∉ slotsOf as → (movedAt ρ as)[i]? = ρ[i]? := by
        intro as
        induction as with
        | nil => intro ρ _; rfl
        | cons a as ih =>
          intro ρ hn
          cases a with
          | val d => exact ih ρ (by simpa [slotsOf] using hn)
          | slot k =>
            have hk : i ≠ k ∧ i ∉ slotsOf as := by simpa [slotsOf] using hn
            show (movedAt (ρ.set k .non) as)[i]? = _
            rw [ih _ hk.2, List.getElem?_set_ne (Ne.symm hk.1)]
      rw [keep as _ hi, List.getElem?_set_self h]
/-- the arguments' cells put back -/
theorem Cells.back {σ : L2.St} {G0 : Hp} (ρ0 : List Slot) : ∀ {as : List Ar} {vs : List V} {os ρ : List Slot} {A A' : List Addr} (n : Nat), ArOk K G0 σ vs as → Cells K B' G' H' (vs.map some) os A' → Cells K B G' H' σ ρ A → goodOut n as os = true →
    (slotsOf as).Nodup → (∀ i ∈ slotsOf as, ρ[i]? = some .non) → (∀ (k i : Nat), as[k]? = some (.slot i) → ∃ l o, ρ0[i]? = some (.own l o) ∧ (∀ a, (a ∈ B'.Mo (n + 1 + k) ∨ B'.H0 a = none) → a ∈ B.Mo l ∨ B.H0 a = none) ∧ ∀ v, σ[i]? = some (some v) → l = 0 ∨ B.pv l = some v) →
    ∃ A2 C, Cells K B G' H' σ (backAt ρ0 ρ as os) A2 ∧ A2.Perm (C ++ A) ∧ C.Sublist A'
  | [], _, os, ρ, A, A', n, .nil, _, h, _, _, _, _ => ⟨A, [], by rw [backAt]; exact h, List.Perm.refl _, List.nil_sublist _⟩
  | .val d :: as, v :: vs, os, ρ, A, A', n, .val r q, c, h, g, nd, hn, hl => by
    cases c with
    | @cons _ s A1 _ os A2 c1 cr =>
      obtain ⟨A3, C, h1, h2, h3⟩ := Cells.back ρ0 (n + 1) q cr h (by simpa [goodOut] using g) (by simpa [slotsOf] using nd) (by simpa [slotsOf] using hn) (fun k i e => by
        obtain ⟨l, o, e1, e2⟩ := hl (k + 1) i (by simpa using e)
        rw [show n + 1 + (k + 1) = n + 1 + 1 + k by omega] at e2
        exact ⟨l, o, e1, e2⟩)
      exact ⟨A3, C, by rw [backAt]; exact h1, h2, h3.trans (List.sublist_append_right _ _)⟩
  | .slot j :: as, v :: vs, os, ρ, A, A', n, .slot e0 q, c, h, g, nd, hn, hl => by
    cases c with
    | @cons _ s A1 _ os A2 c1 cr =>
      have g' : isOwnL (n + 1) s = true ∧ goodOut (n + 1) as os = true := by simpa [goodOut] using g
      obtain ⟨o, rfl⟩ := isOwnL_inv g'.1
      cases c1 with
      | own hO hr _ =>
        obtain ⟨l, o0, e1, e2, e3⟩ := hl 0 j rfl
        have hj : ρ[j]? = some .non := hn j (by simp [slotsOf])
        obtain ⟨A4, c4, p4⟩ := h.put1 (l := l) hj e0 hO ⟨fun a m => e2 a (by simpa using hr a m), e3 _ e0⟩
        have nd' : j ∉ slotsOf as ∧ (slotsOf as).Nodup := by simpa [slotsOf] using nd
        obtain ⟨A3, C, h1, h2, h3⟩ := Cells.back ρ0 (n + 1) q cr c4 g'.2 nd'.2 (fun i m => by
          have hij : j ≠ i := fun z => nd'.1 (z ▸ m)
          rw [List.getElem?_set_ne hij]
          exact hn i (by simp [slotsOf, m])) (fun k i e => by
          obtain ⟨l, o, e1, e2⟩ := hl (k + 1) i (by simpa using e)
          rw [show n + 1 + (k + 1) = n + 1 + 1 + k by omega] at e2
          exact ⟨l, o, e1, e2⟩)
        refine ⟨A3, A1 ++ C, ?_, ?_, h3.append_left A1⟩
        · rw [backAt, e1]
          exact h1
        · have p5 := h2.trans (p4.append_left C)
          refine p5.trans ?_
          rw [← List.append_assoc]
          exact List.perm_append_comm.append_right A
theorem backAt_len (ρ0 : List Slot) : ∀ (as : List Ar) (os ρ : List Slot), (backAt ρ0 ρ as os).length = ρ.length
  | [], _, _ => by rw [backAt]
  | .val _ :: _, [], _ => by rw [backAt]; exact fun h => nomatch h
  | .slot _ :: _, [], _ => by rw [backAt]; exact fun h => nomatch h
  | .val _ :: as, _ :: os, ρ => by
    rw [backAt]
    exact backAt_len ρ0 as os ρ
  | .slot i :: as, s :: os, ρ => by
    rw [backAt, backAt_len ρ0 as os, List.length_set]
end
/-- a def's promise by its mirror: how its arguments stand, its mirror, how its result and its owned arguments stand -/
def baseOf (H G : Hp) (As : List (List Addr)) (vs : List V) (rs : Exn → Prop) : Base := ⟨H, G, fun l => match l with | 0 => [] | n + 1 => As.getD n [], rfl, fun l => match l with | 0 => none | n + 1 => vs[n]?, rs⟩
def spM (K : PySem.W.Frag) {α β : Type} (ins : α → List Slot) (m : α → R β) (sl : β → Slot) (outs : β → List Slot) : Sp := fun vs H Q _ =>
  ∃ (a : α) (G : Hp) (As : List (List Addr)), En K (baseOf H G As vs fun _ => False) G H (vs.map some) (ins a) [] ∧
    (m a).post (fun b => ∀ v G' H', En K (baseOf H G As vs fun _ => False) G' H' (vs.map some) (outs b) [(v, sl b)] → Q v H') fun _ => False
/-- a result: data, or a new owned thing -/
def resOk : Slot → Bool
  | .val _ => true
  | .own 0 _ => true
  | _ => false
/-- no alias is met -/
def aliOk (ρ : List Slot) (as : List Ar) : Bool := noSlots as || noAlis ρ
theorem noSlots_As {K : PySem.W.Frag} {G : Hp} {σ : L2.St} : ∀ {as : List Ar}, noSlots as = true → slotsOf as = []
  | [], _ => rfl
  | .val _ :: as, h => noSlots_As (K := K) (G := G) (σ := σ) (as := as) h
theorem insAt_noAli : ∀ {as : List Ar} {n : Nat} {ρ : List Slot} {i j : Nat} {p : List Nat}, (insAt n ρ as)[i]? ≠ some (.ali j p)
  | [], n, ρ, i, j, p => fun e => nomatch e
  | .val d :: as, n, ρ, 0, j, p => fun e => by simp [insAt] at e
  | .val d :: as, n, ρ, i + 1, j, p => fun e => insAt_noAli (as := as) (n := n + 1) (ρ := ρ) (i := i) (j := j) (p := p) (by simpa [insAt] using e)
  | .slot k :: as, n, ρ, 0, j, p => fun e => by
    simp [insAt] at e
    split at e <;> cases e
  | .slot k :: as, n, ρ, i + 1, j, p => fun e => insAt_noAli (as := as) (n := n + 1) (ρ := ρ.set k .non) (i := i) (j := j) (p := p) (by simpa [insAt] using e)
theorem movedAt_noSlots : ∀ {as : List Ar} {ρ : List Slot}, noSlots as = true → movedAt ρ as = ρ
  | [], _, _ => rfl
  | .val _ :: as, ρ, h => movedAt_noSlots (as := as) h
theorem backAt_noSlots {ρ0 : List Slot} : ∀ {as : List Ar} {os ρ : List Slot}, noSlots as = true → backAt ρ0 ρ as os = ρ
  | [], _, _, _ => by rw [backAt]
  | .val _ :: as, [], _, _ => by rw [backAt]; exact fun h => nomatch h
  | .val _ :: as, _ :: os, ρ, h => by
    rw [backAt]
    exact backAt_noSlots (as := as) h
theorem backAt_noAlis {ρ0 : List Slot} : ∀ {as : List Ar} {os ρ : List Slot}, (∀ {i j : Nat} {p : List Nat}, ρ[i]? ≠ some (.ali j p)) → ∀ {i j : Nat} {p : List Nat}, (backAt ρ0 ρ as os)[i]? ≠ some (.ali j p)
  | [], _, _, h => by
    rw [backAt]
    exact h
  | .val _ :: _, [], _, h => by
    rw [backAt]
    exact h
    exact fun h => nomatch h
  | .slot _ :: _, [], _, h => by
    rw [backAt]
    exact h
    exact fun h => nomatch h
  | .val _ :: as, _ :: os, ρ, h => by
    rw [backAt]
    exact backAt_noAlis h
  | .slot k :: as, s :: os, ρ, h => by
    rw [backAt]
    refine backAt_noAlis fun {i j p} e => ?_
    by_cases hk : k = i
    · subst hk
      by_cases hlt : k < ρ.length
      · rw [List.getElem?_set_self hlt] at e
        have e : relab s ρ0[k]? = .ali j p := Option.some.inj e
        cases s <;> simp [relab] at e
        split at e <;> cases e
      · rw [List.getElem?_eq_none (by simpa using hlt)] at e
        cases e
    · rw [List.getElem?_set_ne hk] at e
      exact h e
theorem movedAt_noAlis : ∀ {as : List Ar} {ρ : List Slot}, (∀ {i j : Nat} {p : List Nat}, ρ[i]? ≠ some (.ali j p)) → ∀ {i j : Nat} {p : List Nat}, (movedAt ρ as)[i]? ≠ some (.ali j p)
  | [], _, h => h
  | .val _ :: as, ρ, h => movedAt_noAlis (as := as) h
  | .slot k :: as, ρ, h => movedAt_noAlis (as := as) (ρ := ρ.set k .non) fun {i j p} e => by
    by_cases hk : k = i
    · subst hk
      by_cases hlt : k < ρ.length
      · rw [List.getElem?_set_self hlt] at e
        cases e
      · rw [List.getElem?_eq_none (by simpa using hlt)] at e
        cases e
    · rw [List.getElem?_set_ne hk] at e
      exact h e
section
variable {K : PySem.W.Frag} {B : Base} {G H : Hp} {σ : L2.St} {ρ : List Slot} {as : List Ar} {vs : List V}
/-- THE CALL: what a caller must show, and what it has behind -/
theorem call_sp {α β : Type} {ins : α → List Slot} {m : α → R β} {sl : β → Slot} {outs : β → List Slot} {Q : VK} {E : XK} (a : α) (En0 : En K B G H σ ρ []) (ok : ArOk K G σ vs as) (hi : goodIn ρ as = true) (hins : insAt 0 ρ as = ins a)
    (ho : ∀ b, goodOut 0 as (outs b) = true) (hal : aliOk ρ as = true) (hres : ∀ b, resOk (sl b) = true) (hr : ∀ e, ¬ B.rs e)
    (q : (m a).post (fun b => ∀ v G' H', Ex G G' → En K B G' H' σ (backAt ρ (movedAt ρ as) as (outs b)) [(v, sl b)] → Q v H') B.rs) : spM K ins m sl outs vs H Q E := by
  obtain ⟨A, c, nd, f⟩ := En0.own
  obtain ⟨As, Ar', h1, h2, h3, h4, h5⟩ := Cells.args (as := as) 0 (show Cells K B G H σ ρ A from c) ok hi
  have nd2 := List.nodup_append.mp (h4.nodup_iff.mp nd)
  have fA : ∀ x ∈ As.flatten, G x = none := fun x m => f x (h4.mem_iff.mpr (List.mem_append_left _ m))
  have fR : ∀ x ∈ Ar', G x = none := fun x m => f x (h4.mem_iff.mpr (List.mem_append_right _ m))
  have mo : ∀ k, (baseOf H G As vs fun _ => False).Mo (0 + 1 + k) = As.getD k [] := fun k => by
    show (match 0 + 1 + k with | 0 => [] | n + 1 => As.getD n []) = _
    rw [show 0 + 1 + k = k + 1 by omega]
  have moIn : ∀ l x, x ∈ (baseOf H G As vs fun _ => False).Mo l → x ∈ As.flatten := fun l x m => by
    cases l with
    | zero => exact nomatch m
    | succ n =>
      have m : x ∈ As.getD n [] := m
      rw [List.getD_eq_getElem?_getD] at m
      cases e : As[n]? with
      | none =>
        rw [e] at m
        exact nomatch m
      | some L =>
        rw [e] at m
        exact List.mem_flatten.mpr ⟨L, List.mem_of_getElem? e, m⟩
  have cA := h2 (baseOf H G As vs fun _ => False) mo fun k => by
    show (match 0 + 1 + k with | 0 => none | n + 1 => vs[n]?) = _
    rw [show 0 + 1 + k = k + 1 by omega]
  have thA : ∀ x ∈ As.flatten, ∃ u, H x = some u := cA.there
  have thR : ∀ x ∈ Ar', ∃ u, H x = some u := h3.there
  refine ⟨a, G, As, ⟨⟨fun x o _ e => e, fun x l mx => ?_, Ex.refl G, fun x _ e => e, En0.sub⟩, ⟨_, by
      rw [← hins]
      exact cA, nd2.1, fA⟩, ?_, fun i j p e => ?_⟩, ?_⟩
  · obtain ⟨u, hu⟩ := thA x (moIn l x mx)
    rw [hu]
    exact fun z => nomatch z
  · rw [cA.len, hins]
  · rw [← hins] at e
    exact absurd e insAt_noAli
  · cases hm : m a with
    | bad =>
      rw [hm] at q
      exact q.elim
    | err e =>
      rw [hm] at q
      exact (hr e q).elim
    | ok b =>
      rw [hm] at q
      intro v G' H' E'
      have hG : Ex G G' := E'.anc.gsub
      refine q v G' H' hG ?_
      obtain ⟨A', c', n', f'⟩ := E'.own
      cases c' with
      | @cons _ _ A1 _ _ A2 cv cr =>
        have n1 := List.nodup_append.mp n'
        have keepH : ∀ x o, x ∉ As.flatten → H x = some o → H' x = some o := fun x o hx e => E'.anc.keep x o (fun l z => hx (moIn l x z)) e
        have reg : ∀ x ∈ A1 ++ A2, x ∈ As.flatten ∨ H x = none := fun x mx => by
          have := Cells.region (Cells.cons cv cr) x mx
          rcases this with ⟨l, z⟩ | z
          · exact .inl (moIn l x z)
          · exact .inr z
        have cR : Cells K B G' H' σ (movedAt ρ as) Ar' := h3.ex hG fun x mx u e => keepH x u (fun z => nd2.2.2 x z x mx rfl) e
        obtain ⟨gn1, gn2⟩ := goodIn_nodup hi
        obtain ⟨A3, C, b1, b2, b3⟩ := Cells.back (B := B) ρ (n := 0) ok cr cR (ho b) gn1 (fun i mi => movedAt_get mi (by
            have := gn2 i mi
            obtain ⟨l, o, e⟩ := isOwn_inv this
            exact (List.getElem?_eq_some_iff.mp e).1)) (fun k i e => by
            obtain ⟨l, o, e1, e2, e3⟩ := h5 k i e
            refine ⟨l, o, e1, fun x hx => ?_, e3⟩
            rcases hx with hx | hx
            · rw [mo] at hx
              exact e2 x hx
            · exact .inr (En0.fresh hx))
        have subC : (A1 ++ C).Sublist (A1 ++ A2) := b3.append_left A1
        have ndC : (A1 ++ C).Nodup := subC.nodup n'
        have dis : ∀ x ∈ A1 ++ A2, x ∉ Ar' := fun x mx mr => by
          rcases reg x mx with z | z
          · exact nd2.2.2 x z x mr rfl
          · obtain ⟨u, hu⟩ := thR x mr
            rw [hu] at z
            cases z
        have pA : (A1 ++ A3).Perm ((A1 ++ C) ++ Ar') := by
          rw [List.append_assoc]
          exact b2.append_left A1
        have cvB : Cell K B G' H' (some v) (sl b) A1 := by
          have cv2 : Cell K (baseOf H G As vs fun _ => False) G' H' (some v) (sl b) A1 := cv
          have hb := hres b
          revert cv2 hb
          generalize sl b = s
          intro cv2 hb
          cases cv2 with
          | non => exact .non
          | val h => exact .val h
          | @own _ l o _ hO hl _ =>
            cases l with
            | succ n => cases hb
            | zero =>
              refine .own hO (fun x mx => .inr (En0.fresh ?_)) (.inl rfl)
              rcases hl x mx with z | z
              · exact nomatch z
              · exact z
          | ali => exact .ali
        have lenEq : (backAt ρ (movedAt ρ as) as (outs b)).length = ρ.length := by rw [backAt_len, movedAt_len]
        have anc : Anc B G' H' := by
          refine ⟨fun x o hx e => ?_, fun x l hx => ?_, En0.anc.gsub.trans hG, fun x e1 e2 => ?_, E'.anc.sub⟩
          · have e1 := En0.anc.keep x o hx e
            refine keepH x o (fun z => ?_) e1
            rcases Cells.region (show Cells K B G H σ ρ A from c) x (h4.mem_iff.mpr (List.mem_append_left _ z)) with ⟨l, y⟩ | y
            · exact hx l y
            · rw [y] at e
              cases e
          · have e1 := En0.anc.there x l hx
            by_cases hxA : x ∈ As.flatten
            · obtain ⟨L, hL, mL⟩ := List.mem_flatten.mp hxA
              obtain ⟨k, hk⟩ := List.getElem?_of_mem hL
              refine E'.anc.there x (k + 1) ?_
              show x ∈ As.getD k []
              rw [List.getD_eq_getElem?_getD, hk]
              exact mL
            · cases e : H x with
              | none => exact absurd e e1
              | some o =>
                rw [keepH x o hxA e]
                exact fun z => nomatch z
          · refine E'.anc.gnew x ?_ (En0.anc.gnew x e1 e2)
            intro z
            exact e1 (En0.fresh z)
        refine ⟨anc, ⟨A1 ++ A3, .cons cvB b1, pA.nodup_iff.mpr (List.nodup_append.mpr ⟨ndC, nd2.2.1, fun x mx y my e => dis x (subC.subset mx) (e ▸ my)⟩), fun x mx => ?_⟩, by rw [lenEq]; exact En0.len, fun i j p e => ?_⟩
        · rcases List.mem_append.mp (pA.mem_iff.mp mx) with mx | mx
          · exact f' x (subC.subset mx)
          · refine E'.anc.gnew x ?_ (fR x mx)
            obtain ⟨u, hu⟩ := thR x mx
            show H x ≠ none
            rw [hu]
            exact fun z => nomatch z
        · cases hs : noSlots as with
          | false =>
            have hn : noAlis ρ = true := by
              unfold aliOk at hal
              rw [hs] at hal
              simpa using hal
            exact absurd e (backAt_noAlis (movedAt_noAlis (noAlis_get hn)))
          | true =>
            rw [backAt_noSlots hs, movedAt_noSlots hs] at e
            obtain ⟨v', w, q1, q2, q3⟩ := En0.ali i j p e
            refine ⟨v', w, q1, q2, q3.ex fun x o e => keepH x o (fun z => ?_) e⟩
            have hk : ∀ {as : List Ar} {As : List (List Addr)}, noSlots as = true → As.length = as.length → (∀ k : Nat, k < As.length → As.getD k [] = []) → As.flatten = [] := fun {as As} _ hl hk => by
              rw [List.flatten_eq_nil_iff]
              intro L hL
              obtain ⟨k, hk'⟩ := List.getElem?_of_mem hL
              have := hk k (List.getElem?_eq_some_iff.mp hk').1
              rw [List.getD_eq_getElem?_getD, hk'] at this
              exact this
            have vals : ∀ {as : List Ar} {vs : List V} {n : Nat} {ρ : List Slot} {A : List Addr} {B' : Base}, noSlots as = true → Cells K B' G H (vs.map some) (insAt n ρ as) A → A = [] := by
              intro as
              induction as with
              | nil =>
                intro vs n ρ A B' _ c
                cases vs with
                | nil =>
                  cases c
                  rfl
                | cons v vs => cases c
              | cons a as ih =>
                intro vs n ρ A B' hs c
                cases a with
                | slot i => cases hs
                | val d =>
                  cases vs with
                  | nil => cases c
                  | cons v vs =>
                    cases c with
                    | cons c r =>
                      cases c
                      exact ih hs r
            have := vals hs cA
            rw [this] at z
            exact nomatch z
end
/-! ### arguments -/
section
variable {X : Cx} {B : Base} {ρ : List Slot} {e : Expr} {es : List Expr} {pos : Pos}
theorem ja_nil : JA X B ρ [] (.ok ()) (fun _ => []) (fun _ => ρ) := PA_imp pa_nil fun σ H Q ⟨G, E, q⟩ => q [] G H (Ex.refl G) E .nil
theorem ja_p {d : D} {β : Type} {m : R β} {as : β → List Ar} {ρ' : β → List Slot} (h : JP X B ρ e d) (t : JA X B ρ es m as ρ') (hst : starEach (e :: es) X.env = (false, eval e X.env) :: starEach es X.env := by rfl) : JA X B ρ (e :: es) m (fun b => .val d :: as b) ρ' :=
  PA_imp (pa_cons h t hst) fun σ H Q ⟨G, E, q⟩ => ⟨G, E, fun v G1 H1 x1 E1 => ⟨G1, E1.pop, R.post_mono q fun b k vs G2 H2 x2 E2 ok => k _ G2 H2 (x1.trans x2) E2 (.val (E1.top.ex x2) ok)⟩⟩
theorem ja_e {α β : Type} {ma : R α} {xa : α → D} {ρa : α → List Slot} {mb : α → R β} {as : α → β → List Ar} {ρ' : α → β → List Slot} (h : JE X B ρ e ma (fun x => .val (xa x)) ρa) (t : ∀ x, JA X B (ρa x) es (mb x) (as x) (ρ' x)) (hst : starEach (e :: es) X.env = (false, eval e X.env) :: starEach es X.env := by rfl) :
    JA X B ρ (e :: es) (ma.bind fun x => (mb x).bind fun y => .ok (x, y)) (fun p => .val (xa p.1) :: as p.1 p.2) (fun p => ρ' p.1 p.2) := by
  have t' : PA X es (fun σ H Q => ∃ x, tJA X.K B (ρa x) (mb x) (as x) (ρ' x) σ H Q) := ⟨fun pos pins s σ H Q I ⟨x, q⟩ => (t x).run pos pins s σ H Q I q⟩
  exact PA_imp (pa_cons h t' hst) fun σ H Q ⟨G, E, q⟩ => ⟨G, E, R.post_mono (R.post_bind.mp q) fun x k v G1 H1 x1 E1 => ⟨x, G1, E1.pop, R.post_mono (R.post_bind.mp k) fun y k vs G2 H2 x2 E2 ok => k _ G2 H2 (x1.trans x2) E2 (.val (E1.top.ex x2) ok)⟩⟩
/-- an owned slot handed on -/
theorem ja_s (i : Nat) {x : Str} {β : Type} {m : R β} {as : β → List Ar} {ρ' : β → List Slot} (t : JA X B ρ es m as ρ') (h : isOwn ρ[i]? = true := by rfl) (hN : X.N[i]? = some x := by rfl) (hv : Vis X.env.scope x := by first | exact Or.inl rfl | exact Or.inr (Or.inl rfl) | exact Or.inr (Or.inr rfl))
    (hd : (x == ("__debug__" : Str)) = false := by decide) (hcd : (x == ("__classdict__" : Str)) = false := by decide) : JA X B ρ (.Name x pos :: es) m (fun b => .slot i :: as b) ρ' :=
  PA_imp (pa_cons (pv i hN hv hd hcd) t) fun σ H Q ⟨G, E, q⟩ => by
    obtain ⟨l, o, e⟩ := isOwn_inv h
    obtain ⟨A, c, _, _⟩ := E.own
    obtain ⟨v, _, _, e1, _⟩ := Cells.take1 (show Cells X.K B G H σ ρ A from c) e
    exact ⟨v, e1, G, E, R.post_mono q fun b k vs G2 H2 x2 E2 ok => k _ G2 H2 x2 E2 (.slot e1 ok)⟩
/-- data arguments -/
def arDs : List Ar → List D
  | [] => []
  | .val d :: as => d :: arDs as
  | .slot _ :: as => .none :: arDs as
theorem ArOk.ds {K : PySem.W.Frag} {G : Hp} {σ : L2.St} {vs : List V} {as : List Ar} (h : ArOk K G σ vs as) (hs : noSlots as = true) : RpAll K G vs (arDs as) := by
  induction h with
  | nil => exact .nil
  | val r _ ih => exact .cons r (ih hs)
  | slot _ _ _ => cases hs
/-! ### displays -/
theorem je_tup {x1 : Nat} {β : Type} {m : R β} {as : β → List Ar} {ρ' : β → List Slot} (h : JA X B ρ es m as ρ') (hs : ∀ b, noSlots (as b) = true := by intro _; rfl) (hl : ∀ b, (arDs (as b)).length ≤ 1000 := by intro _; exact of_decide_eq_true rfl) : JE X B ρ (.Tuple es x1 pos) m (fun b => .val (.tuple (arDs (as b)))) ρ' :=
  PE_imp (pe_tup h) fun σ H Q ⟨G, E, q⟩ => ⟨G, E, R.post_mono q fun b k vs G1 H1 x1 E1 ok => by
    have r := ok.ds (hs b)
    refine ⟨?_, fun p hp => k _ (upd G1 p (.tup vs)) _ (x1.trans (Ex.new (E1.sub.back hp))) ((E1.new hp _).push (.tup (.inl (.inl upd_same)) ?_))⟩
    · rw [r.len]
      exact Nat.le_of_lt (small1000 (hl b))
    · exact RpAll.ex (Ex.new (E1.sub.back hp)) r⟩
theorem je_lst {β : Type} {m : R β} {as : β → List Ar} {ρ' : β → List Slot} (h : JA X B ρ es m as ρ') (hs : ∀ b, noSlots (as b) = true := by intro _; rfl) (hl : ∀ b, (arDs (as b)).length ≤ 1000 := by intro _; exact of_decide_eq_true rfl) : JE X B ρ (.List es pos) m (fun b => .own 0 (.lst ((arDs (as b)).map OT.dat))) ρ' :=
  PE_imp (pe_lst h) fun σ H Q ⟨G, E, q⟩ => ⟨G, E, R.post_mono q fun b k vs G1 H1 x1 E1 ok => by
    have r := ok.ds (hs b)
    refine ⟨?_, fun p hp => k _ G1 _ x1 (E1.newL hp r)⟩
    rw [r.len]
    exact Nat.le_of_lt (small1000 (hl b))⟩
/-! ### calls -/
section
variable {CX : CXT} {k : Nat} {f : Addr} {fd : FuncData} {ps : List Str} {EE : XK} {x : Str} {p : Pos}
theorem je_call {α β γ : Type} {ins : α → List Slot} {mf : α → R β} {sl : β → Slot} {outs : β → List Slot} (F : FnOk X.prog X.w X.K X.mg X.base CX k f fd ps (spM X.K ins mf sl outs)) (hr : Room k X.A) (hg : Gl X x) (hm : X.mg x = some (.ref f)) (hk : PySem.W.keepIn X.K (.ref f) = true)
    (hb : Binds X.K fd ps []) (hx : Passes CX X EE) {ma : R γ} {as : γ → List Ar} {ρa : γ → List Slot} (arg : γ → α) (ha : JA X B ρ (e :: es) ma as ρa) (hne : ∀ e, ¬ B.rs e) (hi : ∀ c, goodIn (ρa c) (as c) = true := by intro _; rfl) (hins : ∀ c, insAt 0 (ρa c) (as c) = ins (arg c) := by intro _; rfl)
    (ho : ∀ c b, goodOut 0 (as c) (outs b) = true := by intro _ _; rfl) (hal : ∀ c, aliOk (ρa c) (as c) = true := by intro _; rfl) (hres : ∀ b, resOk (sl b) = true := by intro _; rfl)
    (hdb : (x == ("__debug__" : Str)) = false := by decide) (he : starEach (e :: es) X.env = (false, eval e X.env) :: starEach es X.env := by rfl) (hpl : (backTo pos (starEach es X.env)).any (·.1) = false := by rfl) :
    JE X B ρ (.Call (.Name x p) (e :: es) [] pos) (ma.bind fun c => (mf (arg c)).bind fun b => .ok (c, b)) (fun y => sl y.2) (fun y => backAt (ρa y.1) (movedAt (ρa y.1) (as y.1)) (as y.1) (outs y.2)) :=
  PE_imp (pe_call F hr hg hm hk hb .nil hx ha hdb he hpl) fun σ H Q ⟨G, E, q⟩ => ⟨G, E, R.post_mono (R.post_bind.mp q) fun c k vs G1 H1 x1 E1 ok => by
    show spM X.K ins mf sl outs (vs ++ []) H1 Q EE
    rw [List.append_nil]
    exact call_sp (arg c) E1 ok (hi c) (hins c) (ho c) (hal c) hres hne (R.post_mono (R.post_bind.mp k) fun b k v G2 H2 x2 E2 => k v G2 H2 (x1.trans x2) E2)⟩
/-- its arguments pure -/
theorem je_callP {α β : Type} {ins : α → List Slot} {mf : α → R β} {sl : β → Slot} {outs : β → List Slot} (F : FnOk X.prog X.w X.K X.mg X.base CX k f fd ps (spM X.K ins mf sl outs)) (hr : Room k X.A) (hg : Gl X x) (hm : X.mg x = some (.ref f)) (hk : PySem.W.keepIn X.K (.ref f) = true)
    (hb : Binds X.K fd ps []) (hx : Passes CX X EE) {as : List Ar} (arg : α) (ha : JA X B ρ (e :: es) (.ok ()) (fun _ => as) (fun _ => ρ)) (hne : ∀ e, ¬ B.rs e) (hi : goodIn ρ as = true := by rfl) (hins : insAt 0 ρ as = ins arg := by rfl)
    (ho : ∀ b, goodOut 0 as (outs b) = true := by intro _; rfl) (hal : aliOk ρ as = true := by rfl) (hres : ∀ b, resOk (sl b) = true := by intro _; rfl)
    (hdb : (x == ("__debug__" : Str)) = false := by decide) (he : starEach (e :: es) X.env = (false, eval e X.env) :: starEach es X.env := by rfl) (hpl : (backTo pos (starEach es X.env)).any (·.1) = false := by rfl) :
    JE X B ρ (.Call (.Name x p) (e :: es) [] pos) (mf arg) sl (fun y => backAt ρ (movedAt ρ as) as (outs y)) :=
  PE_imp (pe_call F hr hg hm hk hb .nil hx ha hdb he hpl) fun σ H Q ⟨G, E, q⟩ => ⟨G, E, fun vs G1 H1 x1 E1 ok => by
    show spM X.K ins mf sl outs (vs ++ []) H1 Q EE
    rw [List.append_nil]
    exact call_sp arg E1 ok hi hins ho hal hres hne (R.post_mono q fun b k v G2 H2 x2 E2 => k v G2 H2 (x1.trans x2) E2)⟩
end
end
end DL

/-! DL5: statements, loops -/
namespace DL
open PySem PySem.Spec L2

inductive Fl (N L T : Type) where
  | nx (n : N)
  | ct (l : L)
  | bk (l : L)
  | rt (t : T)
/-- how the ways out stand -/
structure Fin (N L T : Type) where
  n : N → List Slot
  c : L → List Slot
  k : L → List Slot
  s : T → Slot
  t : T → List Slot
def flP (K : PySem.W.Frag) (B : Base) (G : Hp) (D : Ends) {N L T : Type} (F : Fin N L T) : Fl N L T → Prop
  | .nx n => ∀ σ' G' H', Ex G G' → En K B G' H' σ' (F.n n) [] → D.nx σ' H'
  | .ct l => ∀ σ' G' H', Ex G G' → En K B G' H' σ' (F.c l) [] → D.ct σ' H'
  | .bk l => ∀ σ' G' H', Ex G G' → En K B G' H' σ' (F.k l) [] → D.bk σ' H'
  | .rt t => ∀ v σ' G' H', Ex G G' → En K B G' H' σ' (F.t t) [(v, F.s t)] → D.rt v H'
def tJS (K : PySem.W.Frag) (B : Base) (ρ : List Slot) {N L T : Type} (m : R (Fl N L T)) (F : Fin N L T) : TS := fun D σ H =>
  ∃ G, En K B G H σ ρ [] ∧ m.post (flP K B G D F) B.rs
def JS (X : Cx) (B : Base) (ρ : List Slot) (st : Stmt) {N L T : Type} (m : R (Fl N L T)) (F : Fin N L T) : Prop := PS X st (tJS X.K B ρ m F)
def JSs (X : Cx) (B : Base) (ρ : List Slot) (sts : List Stmt) {N L T : Type} (m : R (Fl N L T)) (F : Fin N L T) : Prop := PSs X sts (tJS X.K B ρ m F)
/-- a statement that just goes on -/
def tJ1 (K : PySem.W.Frag) (B : Base) (ρ : List Slot) {β : Type} (m : R β) (ρ' : β → List Slot) : TS := fun D σ H =>
  ∃ G, En K B G H σ ρ [] ∧ m.post (fun b => ∀ σ' G' H', Ex G G' → En K B G' H' σ' (ρ' b) [] → D.nx σ' H') B.rs
def J1 (X : Cx) (B : Base) (ρ : List Slot) (st : Stmt) {β : Type} (m : R β) (ρ' : β → List Slot) : Prop := PS X st (tJ1 X.K B ρ m ρ')
def bindF {N1 N L T : Type} (m : R (Fl N1 L T)) (k : N1 → R (Fl N L T)) : R (Fl N L T) := m.bind fun
  | .nx n => k n
  | .ct l => .ok (.ct l)
  | .bk l => .ok (.bk l)
  | .rt t => .ok (.rt t)
theorem flP_ex {K : PySem.W.Frag} {B : Base} {G G1 : Hp} {D : Ends} {N L T : Type} {F : Fin N L T} {f : Fl N L T} (h : flP K B G D F f) (e : Ex G G1) : flP K B G1 D F f := by
  cases f with
  | nx n => exact fun σ' G' H' x E => h σ' G' H' (e.trans x) E
  | ct n => exact fun σ' G' H' x E => h σ' G' H' (e.trans x) E
  | bk n => exact fun σ' G' H' x E => h σ' G' H' (e.trans x) E
  | rt n => exact fun v σ' G' H' x E => h v σ' G' H' (e.trans x) E
section
variable {X : Cx} {B : Base} {ρ : List Slot} {st : Stmt} {rest : List Stmt} {N N1 L T β : Type} {F : Fin N L T} {pos : Pos} {e : Expr}
theorem js_nil (bs : List Bool) (n : N) (h : forgot ρ bs = F.n n := by rfl) : JSs X B ρ [] (.ok (.nx n)) F :=
  PSs_imp pss_nil fun D σ H ⟨G, E, q⟩ => q σ G H (Ex.refl G) (by
    rw [← h]
    exact E.forgot bs)
theorem js_one {m : R (Fl N L T)} (h : JS X B ρ st m F) : JSs X B ρ [st] m F := pss_one h
theorem js_cons1 {m : R β} {ρ' : β → List Slot} {k : β → R (Fl N L T)} (h : J1 X B ρ st m ρ') (r : ∀ b, JSs X B (ρ' b) rest (k b) F) : JSs X B ρ (st :: rest) (m.bind k) F := by
  have r' : PSs X rest (fun D σ H => ∃ b, tJS X.K B (ρ' b) (k b) F D σ H) := ⟨fun pins s σ H D I ⟨b, q⟩ => (r b).run pins s σ H D I q⟩
  exact PSs_imp (pss_cons h r') fun D σ H ⟨G, E, q⟩ => ⟨G, E, R.post_mono (R.post_bind.mp q) fun b q1 σ' G' H' x E' => ⟨b, G', E', R.post_mono q1 fun f q2 => flP_ex q2 x⟩⟩
theorem js_cons {m : R (Fl N1 L T)} {ρ1 : N1 → List Slot} {k : N1 → R (Fl N L T)} (h : JS X B ρ st m ⟨ρ1, F.c, F.k, F.s, F.t⟩) (r : ∀ n, JSs X B (ρ1 n) rest (k n) F) : JSs X B ρ (st :: rest) (bindF m k) F := by
  have r' : PSs X rest (fun D σ H => ∃ b, tJS X.K B (ρ1 b) (k b) F D σ H) := ⟨fun pins s σ H D I ⟨b, q⟩ => (r b).run pins s σ H D I q⟩
  exact PSs_imp (pss_cons h r') fun D σ H ⟨G, E, q⟩ => ⟨G, E, R.post_mono (R.post_bind.mp q) fun f q1 => by
    cases f with
    | nx n => exact fun σ' G' H' x E' => ⟨n, G', E', R.post_mono q1 fun f q2 => flP_ex q2 x⟩
    | ct n => exact q1
    | bk n => exact q1
    | rt n => exact q1⟩
theorem js_ret {m : R β} {sl : β → Slot} {ρ' : β → List Slot} (f : β → T) (bs : List Bool) (h : JE X B ρ e m sl ρ') (hs : ∀ b, F.s (f b) = sl b := by intro _; rfl) (ht : ∀ b, forgot (ρ' b) bs = F.t (f b) := by intro _; rfl) : JS X B ρ (.Return (some e) pos) (m.bind fun b => .ok (.rt (f b))) F :=
  PS_imp (ps_ret h) fun D σ H ⟨G, E, q⟩ => ⟨G, E, R.post_mono (R.post_bind.mp q) fun b q1 v G' H' x E' => q1 v σ G' H' x (by
    rw [hs b, ← ht b]
    obtain ⟨A, c, nd, f'⟩ := E'.own
    cases c with
    | @cons _ _ A1 _ _ A2 c1 cr =>
      obtain ⟨A3, h1, h2⟩ := Cells.forgot bs (show Cells X.K B G' H' σ (ρ' b) A2 from cr)
      have sub : (A1 ++ A3).Sublist (A1 ++ A2) := h2.append_left A1
      refine ⟨E'.anc, ⟨A1 ++ A3, .cons c1 h1, sub.nodup nd, fun a m => f' a (sub.subset m)⟩, by rw [forgot_len]; exact E'.len, fun i j p e => ?_⟩
      rcases forgot_get (ρ' b) bs i _ e with z | z
      · cases z
      · exact E'.ali i j p z)⟩
theorem js_if {c : Expr} {a b : List Stmt} {mc : R β} {bn : β → Bool} {ρ' : β → List Slot} {ma mb : β → R (Fl N L T)} (h : JT X B ρ c mc bn ρ') (ha : ∀ x, JSs X B (ρ' x) a (ma x) F) (hb : ∀ x, JSs X B (ρ' x) b (mb x) F) :
    JS X B ρ (.If c a b pos) (mc.bind fun x => if bn x = true then ma x else mb x) F := by
  have ha' : PSs X a (fun D σ H => ∃ x, tJS X.K B (ρ' x) (ma x) F D σ H) := ⟨fun pins s σ H D I ⟨x, q⟩ => (ha x).run pins s σ H D I q⟩
  have hb' : PSs X b (fun D σ H => ∃ x, tJS X.K B (ρ' x) (mb x) F D σ H) := ⟨fun pins s σ H D I ⟨x, q⟩ => (hb x).run pins s σ H D I q⟩
  refine PS_imp (ps_if h ha' hb') fun D σ H ⟨G, E, q⟩ => ⟨G, E, R.post_mono (R.post_bind.mp q) fun x q1 G' H' y E' => ?_⟩
  cases hx : bn x with
  | true =>
    rw [if_pos hx] at q1
    exact ⟨x, G', E', R.post_mono q1 fun f q2 => flP_ex q2 y⟩
  | false =>
    rw [if_neg (by rw [hx]; decide)] at q1
    exact ⟨x, G', E', R.post_mono q1 fun f q2 => flP_ex q2 y⟩
/-- the test pure -/
theorem js_ifP {c : Expr} {a b : List Stmt} {t : Bool} {ma mb : R (Fl N L T)} (h : TP0 X B ρ c t) (ha : JSs X B ρ a ma F) (hb : JSs X B ρ b mb F) : JS X B ρ (.If c a b pos) (if t = true then ma else mb) F :=
  js_if (mc := .ok ()) (bn := fun _ => t) (ma := fun _ => ma) (mb := fun _ => mb) h (fun _ => ha) fun _ => hb
theorem js_break {F : Fin N L T} (bs : List Bool) (l : L) (h : forgot ρ bs = F.k l := by rfl) : JS X B ρ (.Break pos) (.ok (.bk l)) F :=
  PS_imp ps_break fun D σ H ⟨G, E, q⟩ => q σ G H (Ex.refl G) (by
    rw [← h]
    exact E.forgot bs)
theorem js_continue {F : Fin N L T} (bs : List Bool) (l : L) (h : forgot ρ bs = F.c l := by rfl) : JS X B ρ (.Continue pos) (.ok (.ct l)) F :=
  PS_imp ps_continue fun D σ H ⟨G, E, q⟩ => q σ G H (Ex.refl G) (by
    rw [← h]
    exact E.forgot bs)
theorem j1_pass : J1 X B ρ (.Pass pos) (.ok ()) (fun _ => ρ) := PS_imp ps_pass fun D σ H ⟨G, E, q⟩ => q σ G H (Ex.refl G) E
theorem j1_expr {m : R β} {sl : β → Slot} {ρ' : β → List Slot} (h : JE X B ρ e m sl ρ') (hs : swapsWith e none pos.line X.env = pure false := by rfl) : J1 X B ρ (.Expr e pos) m ρ' :=
  PS_imp (ps_expr h hs) fun D σ H ⟨G, E, q⟩ => ⟨G, E, R.post_mono q fun b q1 v G' H' x E' => q1 σ G' H' x E'.pop⟩
/-- x = e -/
theorem j1_set (i : Nat) {x : Str} {pos' : Pos} {m : R β} {sl : β → Slot} {ρ' : β → List Slot} (hN : X.N.Nodup) (h : JE X B ρ e m sl ρ') (hi : X.N[i]? = some x := by rfl) (hx : Loc X.env.scope x := by first | exact Or.inl rfl | exact Or.inr rfl)
    (hlt : ∀ b, i < (ρ' b).length := by intro _; exact of_decide_eq_true rfl) (hal : ∀ b, noAli i (ρ' b) = true := by intro _; rfl) (hres : ∀ b, resOk (sl b) = true := by intro _; rfl)
    (hs : swapsWith e (some (.Name x pos')) pos.line X.env = pure false := by rfl) (hf : X.fn x = true ∨ X.env.scope.names.lookup x = some .local := by first | exact .inl rfl | exact .inr rfl) : J1 X B ρ (.Assign [.Name x pos'] e pos) m (fun b => (ρ' b).set i (sl b)) :=
  PS_imp (ps_set (i := i) hN hi hx h (hs := hs) (hf := hf)) fun D σ H ⟨G, E, q⟩ => ⟨G, E, R.post_mono q fun b q1 v G' H' x E' => q1 (σ.set i (some v)) G' H' x (E'.set (hlt b) (fun j p z => by
    have := hres b
    rw [z] at this
    cases this) (hal b))⟩
end
end DL

/-! DL6: targets, loops -/
namespace DL
open PySem PySem.Spec L2

section
variable {K : PySem.W.Frag} {B : Base} {G G' H H' : Hp} {σ : L2.St} {ρ : List Slot} {ex : List (V × Slot)}
/-- an owned list of data, changed to another one of data -/
theorem own_dats : ∀ {vs : List V} {ds : List D}, RpAll K G vs ds → OwnAll K G H vs (ds.map OT.dat) []
  | _, _, .nil => .nil
  | _, _, .cons h r => .cons (A := []) (A' := []) (.dat h) (own_dats r)
theorem own_dats_inv : ∀ {vs : List V} {ds : List D} {A : List Addr}, OwnAll K G H vs (ds.map OT.dat) A → A = [] ∧ RpAll K G vs ds
  | _, [], _, h => by
    cases h
    exact ⟨rfl, .nil⟩
  | _, d :: ds, _, h => by
    cases h with
    | cons h r =>
      cases h with
      | dat h =>
        obtain ⟨e, r⟩ := own_dats_inv r
        exact ⟨by rw [e]; rfl, .cons h r⟩
theorem En.ownD (E : En K B G H σ ρ ex) {i l : Nat} {ds : List D} (h : ρ[i]? = some (.own l (.lst (ds.map OT.dat)))) (hal : noAlis ρ = true) : ∃ p vs, σ[i]? = some (some (.ref p)) ∧ H p = some (.lst vs) ∧ RpAll K G vs ds ∧
    ∀ G' H1 ex' vs' ds', En K B G' H1 σ ρ ex' → Ex G G' → H1 p = some (.lst vs) → RpAll K G' vs' ds' → En K B G' (upd H1 p (.lst vs')) σ (ρ.set i (.own l (.lst (ds'.map OT.dat)))) ex' := by
  obtain ⟨A, c, n, f⟩ := E.own
  have gen : ∀ {G H : Hp} {ex : List (V × Slot)} {A : List Addr}, Cells K B G H (ex.map (fun p => some p.1) ++ σ) (ex.map (·.2) ++ ρ) A → ∃ p vs A1 A2, σ[i]? = some (some (.ref p)) ∧ H p = some (.lst vs) ∧ RpAll K G vs ds ∧ A1 = [p] ∧ ((p ∈ B.Mo l ∨ B.H0 p = none) ∧ (l = 0 ∨ B.pv l = some (.ref p))) ∧
      Cells K B G H (ex.map (fun p => some p.1) ++ σ) ((ex.map (·.2) ++ ρ).set (ex.length + i) .non) A2 ∧ A.Perm (A1 ++ A2) := fun {G H ex A} c => by
    obtain ⟨v, A1, A2, e1, hO, ⟨hl, hv⟩, c2, p⟩ := c.take1 (i := ex.length + i) (l := l) (o := .lst (ds.map OT.dat)) (by
      rw [List.getElem?_append_right (by simp), List.length_map]
      simpa using h)
    rw [List.getElem?_append_right (by simp), List.length_map] at e1
    cases hO with
    | @lst a vs _ A3 ha hall =>
      obtain ⟨e3, r⟩ := own_dats_inv hall
      subst e3
      exact ⟨a, vs, [a], A2, by simpa using e1, ha, r, rfl, ⟨hl a (by simp), hv⟩, c2, p⟩
  obtain ⟨p, vs, A1, A2, e1, e2, e3, e4, e5, c2, pm⟩ := gen c
  refine ⟨p, vs, e1, e2, e3, fun G' H1 ex' vs' ds' E' hG hp r' => ?_⟩
  obtain ⟨A', c', n', f'⟩ := E'.own
  obtain ⟨q, ws, B1, B2, g1, g2, g3, g4, g5, d2, pm'⟩ := gen c'
  have epq : q = p := by
    have z := g1.symm.trans e1
    injection z with z
    injection z with z
    injection z
  subst epq
  subst g4
  have nq := pm'.nodup_iff.mp n'
  have nq2 : q ∉ B2 := (List.nodup_cons.mp nq).1
  have fq : G' q = none := f' q (pm'.mem_iff.mpr (by simp))
  have d3 : Cells K B G' (upd H1 q (.lst vs')) (ex'.map (fun p => some p.1) ++ σ) ((ex'.map (·.2) ++ ρ).set (ex'.length + i) .non) B2 := d2.ex (Ex.refl _) fun a m u e => by
    rw [upd_ne (fun z => nq2 (by rw [← z]; exact m))]
    exact e
  have hi : i < ρ.length := (List.getElem?_eq_some_iff.mp h).1
  obtain ⟨A3, c3, p3⟩ := d3.put1 (i := ex'.length + i) (l := l) (o := .lst (ds'.map OT.dat)) (v := .ref q) (A1 := [q]) (by
      rw [List.getElem?_set_self (by simp; omega)]) (by
      rw [List.getElem?_append_right (by simp), List.length_map]
      simpa using g1) (.lst upd_same (own_dats r')) ⟨fun a m => by
      rw [List.mem_singleton.mp m]
      exact g5.1, g5.2⟩
  rw [List.set_set, List.set_append_right _ _ (by simp), List.length_map, Nat.add_sub_cancel_left] at c3
  refine ⟨E'.anc.put fq (g5.1.imp (fun z => ⟨l, z⟩) id) _, ⟨A3, c3, p3.nodup_iff.mpr nq, fun a m => ?_⟩, by rw [List.length_set]; exact E'.len, fun k j pa e => ?_⟩
  · exact f' a (pm'.mem_iff.mpr (p3.mem_iff.mp m))
  · have hk : i ≠ k := fun z => by
      subst z
      rw [List.getElem?_set_self hi] at e
      cases e
    rw [List.getElem?_set_ne hk] at e
    exact absurd e (noAlis_get hal)
end
/-! ### targets -/
def tJG (K : PySem.W.Frag) (B : Base) (ρ : List Slot) (d : D) {γ : Type} (m : R γ) (ρ' : γ → List Slot) : TG := fun v σ H Q =>
  ∃ G, En K B G H σ ρ [] ∧ Rp K G v d ∧ m.post (fun c => ∀ σ' G' H', Ex G G' → En K B G' H' σ' (ρ' c) [] → Q σ' H') B.rs
def JG (X : Cx) (B : Base) (ρ : List Slot) (tg : Expr) (d : D) {γ : Type} (m : R γ) (ρ' : γ → List Slot) : Prop := PG X tg (tJG X.K B ρ d m ρ')
def tJGs (K : PySem.W.Frag) (B : Base) (ρ : List Slot) (ds : List D) {γ : Type} (m : R γ) (ρ' : γ → List Slot) : TGs := fun vs σ H Q =>
  ∃ G, En K B G H σ ρ [] ∧ RpAll K G vs ds ∧ m.post (fun c => ∀ σ' G' H', Ex G G' → En K B G' H' σ' (ρ' c) [] → Q σ' H') B.rs
def JGs (X : Cx) (B : Base) (ρ : List Slot) (ts : List Expr) (ds : List D) {γ : Type} (m : R γ) (ρ' : γ → List Slot) : Prop := PGs X ts (tJGs X.K B ρ ds m ρ')
section
variable {X : Cx} {B : Base} {ρ : List Slot} {pos : Pos} {e a b : Expr}
theorem PG_imp {e : Expr} {t t' : TG} (h : PG X e t) (k : ∀ v σ H Q, t' v σ H Q → t v σ H Q) : PG X e t' := ⟨fun pins s σ H v u Q I r q => h.run pins s σ H v u Q I r (k v σ H Q q)⟩
theorem PGs_imp {e : List Expr} {t t' : TGs} (h : PGs X e t) (k : ∀ v σ H Q, t' v σ H Q → t v σ H Q) : PGs X e t' := ⟨fun pins s σ H v u Q I r q => h.run pins s σ H v u Q I r (k v σ H Q q)⟩
theorem jg_name (i : Nat) {x : Str} {d : D} (hN : X.N.Nodup) (hi : X.N[i]? = some x := by rfl) (hx : Loc X.env.scope x := by first | exact Or.inl rfl | exact Or.inr rfl) (hf : X.fn x = true ∨ X.env.scope.names.lookup x = some .local := by first | exact .inl rfl | exact .inr rfl)
    (hlt : i < ρ.length := by exact of_decide_eq_true rfl) (hal : noAli i ρ = true := by rfl) : JG X B ρ (.Name x pos) d (.ok ()) (fun _ => ρ.set i (.val d)) :=
  PG_imp (pg_name (i := i) hN hi hx hf) fun v σ H Q ⟨G, E, r, q⟩ => q (σ.set i (some v)) G H (Ex.refl G) ((E.push r).set hlt (fun _ _ z => nomatch z) hal)
theorem jgs_nil : JGs X B ρ [] [] (.ok ()) (fun _ => ρ) := PGs_imp pgs_nil fun vs σ H Q ⟨G, E, r, q⟩ => by
  cases r
  exact ⟨rfl, q σ G H (Ex.refl G) E⟩
theorem jgs_cons {es : List Expr} {d : D} {ds : List D} {γ δ : Type} {m : R γ} {ρ1 : γ → List Slot} {m2 : γ → R δ} {ρ2 : γ → δ → List Slot} (h : JG X B ρ e d m ρ1) (t : ∀ c, JGs X B (ρ1 c) es ds (m2 c) (ρ2 c))
    (hs : (assignEach (e :: es) X.env).map (·.2) = assign e X.env :: (assignEach es X.env).map (·.2) := by rfl) : JGs X B ρ (e :: es) (d :: ds) (m.bind fun c => (m2 c).bind fun c2 => .ok (c, c2)) (fun p => ρ2 p.1 p.2) := by
  have t' : PGs X es (fun vs σ H Q => ∃ c, tJGs X.K B (ρ1 c) ds (m2 c) (ρ2 c) vs σ H Q) := ⟨fun pins s σ H vs us Q I r ⟨c, q⟩ => (t c).run pins s σ H vs us Q I r q⟩
  refine PGs_imp (pgs_cons h t' hs) fun vs σ H Q ⟨G, E, r, q⟩ => ?_
  cases r with
  | cons r rr => exact ⟨_, _, rfl, G, E, r, R.post_mono (R.post_bind.mp q) fun c q1 σ' G' H' x E' => ⟨c, G', E', rr.ex x, R.post_mono (R.post_bind.mp q1) fun c2 q2 σ2 G2 H2 x2 E2 => q2 σ2 G2 H2 (x.trans x2) E2⟩⟩
/-- the first target a name -/
theorem jgs_p {es : List Expr} {d : D} {ds : List D} {δ : Type} {ρ1 : List Slot} {m2 : R δ} {ρ2 : δ → List Slot} (h : JG X B ρ e d (.ok ()) (fun _ => ρ1)) (t : JGs X B ρ1 es ds m2 ρ2)
    (hs : (assignEach (e :: es) X.env).map (·.2) = assign e X.env :: (assignEach es X.env).map (·.2) := by rfl) : JGs X B ρ (e :: es) (d :: ds) m2 ρ2 := by
  refine PGs_imp (pgs_cons h t hs) fun vs σ H Q ⟨G, E, r, q⟩ => ?_
  cases r with
  | cons r rr => exact ⟨_, _, rfl, G, E, r, fun σ' G' H' x E' => ⟨G', E', rr.ex x, R.post_mono q fun c2 q2 σ2 G2 H2 x2 E2 => q2 σ2 G2 H2 (x.trans x2) E2⟩⟩
theorem jg_tup {es : List Expr} {k : Nat} {ds : List D} {γ : Type} {m : R γ} {ρ' : γ → List Slot} (hc : X.calm = true) (h : JGs X B ρ es ds m ρ') (hn : (assignEach es X.env).length = ds.length := by rfl) (hst : (assignEach es X.env).findIdx? (·.1) = none := by rfl) : JG X B ρ (.Tuple es k pos) (.tuple ds) m ρ' :=
  PG_imp (pg_tup (n := ds.length) hc h hn hst) fun v σ H Q ⟨G, E, r, q⟩ => by
    obtain ⟨a, xs, rfl, hS, hr⟩ := r.tup_inv
    exact ⟨a, xs, rfl, E.sub.t hS, hr.len, G, E, hr, q⟩
/-- targets = e -/
theorem j1_asg {tg : Expr} {β γ : Type} {m : R β} {d : β → D} {ρ' : β → List Slot} {m2 : β → R γ} {ρ2 : β → γ → List Slot} (h : JE X B ρ e m (fun b => .val (d b)) ρ') (g : ∀ b, JG X B (ρ' b) tg (d b) (m2 b) (ρ2 b))
    (hs : swapsWithSole [tg] e pos.line X.env = pure false := by rfl) (hw : swappedStores [tg] e X.env = pure none := by rfl) (h1 : (assignEach [tg] X.env).map (·.2) = [assign tg X.env] := by rfl) : J1 X B ρ (.Assign [tg] e pos) (m.bind fun b => (m2 b).bind fun c => .ok (b, c)) (fun p => ρ2 p.1 p.2) := by
  have g' : PG X tg (fun v σ H Q => ∃ b, tJG X.K B (ρ' b) (d b) (m2 b) (ρ2 b) v σ H Q) := ⟨fun pins s σ H v u Q I r ⟨b, q⟩ => (g b).run pins s σ H v u Q I r q⟩
  exact PS_imp (ps_asg h g' hs hw h1) fun D σ H ⟨G, E, q⟩ => ⟨G, E, R.post_mono (R.post_bind.mp q) fun b q1 v G' H' x E' => ⟨b, G', E'.pop, E'.top, R.post_mono (R.post_bind.mp q1) fun c q2 σ2 G2 H2 x2 E2 => q2 σ2 G2 H2 (x.trans x2) E2⟩⟩

/-- all targets names -/
theorem j1_asgN {tg : Expr} {β : Type} {m : R β} {d : β → D} {ρ' : β → List Slot} {ρ2 : β → List Slot} (h : JE X B ρ e m (fun b => .val (d b)) ρ') (g : ∀ b, JG X B (ρ' b) tg (d b) (.ok ()) (fun _ => ρ2 b))
    (hs : swapsWithSole [tg] e pos.line X.env = pure false := by rfl) (hw : swappedStores [tg] e X.env = pure none := by rfl) (h1 : (assignEach [tg] X.env).map (·.2) = [assign tg X.env] := by rfl) : J1 X B ρ (.Assign [tg] e pos) m ρ2 := by
  have g' : PG X tg (fun v σ H Q => ∃ b, tJG X.K B (ρ' b) (d b) (.ok ()) (fun _ => ρ2 b) v σ H Q) := ⟨fun pins s σ H v u Q I r ⟨b, q⟩ => (g b).run pins s σ H v u Q I r q⟩
  exact PS_imp (ps_asg h g' hs hw h1) fun D σ H ⟨G, E, q⟩ => ⟨G, E, R.post_mono q fun b q1 v G' H' x E' => ⟨b, G', E'.pop, E'.top, fun σ2 G2 H2 x2 E2 => q1 σ2 G2 H2 (x.trans x2) E2⟩⟩
/-- a, b = x, y: plain local names -/
theorem j1_par (i j : Nat) {x y : Str} {px py pt : Pos} {kt k2 : Nat} {pt2 : Pos} {β : Type} {m : R β} {as : β → List Ar} {ρ' : β → List Slot} {d1 d2 : β → D} (hc : X.calm = true) (hN : X.N.Nodup) (ha : JA X B ρ [a, b] m as ρ') (hd : ∀ c, as c = [.val (d1 c), .val (d2 c)] := by intro _; rfl)
    (hi : X.N[i]? = some x := by rfl) (hj : X.N[j]? = some y := by rfl) (hij : i ≠ j := by decide)
    (hx : X.env.scope.names.lookup x = some .local := by rfl) (hy : X.env.scope.names.lookup y = some .local := by rfl) (hw : swappedStores [.Tuple [.Name x px, .Name y py] kt pt] (.Tuple [a, b] k2 pt2) X.env = pure (some [x, y]) := by rfl)
    (hs : swapsWithSole [.Tuple [.Name x px, .Name y py] kt pt] (.Tuple [a, b] k2 pt2) pos.line X.env = pure false := by rfl) (hli : ∀ c, i < (ρ' c).length := by intro _; exact of_decide_eq_true rfl) (hlj : ∀ c, j < (ρ' c).length := by intro _; exact of_decide_eq_true rfl)
    (hai : ∀ c, noAli i (ρ' c) = true := by intro _; rfl) (haj : ∀ c, noAli j ((ρ' c).set i (.val (d1 c))) = true := by intro _; rfl) :
    J1 X B ρ (.Assign [.Tuple [.Name x px, .Name y py] kt pt] (.Tuple [a, b] k2 pt2) pos) m (fun c => ((ρ' c).set i (.val (d1 c))).set j (.val (d2 c))) :=
  PS_imp (ps_par hc hN hi hj hij hx hy ha hw hs) fun D σ H ⟨G, E, q⟩ => ⟨G, E, R.post_mono q fun c q1 vs G' H' z E' ok => by
    rw [hd c] at ok
    cases ok with
    | val r1 ok =>
      cases ok with
      | val r2 ok =>
        cases ok
        refine ⟨_, _, rfl, q1 _ G' H' z ?_⟩
        have E1 := (E'.push r1).set (hli c) (fun _ _ z => nomatch z) (hai c)
        exact (E1.push r2).set (by rw [List.length_set]; exact hlj c) (fun _ _ z => nomatch z) (haj c)⟩
/-- o[k] = .., o an owned list of data -/
theorem jg_sub (i : Nat) {x : Str} {px : Pos} {l : Nat} {α : Type} {en : α → D} {xs : List α} {y : α} {k : Int} {o2 : Expr} (h : ρ[i]? = some (.own l (.lst ((xs.map en).map OT.dat))) := by rfl) (hk : JP X B ρ o2 (.int k)) (hal : noAlis ρ = true := by rfl) (hN : X.N[i]? = some x := by rfl)
    (hv : Vis X.env.scope x := by first | exact Or.inl rfl | exact Or.inr (Or.inl rfl) | exact Or.inr (Or.inr rfl)) (hd : (x == ("__debug__" : Str)) = false := by decide) (hcd : (x == ("__classdict__" : Str)) = false := by decide)
    (ha : ∀ v, assign (.Subscript (.Name x px) o2 pos) X.env v = (do
      let ov ← holding [v] (eval (.Name x px) X.env)
      let iv ← holding [v, ov] (eval o2 X.env)
      standAt pos
      holding [v, ov, iv] (setItem ov iv v)
      release [v, ov, iv] []) := by intro _; rfl) :
    JG X B ρ (.Subscript (.Name x px) o2 pos) (en y) (R.some (ixN xs.length k)) (fun j => ρ.set i (.own l (.lst (((xs.set j y).map en).map OT.dat)))) :=
  PG_imp (pg_sub (pv i hN hv hd hcd) hk set_list ha) fun v σ H Q ⟨G, E, r, q⟩ => by
    obtain ⟨p, vs, e1, e2, e3, e4⟩ := E.ownD h hal
    obtain ⟨j, hj, q⟩ := R.post_some q
    refine ⟨.ref p, e1, G, E, fun w G1 H1 x1 E1 => ?_⟩
    have hn := E1.top.int_inv
    obtain ⟨p', vs', g1, g2, g3, g4⟩ := E1.pop.ownD h hal
    have ep : p' = p := by
      have z := g1.symm.trans e1
      injection z with z
      injection z with z
      injection z
    subst ep
    have hl : vs'.length = xs.length := by
      rw [g3.len, List.length_map]
    refine ⟨p', vs', k, j, rfl, hn, g2, by rw [hl]; exact hj, q σ G1 _ x1 ?_⟩
    have rs : ∀ {vs : List V} {ds : List D} (j : Nat), RpAll X.K G1 vs ds → RpAll X.K G1 (vs.set j v) (ds.set j (en y)) := by
      intro vs ds j h
      induction ds generalizing vs j with
      | nil =>
        cases h
        exact .nil
      | cons d ds ih =>
        cases h with
        | cons h1 h2 =>
          cases j with
          | zero => exact .cons (r.ex x1) h2
          | succ j => exact .cons h1 (ih j h2)
    have := g4 G1 H1 [] (vs'.set j v) ((xs.map en).set j (en y)) E1.pop (Ex.refl _) g2 (rs j g3)
    rw [← List.map_set] at this
    exact this
end
/-! ### loops -/
def forR {α S L T : Type} (f : α → S → R (Fl S S T)) : List α → S → R (Fl S L T)
  | [], s => .ok (.nx s)
  | x :: xs, s => (f x s).bind fun
    | .nx s' => forR f xs s'
    | .ct s' => forR f xs s'
    | .bk s' => .ok (.nx s')
    | .rt t => .ok (.rt t)
/-- an iterator that yields data -/
structure Yld (K : PySem.W.Frag) (B : Base) (J : It) (G : Hp) (ds : List D) : Prop where
  go : ∀ i H, i < ds.length → Ex G H → J.go i H
  stop : ∀ i H, ds.length ≤ i → Ex G H → J.stop i H
  yld : ∀ i G1 H1 σ ρ x H', Ex G G1 → En K B G1 H1 σ ρ [] → J.yld i H1 x H' → ∀ d, ds[i]? = some d → ∃ G2, Ex G1 G2 ∧ En K B G2 H' σ ρ [] ∧ Rp K G2 x d
def tJI (K : PySem.W.Frag) (B : Base) (ρ : List Slot) {β : Type} (m : R β) (ds : β → List D) (ρ' : β → List Slot) : TI := fun σ H Q =>
  ∃ G, En K B G H σ ρ [] ∧ m.post (fun b => ∀ J G' H', Ex G G' → En K B G' H' σ (ρ' b) [] → Yld K B J G' (ds b) → Q J H') B.rs
def JI (X : Cx) (B : Base) (ρ : List Slot) (tg it : Expr) {β : Type} (m : R β) (ds : β → List D) (ρ' : β → List Slot) : Prop := PI X tg it (tJI X.K B ρ m ds ρ')
section
variable {X : Cx} {B : Base} {ρ : List Slot} {pos : Pos} {e a b tg it : Expr}
theorem PI_imp {t t' : TI} (h : PI X tg it t) (k : ∀ σ H Q, t' σ H Q → t σ H Q) : PI X tg it t' := ⟨fun pins s σ H Q I q => h.run pins s σ H Q I (k σ H Q q)⟩
theorem js_for {α β S L T : Type} {m : R β} {xs : β → List α} {en : α → D} {ρ' : β → List Slot} {s0 : β → S} (ρS : S → List Slot) (ρB : α → S → List Slot) {f : α → S → R (Fl S S T)} {F : Fin S L T} {body : List Stmt} (hp : PassesOwn (model X.prog X.w) X.A X.env X.xe) (hc : X.calm = true)
    (hi : JI X B ρ tg it m (fun b => (xs b).map en) ρ') (bs : List Bool) (hw : ∀ b, forgot (ρ' b) bs = ρS (s0 b)) (hg : ∀ x s, JG X B (ρS s) tg (en x) (.ok ()) (fun _ => ρB x s))
    (hb : ∀ x s, JSs X B (ρB x s) body (f x s) ⟨ρS, ρS, ρS, F.s, F.t⟩) (hn : F.n = ρS := by rfl) (hs : ∀ v, foldedSetIterable it X.env v = pure v := by intro _; rfl) : JS X B ρ (.For tg it body [] pos) (m.bind fun b => forR f (xs b) (s0 b)) F := by
  have hg' : PG X tg (fun v σ H Q => ∃ x s, tJG X.K B (ρS s) (en x) (.ok ()) (fun _ => ρB x s) v σ H Q) := ⟨fun pins s σ H v u Q I r ⟨x, s', q⟩ => (hg x s').run pins s σ H v u Q I r q⟩
  have hb' : PSs X body (fun D σ H => ∃ x s, tJS X.K B (ρB x s) (f x s) ⟨ρS, ρS, ρS, F.s, F.t⟩ D σ H) := ⟨fun pins s σ H D I ⟨x, s', q⟩ => (hb x s').run pins s σ H D I q⟩
  refine PS_imp (ps_for hp hc hi hg' hb' hs) fun D σ H ⟨G, E, q⟩ => ⟨G, E, R.post_mono (R.post_bind.mp q) fun b q1 J G' H' xG E' Y => ?_⟩
  have hlen : ((xs b).map en).length = (xs b).length := List.length_map _
  let W : Nat → L2.St → Hp → Prop := fun i σ' H1 => ∃ G1 s, Ex G' G1 ∧ En X.K B G1 H1 σ' (ρS s) [] ∧ (forR f ((xs b).drop i) s).post (flP X.K B G1 D F) B.rs
  refine ⟨fun i mm σ' H1 => mm = (xs b).length - i ∧ i ≤ (xs b).length ∧ W i σ' H1, ⟨_, rfl, Nat.zero_le _, G', s0 b, Ex.refl _, by rw [← hw b]; exact E'.forgot bs, R.post_mono q1 fun fl h => flP_ex h xG⟩, ?_⟩
  rintro i mm σ1 H1 ⟨rfl, hi1, G1, s, x1, E1, q2⟩
  have nxt : ∀ G2 s', Ex G' G2 → i < (xs b).length → (forR f ((xs b).drop (i + 1)) s').post (flP X.K B G2 D F) B.rs → ∀ σ' G3 H', Ex G2 G3 → En X.K B G3 H' σ' (ρS s') [] → W (i + 1) σ' H' := fun G2 s' y hlt h σ' G3 H' z E3 => ⟨G3, s', y.trans z, E3, R.post_mono h fun fl h => flP_ex h z⟩
  by_cases hlt : i < (xs b).length
  · refine .inr ⟨Y.go i H1 (by rw [hlen]; exact hlt) (x1.trans E1.sub), fun σ' H' => W (i + 1) σ' H', fun σ' H' w => ⟨_, ?_, rfl, hlt, w⟩, fun v H2 hy => ?_⟩
    · omega
    · have hd : ((xs b).map en)[i]? = some (en (xs b)[i]) := by rw [List.getElem?_map, List.getElem?_eq_getElem hlt]; rfl
      obtain ⟨G2, x2, E2, r2⟩ := Y.yld i G1 H1 σ1 (ρS s) v H2 x1 E1 hy _ hd
      rw [List.drop_eq_getElem_cons hlt] at q2
      refine ⟨(xs b)[i], s, G2, E2, r2, fun σ' G3 H3 x3 E3 => ⟨(xs b)[i], s, G3, E3, R.post_mono (R.post_bind.mp q2) fun fl q3 => ?_⟩⟩
      have x13 := x2.trans x3
      have up : ∀ {m' : R (Fl S L T)}, m'.post (flP X.K B G1 D F) B.rs → m'.post (flP X.K B G3 D F) B.rs := fun h => R.post_mono h fun fl h => flP_ex h x13
      cases fl with
      | nx s' => exact nxt G3 s' (x1.trans x13) hlt (up q3)
      | ct s' => exact nxt G3 s' (x1.trans x13) hlt (up q3)
      | bk s' =>
        intro σ4 G4 H4 x4 E4
        have q3 : flP X.K B G1 D F (.nx s') := q3
        refine q3 σ4 G4 H4 (x13.trans x4) ?_
        rw [hn]
        exact E4
      | rt t =>
        intro v σ4 G4 H4 x4 E4
        have q3 : flP X.K B G1 D F (.rt t) := q3
        exact q3 v σ4 G4 H4 (x13.trans x4) E4
  · refine .inl ⟨Y.stop i H1 (by rw [hlen]; omega) (x1.trans E1.sub), ?_⟩
    rw [List.drop_eq_nil_of_le (by omega)] at q2
    have q2 : flP X.K B G1 D F (.nx s) := q2
    refine q2 σ1 G1 H1 (Ex.refl _) ?_
    rw [hn]
    exact E1
/-! what is walked -/
theorem yld_list {K : PySem.W.Frag} {G : Hp} {a : Addr} {xs : List V} {ds : List D} (h : SqL K G a xs) (hr : RpAll K G xs ds) (inj : ∀ H ys, Ex G H → SqL K H a ys → ys = xs) : Yld K B (Itl K a) G ds where
  go := fun i H hi e => ⟨xs, xs[i]'(by rw [hr.len]; exact hi), e.l h, List.getElem?_eq_getElem _⟩
  stop := fun i H hi e => ⟨xs, e.l h, by rw [hr.len]; exact hi⟩
  yld := fun i G1 H1 σ ρ x H' e E hy d hd => by
    obtain ⟨rfl, f⟩ := hy
    have := f xs ((e.trans E.sub).l h)
    obtain ⟨v, h1, h2⟩ := hr.get hd
    rw [this] at h1
    cases h1
    exact ⟨G1, Ex.refl _, E, h2.ex e⟩
theorem yld_tup {K : PySem.W.Frag} {G : Hp} {a : Addr} {xs : List V} {ds : List D} (h : SqT K G a xs) (hr : RpAll K G xs ds) : Yld K B (Itt K a) G ds where
  go := fun i H hi e => ⟨xs, xs[i]'(by rw [hr.len]; exact hi), e.t h, List.getElem?_eq_getElem _⟩
  stop := fun i H hi e => ⟨xs, e.t h, by rw [hr.len]; exact hi⟩
  yld := fun i G1 H1 σ ρ x H' e E hy d hd => by
    obtain ⟨rfl, f⟩ := hy
    have := f xs ((e.trans E.sub).t h)
    obtain ⟨v, h1, h2⟩ := hr.get hd
    rw [this] at h1
    cases h1
    exact ⟨G1, Ex.refl _, E, h2.ex e⟩
theorem ji_list {β : Type} {m : R β} {ds : β → List D} {ρ' : β → List Slot} (h : JE X B ρ it m (fun b => .val (.list (ds b))) ρ') : JI X B ρ tg it m ds ρ' :=
  PI_imp (pi_list h) fun σ H Q ⟨G, E, q⟩ => ⟨G, E, R.post_mono q fun b q1 v G' H' x E' => by
    obtain ⟨a, xs, rfl, hS, hr⟩ := E'.top.lst_inv
    have hS' : SqL X.K G' a xs := .inl hS
    refine ⟨a, rfl, ⟨xs, E'.sub.l hS'⟩, q1 _ G' H' x E'.pop ⟨fun i H hi e => ⟨xs, xs[i]'(by rw [hr.len]; exact hi), e.l hS', List.getElem?_eq_getElem _⟩, fun i H hi e => ⟨xs, e.l hS', by rw [hr.len]; exact hi⟩, fun i G1 H1 σ ρ x H' e E hy d hd => ?_⟩⟩
    obtain ⟨rfl, f⟩ := hy
    have := f xs ((e.trans E.sub).l hS')
    obtain ⟨v, h1, h2⟩ := hr.get hd
    rw [this] at h1
    cases h1
    exact ⟨G1, Ex.refl _, E, h2.ex e⟩⟩
theorem ji_tup {β : Type} {m : R β} {ds : β → List D} {ρ' : β → List Slot} (h : JE X B ρ it m (fun b => .val (.tuple (ds b))) ρ') : JI X B ρ tg it m ds ρ' :=
  PI_imp (pi_tup h) fun σ H Q ⟨G, E, q⟩ => ⟨G, E, R.post_mono q fun b q1 v G' H' x E' => by
    obtain ⟨a, xs, rfl, hS, hr⟩ := E'.top.tup_inv
    exact ⟨a, rfl, ⟨xs, E'.sub.t hS⟩, q1 _ G' H' x E'.pop (yld_tup hS hr)⟩⟩
/-- the ints lo, lo + 1, .. -/
def rng (lo hi : Int) : List Int := (List.range (hi - lo).toNat).map fun (k : Nat) => lo + (k : Int)
theorem yld_rng {K : PySem.W.Frag} {G : Hp} {lo : Int} {n : Nat} : Yld K B (Itr lo n) G (((List.range n).map fun (k : Nat) => lo + (k : Int)).map D.int) where
  go := fun i H hi e => by
    have : i < n := by simpa using hi
    exact this
  stop := fun i H hi e => by
    have : n ≤ i := by simpa using hi
    exact this
  yld := fun i G1 H1 σ ρ x H' e E hy d hd => by
    obtain ⟨rfl, rfl⟩ := hy
    have hi : i < n := by
      have := (List.getElem?_eq_some_iff.mp hd).1
      simpa using this
    rw [List.map_map, List.getElem?_map, List.getElem?_range hi] at hd
    cases hd
    exact ⟨G1, Ex.refl _, E, .int _⟩
def rngOk (i : Int) : Prop := -(2 ^ 62) ≤ i ∧ i < 2 ^ 62
instance {i : Int} : Decidable (rngOk i) := by unfold rngOk; infer_instance
theorem ji_rng1 {p : Pos} {β : Type} {m : R β} {as : β → List Ar} (i : β → Int) {ρ' : β → List Slot} (hm : X.mg "range" = none) (h : JA X B ρ [a] m as ρ') (ha : ∀ b, as b = [.val (.int (i b))] := by intro _; rfl) (hg : Gl X "range" := by rfl) (hs : starEach [a] X.env = [(false, eval a X.env)] := by rfl) :
    JI X B ρ tg (.Call (.Name "range" p) [a] [] pos) (m.bind fun b => (R.guard (rngOk (i b))).bind fun _ => .ok b) (fun b => (rng 0 (i b)).map D.int) ρ' :=
  PI_imp (pi_range1 hg hm h hs) fun σ H Q ⟨G, E, q⟩ => ⟨G, E, R.post_mono (R.post_bind.mp q) fun b q1 vs G' H' x E' ok => by
    obtain ⟨hc, q2⟩ := R.post_guard (R.post_bind.mp q1)
    rw [ha b] at ok
    cases ok with
    | val r ok =>
      cases ok
      refine ⟨i b, by rw [r.int_inv], hc.1, hc.2, q2 _ G' H' x E' ?_⟩
      show Yld X.K B _ G' ((rng 0 (i b)).map D.int)
      unfold rng
      rw [Int.sub_zero]
      exact yld_rng⟩
theorem ji_rng2 {p : Pos} {β : Type} {m : R β} {as : β → List Ar} (i j : β → Int) {ρ' : β → List Slot} (hm : X.mg "range" = none) (h : JA X B ρ [a, b] m as ρ') (ha : ∀ b, as b = [.val (.int (i b)), .val (.int (j b))] := by intro _; rfl) (hg : Gl X "range" := by rfl)
    (hs : starEach [a, b] X.env = [(false, eval a X.env), (false, eval b X.env)] := by rfl) (hs2 : starEach [b] X.env = [(false, eval b X.env)] := by rfl) :
    JI X B ρ tg (.Call (.Name "range" p) [a, b] [] pos) (m.bind fun b => (R.guard (rngOk (i b) ∧ rngOk (j b))).bind fun _ => .ok b) (fun b => (rng (i b) (j b)).map D.int) ρ' :=
  PI_imp (pi_range2 hg hm h hs hs2) fun σ H Q ⟨G, E, q⟩ => ⟨G, E, R.post_mono (R.post_bind.mp q) fun b q1 vs G' H' x E' ok => by
    obtain ⟨hc, q2⟩ := R.post_guard (R.post_bind.mp q1)
    rw [ha b] at ok
    cases ok with
    | val r ok =>
      cases ok with
      | val r2 ok =>
        cases ok
        exact ⟨i b, j b, by rw [r.int_inv, r2.int_inv], ⟨hc.1.1, hc.1.2, hc.2.1, hc.2.2⟩, q2 _ G' H' x E' yld_rng⟩⟩
/-! ### while -/
/-- so many turns -/
def whN {S L T : Type} (c : S → R Bool) (f : S → R (Fl S S T)) : Nat → S → R (Fl S L T)
  | 0, _ => .bad
  | n + 1, s => (c s).bind fun b => if b = true then (f s).bind fun
      | .nx s' => whN c f n s'
      | .ct s' => whN c f n s'
      | .bk s' => .ok (.nx s')
      | .rt t => .ok (.rt t)
    else .ok (.nx s)
open Classical in
/-- as many turns as it takes -/
noncomputable def whR {S L T : Type} (c : S → R Bool) (f : S → R (Fl S S T)) (s : S) : R (Fl S L T) :=
  if h : ∃ n, whN (L := L) c f n s ≠ .bad then whN c f h.choose s else .bad
theorem whN_mono {S L T : Type} {c : S → R Bool} {f : S → R (Fl S S T)} : ∀ {n : Nat} {s : S}, whN (L := L) c f n s ≠ .bad → ∀ m, n ≤ m → whN (L := L) c f m s = whN c f n s
  | 0, s, h, _, _ => absurd rfl h
  | n + 1, s, h, 0, hm => absurd hm (Nat.not_succ_le_zero _)
  | n + 1, s, h, m + 1, hm => by
    have hm' : n ≤ m := Nat.le_of_succ_le_succ hm
    rw [whN] at h ⊢
    rw [whN]
    cases hc : c s with
    | bad => rfl
    | err e => rfl
    | ok b =>
      rw [hc] at h
      cases b with
      | false => rfl
      | true =>
        simp only [R.bind, if_true] at h ⊢
        cases hf : f s with
        | bad => rfl
        | err e => rfl
        | ok fl =>
          rw [hf] at h
          cases fl with
          | nx s' => exact whN_mono h m hm'
          | ct s' => exact whN_mono h m hm'
          | bk s' => rfl
          | rt t => rfl
theorem whR_of {S L T : Type} {c : S → R Bool} {f : S → R (Fl S S T)} {n : Nat} {s : S} (h : whN (L := L) c f n s ≠ .bad) : whR (L := L) c f s = whN c f n s := by
  have hx : ∃ n, whN (L := L) c f n s ≠ .bad := ⟨n, h⟩
  unfold whR
  rw [dif_pos hx]
  rcases Nat.le_total n hx.choose with l | l
  · exact whN_mono h _ l
  · exact (whN_mono hx.choose_spec _ l).symm
theorem js_while {S L T : Type} (ρS : S → List Slot) {c : S → R Bool} {f : S → R (Fl S S T)} {F : Fin S L T} {body : List Stmt} (hp : PassesOwn (model X.prog X.w) X.A X.env X.xe) (s0 : S) (bs : List Bool) (hw : forgot ρ bs = ρS s0)
    (hc : ∀ s, JT X B (ρS s) e (c s) (fun b => b) (fun _ => ρS s)) (hb : ∀ s, JSs X B (ρS s) body (f s) ⟨ρS, ρS, ρS, F.s, F.t⟩) (hn : F.n = ρS := by rfl) : JS X B ρ (.While e body [] pos) (whR c f s0) F := by
  have hc' : PT X e (fun σ H Q => ∃ s, tJT X.K B (ρS s) (c s) (fun b => b) (fun _ => ρS s) σ H Q) := ⟨fun pins s σ H Q I ⟨x, q⟩ => (hc x).run pins s σ H Q I q⟩
  have hb' : PSs X body (fun D σ H => ∃ s, tJS X.K B (ρS s) (f s) ⟨ρS, ρS, ρS, F.s, F.t⟩ D σ H) := ⟨fun pins s σ H D I ⟨x, q⟩ => (hb x).run pins s σ H D I q⟩
  refine PS_imp (ps_while hp hc' hb') fun D σ H ⟨G, E, q⟩ => ?_
  have hne : ∃ n, (whN c f n s0 : R (Fl S L T)) ≠ .bad := by
    apply Classical.byContradiction
    intro z
    unfold whR at q
    rw [dif_neg z] at q
    exact q
  obtain ⟨n, hn0⟩ := hne
  rw [whR_of hn0] at q
  refine ⟨fun m σ' H' => ∃ G' s, Ex G G' ∧ En X.K B G' H' σ' (ρS s) [] ∧ (whN c f m s).post (flP X.K B G' D F) B.rs, ⟨n, G, s0, Ex.refl _, by rw [← hw]; exact E.forgot bs, q⟩, ?_⟩
  rintro m σ' H' ⟨G1, s, x1, E1, q1⟩
  cases m with
  | zero => exact q1.elim
  | succ m =>
    rw [whN] at q1
    refine ⟨s, G1, E1, R.post_mono (R.post_bind.mp q1) fun b q2 G2 H2 x2 E2 => ?_⟩
    cases b with
    | false =>
      have q2 : flP X.K B G1 D F (.nx s) := q2
      refine q2 σ' G2 H2 x2 ?_
      rw [hn]
      exact E2
    | true =>
      rw [if_pos rfl] at q2 ⊢
      refine ⟨fun σ3 H3 => ∃ G' s, Ex G G' ∧ En X.K B G' H3 σ3 (ρS s) [] ∧ (whN c f m s).post (flP X.K B G' D F) B.rs, fun σ3 H3 w => ⟨m, Nat.lt_succ_self m, w⟩, s, G2, E2, R.post_mono (R.post_bind.mp q2) fun fl q3 => ?_⟩
      have nxt : ∀ s', (whN c f m s').post (flP X.K B G1 D F) B.rs → ∀ σ' G3 H', Ex G2 G3 → En X.K B G3 H' σ' (ρS s') [] → ∃ G' s, Ex G G' ∧ En X.K B G' H' σ' (ρS s) [] ∧ (whN c f m s).post (flP X.K B G' D F) B.rs :=
        fun s' h σ' G3 H' z E3 => ⟨G3, s', x1.trans (x2.trans z), E3, R.post_mono h fun fl h => flP_ex h (x2.trans z)⟩
      cases fl with
      | nx s' => exact nxt s' q3
      | ct s' => exact nxt s' q3
      | bk s' =>
        intro σ4 G4 H4 x4 E4
        have q3 : flP X.K B G1 D F (.nx s') := q3
        refine q3 σ4 G4 H4 (x2.trans x4) ?_
        rw [hn]
        exact E4
      | rt t =>
        intro v σ4 G4 H4 x4 E4
        have q3 : flP X.K B G1 D F (.rt t) := q3
        exact q3 v σ4 G4 H4 (x2.trans x4) E4
end
end DL

/-! DL7: built-ins, subscripts, slices; a def -/
namespace DL
open PySem PySem.Spec L2

/-! ### built-ins by data -/
def CbD (K : PySem.W.Frag) (B : Base) (ρ : List Slot) (r : List V → Hp → VK → Prop) (as : List Ar) {γ : Type} (mr : R γ) (s : γ → Slot) : Prop :=
  ∀ G H σ vs Q, En K B G H σ ρ [] → ArOk K G σ vs as → mr.post (fun z => ∀ v G' H', Ex G G' → En K B G' H' σ ρ [(v, s z)] → Q v H') B.rs → r vs H Q
section
variable {X : Cx} {B : Base} {ρ : List Slot} {e a b : Expr} {es : List Expr} {pos : Pos}
theorem je_cb {E0 : Expr} {r : List V → Hp → VK → Prop} (hp : ∀ t, PA X es t → PE X E0 (tCB r t)) {as : List Ar} {γ : Type} {mr : R γ} {s : γ → Slot} (ha : JA X B ρ es (.ok ()) (fun _ => as) (fun _ => ρ)) (hr : CbD X.K B ρ r as mr s) : JE X B ρ E0 mr s (fun _ => ρ) :=
  PE_imp (hp _ ha) fun σ H Q ⟨G, E, q⟩ => ⟨G, E, fun vs G1 H1 x1 E1 ok => hr G1 H1 σ vs Q E1 ok (R.post_mono q fun z k v G2 H2 x2 E2 => k v G2 H2 (x1.trans x2) E2)⟩
theorem je_cb2 {E0 : Expr} {r : List V → Hp → VK → Prop} (hp : ∀ t, PA X es t → PE X E0 (tCB r t)) {β γ : Type} {ma : R β} {as : β → List Ar} {ρa : β → List Slot} {mr : β → R γ} {s : β → γ → Slot} (ha : JA X B ρ es ma as ρa) (hr : ∀ x, CbD X.K B (ρa x) r (as x) (mr x) (s x)) :
    JE X B ρ E0 (ma.bind fun x => (mr x).bind fun z => .ok (x, z)) (fun p => s p.1 p.2) (fun p => ρa p.1) :=
  PE_imp (hp _ ha) fun σ H Q ⟨G, E, q⟩ => ⟨G, E, R.post_mono (R.post_bind.mp q) fun x q1 vs G1 H1 x1 E1 ok => hr x G1 H1 σ vs Q E1 ok (R.post_mono (R.post_bind.mp q1) fun z k v G2 H2 x2 E2 => k v G2 H2 (x1.trans x2) E2)⟩
theorem cb_val {r : List V → Hp → VK → Prop} {K : PySem.W.Frag} {as : List Ar} {c : Prop} [Decidable c] {z : D} {w : V} (h : c → ∀ G H σ vs Q, Ex G H → ArOk K G σ vs as → Q w H → r vs H Q) (hw : ∀ G, Rp K G w z) : CbD K B ρ r as (R.guard c) (fun _ => .val z) :=
  fun G H σ vs Q E ok q => by
    obtain ⟨hc, q⟩ := R.post_guard q
    exact h hc G H σ vs Q E.sub ok (q w G H (Ex.refl G) (E.push (hw G)))
theorem cb_val0 {r : List V → Hp → VK → Prop} {K : PySem.W.Frag} {as : List Ar} {z : D} {w : V} (h : ∀ G H σ vs Q, Ex G H → ArOk K G σ vs as → Q w H → r vs H Q) (hw : ∀ G, Rp K G w z) : CbD K B ρ r as (.ok ()) (fun _ => .val z) :=
  fun G H σ vs Q E ok q => h G H σ vs Q E.sub ok (q w G H (Ex.refl G) (E.push (hw G)))
theorem ArOk.one {K : PySem.W.Frag} {G : Hp} {σ : L2.St} {vs : List V} {d : D} (h : ArOk K G σ vs [.val d]) : ∃ v, vs = [v] ∧ Rp K G v d := by
  cases h with
  | val r h =>
    cases h
    exact ⟨_, rfl, r⟩
theorem ArOk.two {K : PySem.W.Frag} {G : Hp} {σ : L2.St} {vs : List V} {d d' : D} (h : ArOk K G σ vs [.val d, .val d']) : ∃ v w, vs = [v, w] ∧ Rp K G v d ∧ Rp K G w d' := by
  cases h with
  | val r h =>
    obtain ⟨w, rfl, r'⟩ := h.one
    exact ⟨_, _, rfl, r, r'⟩
section
variable {K : PySem.W.Frag}
theorem cb_abs {i : Int} : CbD K B ρ (fun xs H Q => ∃ i, xs = [.int i] ∧ Q (.int (if i < 0 then -i else i)) H) [.val (.int i)] (.ok ()) (fun _ => .val (.int (if i < 0 then -i else i))) :=
  cb_val0 (fun G H σ vs Q _ ok q => by
    obtain ⟨v, rfl, r⟩ := ok.one
    exact ⟨i, by rw [r.int_inv], q⟩) fun _ => .int _
theorem cb_max {i j : Int} : CbD K B ρ (fun xs H Q => ∃ i j, xs = [.int i, .int j] ∧ Q (.int (if j > i then j else i)) H) [.val (.int i), .val (.int j)] (.ok ()) (fun _ => .val (.int (max i j))) :=
  cb_val0 (w := .int (max i j)) (fun G H σ vs Q _ ok q => by
    obtain ⟨v, w, rfl, r, r2⟩ := ok.two
    refine ⟨i, j, by rw [r.int_inv, r2.int_inv], ?_⟩
    rw [show (if j > i then j else i) = max i j by omega]
    exact q) fun _ => .int _
theorem cb_min {i j : Int} : CbD K B ρ (fun xs H Q => ∃ i j, xs = [.int i, .int j] ∧ Q (.int (if j < i then j else i)) H) [.val (.int i), .val (.int j)] (.ok ()) (fun _ => .val (.int (min i j))) :=
  cb_val0 (w := .int (min i j)) (fun G H σ vs Q _ ok q => by
    obtain ⟨v, w, rfl, r, r2⟩ := ok.two
    refine ⟨i, j, by rw [r.int_inv, r2.int_inv], ?_⟩
    rw [show (if j < i then j else i) = min i j by omega]
    exact q) fun _ => .int _
theorem cb_intB {k : Bool} : CbD K B ρ (fun xs H Q => (∃ i, xs = [.int i] ∧ Q (.int i) H) ∨ ∃ k, xs = [.bl k] ∧ Q (.int (if k then 1 else 0)) H) [.val (.bool k)] (.ok ()) (fun _ => .val (.int (if k = true then 1 else 0))) :=
  cb_val0 (fun G H σ vs Q _ ok q => by
    obtain ⟨v, rfl, r⟩ := ok.one
    exact .inr ⟨k, by rw [r.bl_inv], q⟩) fun _ => .int _
theorem cb_lenL {ds : List D} : CbD K B ρ (fun xs H Q => ∃ p ys, xs = [.ref p] ∧ (SqL K H p ys ∨ SqT K H p ys) ∧ Q (.int ys.length) H) [.val (.list ds)] (.ok ()) (fun _ => .val (.int ds.length)) :=
  cb_val0 (fun G H σ vs Q e ok q => by
    obtain ⟨v, rfl, r⟩ := ok.one
    obtain ⟨a, xs, rfl, hS, hr⟩ := r.lst_inv
    exact ⟨a, xs, rfl, .inl (.inl (e.rd hS)), by rw [hr.len]; exact q⟩) fun _ => .int _
theorem cb_lenT {ds : List D} : CbD K B ρ (fun xs H Q => ∃ p ys, xs = [.ref p] ∧ (SqL K H p ys ∨ SqT K H p ys) ∧ Q (.int ys.length) H) [.val (.tuple ds)] (.ok ()) (fun _ => .val (.int ds.length)) :=
  cb_val0 (fun G H σ vs Q e ok q => by
    obtain ⟨v, rfl, r⟩ := ok.one
    obtain ⟨a, xs, rfl, hS, hr⟩ := r.tup_inv
    exact ⟨a, xs, rfl, .inr (e.t hS), by rw [hr.len]; exact q⟩) fun _ => .int _
theorem Rp.scr_inv {K : PySem.W.Frag} {G : Hp} {v : V} {ns : List Int} (h : Rp K G v (.scr ns)) : ∃ a, v = .ref a ∧ SqL K G a (ns.map V.int) := by
  cases h with
  | scr h => exact ⟨_, rfl, h⟩
theorem cb_lenS {ns : List Int} : CbD K B ρ (fun xs H Q => ∃ p ys, xs = [.ref p] ∧ (SqL K H p ys ∨ SqT K H p ys) ∧ Q (.int ys.length) H) [.val (.scr ns)] (.ok ()) (fun _ => .val (.int ns.length)) :=
  cb_val0 (fun G H σ vs Q e ok q => by
    obtain ⟨v, rfl, r⟩ := ok.one
    obtain ⟨a, rfl, hS⟩ := r.scr_inv
    exact ⟨a, _, rfl, .inl (e.l hS), by rw [List.length_map]; exact q⟩) fun _ => .int _
instance {i j : Int} : Decidable (CDivP i j) := by unfold CDivP; infer_instance
theorem cb_divmod {i j : Int} : CbD K B ρ (fun xs H Q => ∃ i j, xs = [.int i, .int j] ∧ CDivP i j ∧ ∀ p, H p = none → Q (.ref p) (upd H p (.tup [.int (i / j), .int (i % j)]))) [.val (.int i), .val (.int j)] (R.guard (CDivP i j)) (fun _ => .val (.tuple [.int (i / j), .int (i % j)])) :=
  fun G H σ vs Q E ok q => by
    obtain ⟨hc, q⟩ := R.post_guard q
    obtain ⟨v, w, rfl, r, r2⟩ := ok.two
    refine ⟨i, j, by rw [r.int_inv, r2.int_inv], hc, fun p hp => q _ (upd G p _) _ (Ex.new (E.sub.back hp)) ((E.new hp _).push (.tup (.inl (.inl upd_same)) (.cons (.int _) (.cons (.int _) .nil))))⟩
end
/-! ### isinstance -/
def tyN : D → String
  | .none => "NoneType"
  | .bool _ => "bool"
  | .int _ => "int"
  | .str _ => "str"
  | .list _ => "list"
  | .tuple _ => "tuple"
  | .dict _ => "dict"
  | .scr _ => "list"
def isInt : D → Bool
  | .int _ => true
  | .bool _ => true
  | _ => false
def isBool : D → Bool
  | .bool _ => true
  | _ => false
def isTup : D → Bool
  | .tuple _ => true
  | _ => false
def isLst : D → Bool
  | .list _ => true
  | .scr _ => true
  | _ => false
def isStr : D → Bool
  | .str _ => true
  | _ => false
theorem isi_int (d : D) : kitB (tyN d) "int" = some (isInt d) := match d with
  | .none => (show kitB "NoneType" "int" = some false by decide +kernel)
  | .bool _ => (show kitB "bool" "int" = some true by decide +kernel)
  | .int _ => (show kitB "int" "int" = some true by decide +kernel)
  | .str _ => (show kitB "str" "int" = some false by decide +kernel)
  | .list _ => (show kitB "list" "int" = some false by decide +kernel)
  | .tuple _ => (show kitB "tuple" "int" = some false by decide +kernel)
  | .dict _ => (show kitB "dict" "int" = some false by decide +kernel)
  | .scr _ => (show kitB "list" "int" = some false by decide +kernel)
theorem isi_bool (d : D) : kitB (tyN d) "bool" = some (isBool d) := match d with
  | .none => (show kitB "NoneType" "bool" = some false by decide +kernel)
  | .bool _ => (show kitB "bool" "bool" = some true by decide +kernel)
  | .int _ => (show kitB "int" "bool" = some false by decide +kernel)
  | .str _ => (show kitB "str" "bool" = some false by decide +kernel)
  | .list _ => (show kitB "list" "bool" = some false by decide +kernel)
  | .tuple _ => (show kitB "tuple" "bool" = some false by decide +kernel)
  | .dict _ => (show kitB "dict" "bool" = some false by decide +kernel)
  | .scr _ => (show kitB "list" "bool" = some false by decide +kernel)
theorem isi_tuple (d : D) : kitB (tyN d) "tuple" = some (isTup d) := match d with
  | .none => (show kitB "NoneType" "tuple" = some false by decide +kernel)
  | .bool _ => (show kitB "bool" "tuple" = some false by decide +kernel)
  | .int _ => (show kitB "int" "tuple" = some false by decide +kernel)
  | .str _ => (show kitB "str" "tuple" = some false by decide +kernel)
  | .list _ => (show kitB "list" "tuple" = some false by decide +kernel)
  | .tuple _ => (show kitB "tuple" "tuple" = some true by decide +kernel)
  | .dict _ => (show kitB "dict" "tuple" = some false by decide +kernel)
  | .scr _ => (show kitB "list" "tuple" = some false by decide +kernel)
theorem isi_list (d : D) : kitB (tyN d) "list" = some (isLst d) := match d with
  | .none => (show kitB "NoneType" "list" = some false by decide +kernel)
  | .bool _ => (show kitB "bool" "list" = some false by decide +kernel)
  | .int _ => (show kitB "int" "list" = some false by decide +kernel)
  | .str _ => (show kitB "str" "list" = some false by decide +kernel)
  | .list _ => (show kitB "list" "list" = some true by decide +kernel)
  | .tuple _ => (show kitB "tuple" "list" = some false by decide +kernel)
  | .dict _ => (show kitB "dict" "list" = some false by decide +kernel)
  | .scr _ => (show kitB "list" "list" = some true by decide +kernel)
theorem isi_str (d : D) : kitB (tyN d) "str" = some (isStr d) := match d with
  | .none => (show kitB "NoneType" "str" = some false by decide +kernel)
  | .bool _ => (show kitB "bool" "str" = some false by decide +kernel)
  | .int _ => (show kitB "int" "str" = some false by decide +kernel)
  | .str _ => (show kitB "str" "str" = some true by decide +kernel)
  | .list _ => (show kitB "list" "str" = some false by decide +kernel)
  | .tuple _ => (show kitB "tuple" "str" = some false by decide +kernel)
  | .dict _ => (show kitB "dict" "str" = some false by decide +kernel)
  | .scr _ => (show kitB "list" "str" = some false by decide +kernel)
theorem Rp.ty {K : PySem.W.Frag} {G H : Hp} {v : V} {d : D} (h : Rp K G v d) (e : Ex G H) : TyX K H v (.type (tyN d)) := by
  cases h with
  | non => exact .base .non
  | bl b => exact .base (.bl b)
  | int b => exact .base (.int b)
  | str b => exact .base (.str b)
  | lst h r =>
    rcases e.rd h with h | ⟨o, h⟩
    · exact .base (.lst h)
    · exact .base (.frz h)
  | tup h r =>
    rcases e.t h with (h | ⟨o, h⟩) | ⟨o, its, n, h1, h2, _⟩
    · exact .base (.tup h)
    · exact .fTuple h
    · exact .kTuple h1 h2
  | scr h =>
    rcases h with h | ⟨o, its, n, h1, h2, _⟩
    · rcases e.rd h with h | ⟨o, h⟩
      · exact .base (.lst h)
      · exact .base (.frz h)
    · exact .kList h1 h2
  | dK h r => exact .base (.dK (e _ _ h))
  | dT h r => exact .base (.dT (e _ _ h))
theorem je_isi {T : String} {f : D → Bool} (hf : ∀ d, kitB (tyN d) T = some (f d)) {x : Str} {p p2 : Pos} {β : Type} {m : R β} {d : β → D} {ρ' : β → List Slot} (h : JE X B ρ a m (fun b => .val (d b)) ρ') (hmi : X.mg "isinstance" = none) (hm : X.mg x = none) (hv : bootBuiltins x = some (.type T))
    (hgi : Gl X "isinstance" := by rfl) (hg : Gl X x := by rfl) (hn : x ≠ "__name__" := by decide) (hd : (x == ("__debug__" : Str)) = false := by decide)
    (h1 : starEach [a, .Name x p2] X.env = (false, eval a X.env) :: starEach [.Name x p2] X.env := by rfl) (h2 : starEach [.Name x p2] X.env = (false, eval (.Name x p2) X.env) :: starEach [] X.env := by rfl) (h3 : (backTo pos (starEach [.Name x p2] X.env)).any (·.1) = false := by rfl) :
    JE X B ρ (.Call (.Name "isinstance" p) [a, .Name x p2] [] pos) m (fun b => .val (.bool (f (d b)))) ρ' :=
  PE_imp (pe_callB call_isi hgi hmi (by decide +kernel) (pa_cons h (pa_cons (pe_bltn hg hm hv (v := .ty T) rfl hn hd) pa_nil h2) h1) (by decide) (by decide) h1 h3) fun σ H Q ⟨G, E, q⟩ => ⟨G, E, R.post_mono q fun b k v G1 H1 x1 E1 =>
    ⟨v, .ty T, .type (tyN (d b)), .type T, f (d b), rfl, .ty T, E1.top.ty E1.sub, kit_ty (hf _), k _ G1 H1 x1 (E1.pop.push (.bl _))⟩⟩
/-! ### subscripts -/
section
variable {K : PySem.W.Frag}
theorem od_ixT {ds : List D} {i : Int} : OpD K B (rIxT K) (.tuple ds) (.int i) (R.some (atI ds i)) (fun d => .val d) := fun G H σ ρ vx vy Q E hx hy q => by
  obtain ⟨d, hd, q⟩ := R.post_some q
  obtain ⟨a, xs, rfl, hS, hr⟩ := hx.tup_inv
  obtain ⟨j, hj, hd⟩ := Option.bind_eq_some_iff.mp hd
  obtain ⟨v, hv, rv⟩ := hr.get hd
  refine ⟨a, xs, i, v, rfl, hy.int_inv, E.sub.t hS, ?_, q v G H (Ex.refl G) (E.push rv)⟩
  unfold atI
  rw [hr.len, hj]
  exact hv
theorem od_ixL {ds : List D} {i : Int} : OpD K B (rIxL K) (.list ds) (.int i) (R.some (atI ds i)) (fun d => .val d) := fun G H σ ρ vx vy Q E hx hy q => by
  obtain ⟨d, hd, q⟩ := R.post_some q
  obtain ⟨a, xs, rfl, hS, hr⟩ := hx.lst_inv
  obtain ⟨j, hj, hd⟩ := Option.bind_eq_some_iff.mp hd
  obtain ⟨v, hv, rv⟩ := hr.get hd
  refine ⟨a, xs, i, v, rfl, hy.int_inv, .inl (E.sub.rd hS), ?_, q v G H (Ex.refl G) (E.push rv)⟩
  unfold atI
  rw [hr.len, hj]
  exact hv
theorem atI_map {α β : Type} (f : α → β) (xs : List α) (i : Int) : atI (xs.map f) i = (atI xs i).map f := by
  unfold atI
  rw [List.length_map]
  cases ixN xs.length i with
  | none => rfl
  | some j => simp
theorem od_map {r : R2} {x y : D} {α : Type} {o : Option α} {f : α → D} (h : OpD K B r x y (R.some (o.map f)) (fun d => .val d)) : OpD K B r x y (R.some o) (fun a => .val (f a)) := fun G H σ ρ vx vy Q E hx hy q => by
  obtain ⟨d, hd, q⟩ := R.post_some q
  refine h G H σ ρ vx vy Q E hx hy ?_
  rw [hd]
  exact q
/-- one kind of items -/
theorem od_ixTm {α : Type} {f : α → D} {xs : List α} {i : Int} : OpD K B (rIxT K) (.tuple (xs.map f)) (.int i) (R.some (atI xs i)) (fun a => .val (f a)) := od_map (by rw [← atI_map]; exact od_ixT)
theorem od_ixLm {α : Type} {f : α → D} {xs : List α} {i : Int} : OpD K B (rIxL K) (.list (xs.map f)) (.int i) (R.some (atI xs i)) (fun a => .val (f a)) := od_map (by rw [← atI_map]; exact od_ixL)
/-- a place known -/
theorem od_ixTs {ds : List D} {i : Int} {d : D} (h : atI ds i = some d) : OpD K B (rIxT K) (.tuple ds) (.int i) (.ok ()) (fun _ => .val d) := fun G H σ ρ vx vy Q E hx hy q => od_ixT G H σ ρ vx vy Q E hx hy (by rw [h]; exact q)
theorem od_ixLs {ds : List D} {i : Int} {d : D} (h : atI ds i = some d) : OpD K B (rIxL K) (.list ds) (.int i) (.ok ()) (fun _ => .val d) := fun G H σ ρ vx vy Q E hx hy q => od_ixL G H σ ρ vx vy Q E hx hy (by rw [h]; exact q)
end
/-- o[k], o an owned list of data -/
theorem je_ixO (i : Nat) {x : Str} {px : Pos} {l : Nat} {α : Type} {en : α → D} {xs : List α} {k : Int} (h : ρ[i]? = some (.own l (.lst ((xs.map en).map OT.dat))) := by rfl) (hk : JP X B ρ b (.int k)) (hal : noAlis ρ = true := by rfl) (hN : X.N[i]? = some x := by rfl)
    (hv : Vis X.env.scope x := by first | exact Or.inl rfl | exact Or.inr (Or.inl rfl) | exact Or.inr (Or.inr rfl)) (hd : (x == ("__debug__" : Str)) = false := by decide) (hcd : (x == ("__classdict__" : Str)) = false := by decide) (hs : PlainIx b := by exact fun _ _ => rfl) :
    JE X B ρ (.Subscript (.Name x px) b pos) (R.some (atI xs k)) (fun y => .val (en y)) (fun _ => ρ) :=
  PE_imp (pe_ix ix_list (pv i hN hv hd hcd) hk hs) fun σ H Q ⟨G, E, q⟩ => by
    obtain ⟨p, vs, e1, e2, e3, e4⟩ := E.ownD h hal
    obtain ⟨y, hy, q⟩ := R.post_some q
    refine ⟨.ref p, e1, G, E, fun w G1 H1 x1 E1 => ?_⟩
    have hn := E1.top.int_inv
    obtain ⟨p', vs', g1, g2, g3, g4⟩ := E1.pop.ownD h hal
    have ep : p' = p := by
      have z := g1.symm.trans e1
      injection z with z
      injection z with z
      injection z
    subst ep
    have hy' : atI (xs.map en) k = some (en y) := by rw [atI_map, hy]; rfl
    obtain ⟨j, hj, hd⟩ := Option.bind_eq_some_iff.mp hy'
    obtain ⟨v, hv, rv⟩ := g3.get hd
    refine ⟨p', vs', k, v, rfl, hn, .inl (.inl g2), ?_, q v G1 H1 x1 (E1.pop.push rv)⟩
    unfold atI
    rw [g3.len, hj]
    exact hv
/-! ### slices -/
def tJO (K : PySem.W.Frag) (B : Base) (ρ : List Slot) (o : Option Int) : TO := fun σ H Q => ∃ G, En K B G H σ ρ [] ∧ ∀ G' H', Ex G G' → En K B G' H' σ ρ [] → Q o H'
def JO (X : Cx) (B : Base) (ρ : List Slot) (e : Option Expr) (o : Option Int) : Prop := PO X e (tJO X.K B ρ o)
theorem PO_imp {e : Option Expr} {t t' : TO} (h : PO X e t) (k : ∀ σ H Q, t' σ H Q → t σ H Q) : PO X e t' := ⟨fun pins s σ H Q I q => h.run pins s σ H Q I (k σ H Q q)⟩
theorem jo_none : JO X B ρ none none := PO_imp po_none fun σ H Q ⟨G, E, q⟩ => q G H (Ex.refl G) E
theorem jo_some {i : Int} (h : JP X B ρ e (.int i)) : JO X B ρ (some e) (some i) := PO_imp (po_some h) fun σ H Q ⟨G, E, q⟩ => ⟨G, E, fun v G1 H1 x1 E1 => ⟨i, E1.top.int_inv, q G1 H1 x1 E1.pop⟩⟩
/-- a slice of a list -/
def cut {α : Type} (xs : List α) (lo hi : Option Int) : List α := (xs.drop (HT.sIx xs.length 0 lo)).take (HT.sIx xs.length xs.length hi - HT.sIx xs.length 0 lo)
theorem cut_map {α β : Type} (f : α → β) (xs : List α) (lo hi : Option Int) : cut (xs.map f) lo hi = (cut xs lo hi).map f := by
  unfold cut
  rw [List.length_map, List.map_take, List.map_drop]
theorem cut_rp {K : PySem.W.Frag} {G : Hp} {xs : List V} {ds : List D} {lo hi : Option Int} (h : RpAll K G xs ds) : RpAll K G (cutV xs lo hi) (cut ds lo hi) := by
  unfold cutV cut
  rw [h.len]
  exact (h.drop _).take _
theorem je_slL {o1 o2 : Option Expr} {p2 : Pos} {lo hi : Option Int} {β : Type} {m : R β} {ds : β → List D} {ρ' : β → List Slot} (h : JE X B ρ a m (fun b => .val (.list (ds b))) ρ') (h1 : ∀ b, JO X B (ρ' b) o1 lo) (h2 : ∀ b, JO X B (ρ' b) o2 hi) :
    JE X B ρ (.Subscript a (.Slice o1 o2 none p2) pos) m (fun b => .own 0 (.lst ((cut (ds b) lo hi).map OT.dat))) ρ' := by
  have h1' : PO X o1 (fun σ H Q => ∃ b, tJO X.K B (ρ' b) lo σ H Q) := ⟨fun pins s σ H Q I ⟨b, q⟩ => (h1 b).run pins s σ H Q I q⟩
  have h2' : PO X o2 (fun σ H Q => ∃ b, tJO X.K B (ρ' b) hi σ H Q) := ⟨fun pins s σ H Q I ⟨b, q⟩ => (h2 b).run pins s σ H Q I q⟩
  refine PE_imp (pe_slice sl_list h h1' h2') fun σ H Q ⟨G, E, q⟩ => ⟨G, E, R.post_mono q fun b k v G1 H1 x1 E1 => ⟨b, G1, E1.pop, fun G2 H2 x2 E2 => ⟨b, G2, E2, fun G3 H3 x3 E3 => ?_⟩⟩⟩
  obtain ⟨p, xs, rfl, hS, hr⟩ := E1.top.lst_inv
  have x13 := x2.trans x3
  exact ⟨p, xs, rfl, .inl ((x13.trans E3.sub).rd hS), fun q' hq => k _ G3 _ (x1.trans x13) (E3.newL hq (cut_rp (RpAll.ex x13 hr)))⟩
theorem je_slS {o1 o2 : Option Expr} {p2 : Pos} {lo hi : Option Int} {β : Type} {m : R β} {ns : β → List Int} {ρ' : β → List Slot} (h : JE X B ρ a m (fun b => .val (.scr (ns b))) ρ') (h1 : ∀ b, JO X B (ρ' b) o1 lo) (h2 : ∀ b, JO X B (ρ' b) o2 hi) :
    JE X B ρ (.Subscript a (.Slice o1 o2 none p2) pos) m (fun b => .own 0 (.lst (((cut (ns b) lo hi).map D.int).map OT.dat))) ρ' := by
  have h1' : PO X o1 (fun σ H Q => ∃ b, tJO X.K B (ρ' b) lo σ H Q) := ⟨fun pins s σ H Q I ⟨b, q⟩ => (h1 b).run pins s σ H Q I q⟩
  have h2' : PO X o2 (fun σ H Q => ∃ b, tJO X.K B (ρ' b) hi σ H Q) := ⟨fun pins s σ H Q I ⟨b, q⟩ => (h2 b).run pins s σ H Q I q⟩
  refine PE_imp (pe_slice sl_list h h1' h2') fun σ H Q ⟨G, E, q⟩ => ⟨G, E, R.post_mono q fun b k v G1 H1 x1 E1 => ⟨b, G1, E1.pop, fun G2 H2 x2 E2 => ⟨b, G2, E2, fun G3 H3 x3 E3 => ?_⟩⟩⟩
  obtain ⟨p, rfl, hS⟩ := E1.top.scr_inv
  have x13 := x2.trans x3
  refine ⟨p, _, rfl, (x13.trans E3.sub).l hS, fun q' hq => k _ G3 _ (x1.trans x13) (E3.newL hq ?_)⟩
  rw [← cut_map]
  exact cut_rp (RpAll.of_ints (ns b))
/-! ### lists joined -/
def rCatR : R2 := fun x y H Q => ∃ l b xs zs, x = .ref l ∧ y = .ref b ∧ Rd H l (.lst xs) ∧ Rd H b (.lst zs) ∧ xs.length + zs.length ≤ sizeLine ∧ ∀ p, H p = none → Q (.ref p) (upd H p (.lst (xs ++ zs)))
theorem op_catR : OpR X (binaryOp .Add) rCatR := by
  intro pins s σ H x y v u Q I rx ry h
  obtain ⟨l, b, xs, zs, rfl, rfl, hH, hB, hz, q⟩ := h
  cases rx
  cases ry
  obtain ⟨z1, i1, n1, r1, g1⟩ := hH.ok I.hok
  obtain ⟨z2, i2, n2, r2, g2⟩ := hB.ok I.hok
  have l1 := r1.length
  have l2 := r2.length
  refine PySem.P.add_list g1 g2 ?_ (by simp only [List.size_toArray]; omega)
  rw [List.append_toArray]
  exact ⟨.ref _, _, I.lnew (t' := s.toks) (r1.append r2) (by simp only [List.length_append]; omega), rfl, q _ I.fresh⟩
theorem od_cat {K : PySem.W.Frag} {ds es : List D} : OpD K B rCatR (.list ds) (.list es) (R.guard (ds.length + es.length ≤ sizeLine)) (fun _ => .own 0 (.lst ((ds ++ es).map OT.dat))) := fun G H σ ρ vx vy Q E hx hy q => by
  obtain ⟨hc, q⟩ := R.post_guard q
  obtain ⟨a, xs, rfl, hS, hr⟩ := hx.lst_inv
  obtain ⟨b, ys, rfl, hS2, hr2⟩ := hy.lst_inv
  exact ⟨a, b, xs, ys, rfl, rfl, E.sub.rd hS, E.sub.rd hS2, by rw [hr.len, hr2.len]; exact hc, fun p hp => q _ G _ (Ex.refl G) (E.newL hp (hr.append hr2))⟩
end
end DL

/-! DL8: a def keeps its mirror's promise -/
namespace DL
open PySem PySem.Spec L2

/-- a def as the head tells it -/
abbrev FnP (K : PySem.W.Frag) (x : Str) (st : Stmt) (f : Addr) (fd : FuncData) : Prop := FunD K x x (defArgs st) (defBody st) (defScope st) [] [] f fd
/-- a def behind the top: where it stands, its name, how arguments come -/
structure DT (K : PySem.W.Frag) (mg : Str → Option Value) (x : Str) (st : Stmt) (ps : List Str) where
  a : Addr
  d : FuncData
  f : FnP K x st a d
  g : mg x = some (.ref a)
  b : Binds K d ps []
/-- it always returns -/
def fin0 {N L T : Type} (m : R (Fl N L T)) : R T := m.bind fun
  | .rt t => .ok t
  | _ => .bad
/-- it never returns a value -/
def finN {N L T : Type} (m : R (Fl N L T)) : R N := m.bind fun
  | .nx n => .ok n
  | _ => .bad
section
variable {P : Program} {w : World} {K : PySem.W.Frag} {mg : Str → Option Value} {base : Heap} {x : Str} {st : Stmt} {f : Addr} {fd : FuncData} {N ps : List Str} {k : Nat}
theorem start_en {B : Base} {G H : Hp} {vs : List V} {ρ : List Slot} {d : Nat} (E : En K B G H (vs.map some) ρ []) (hN : N.length = vs.length + d) : En K B G H (L2.start N vs) (ρ ++ List.replicate d .non) [] := by
  unfold L2.start
  rw [show N.length - vs.length = d by omega]
  obtain ⟨A, c, n, g⟩ := E.own
  have ap : ∀ {σ : L2.St} {ρ : List Slot} {A : List Addr}, Cells K B G H σ ρ A → Cells K B G H (σ ++ List.replicate d none) (ρ ++ List.replicate d .non) A := by
    intro σ ρ A h
    induction h with
    | nil =>
      have nn : ∀ m : Nat, Cells K B G H (List.replicate m none) (List.replicate m .non) [] := by
        intro m
        induction m with
        | zero => exact .nil
        | succ m ih => exact .cons (A := []) .non ih
      exact nn d
    | cons c r ih => exact .cons c ih
  refine ⟨E.anc, ⟨A, ap (show Cells K B G H (vs.map some) ρ A from c), n, g⟩, by simp [← E.len], fun i j p e => ?_⟩
  by_cases hi : i < ρ.length
  · rw [List.getElem?_append_left hi] at e
    obtain ⟨v, w, h1, h2, h3⟩ := E.ali i j p e
    have l1 : i < (vs.map some).length := by rw [E.len]; exact hi
    have l2 : j < (vs.map some).length := (List.getElem?_eq_some_iff.mp h2).1
    exact ⟨v, w, by rw [List.getElem?_append_left l1]; exact h1, by rw [List.getElem?_append_left l2]; exact h2, h3⟩
  · rw [List.getElem?_append_right (by omega)] at e
    have := (List.mem_replicate.mp (List.mem_of_getElem? e)).2
    cases this
def okOuts : Nat → List Slot → Bool
  | _, [] => true
  | n, .non :: r => okOuts (n + 1) r
  | n, .own l _ :: r => l == n + 1 && okOuts (n + 1) r
  | _, _ :: _ => false
theorem okOuts_ali : ∀ {ρ : List Slot} {n : Nat}, okOuts n ρ = true → ∀ {i j : Nat} {p : List Nat}, ρ[i]? ≠ some (.ali j p)
  | [], _, _, _, _, _ => fun e => nomatch e
  | s :: ρ, n, h, i, j, p => fun e => by
    have h' : okOuts (n + 1) ρ = true ∧ s ≠ .ali j p := by
      cases s <;> simp [okOuts] at h
      · exact ⟨h, fun z => nomatch z⟩
      · exact ⟨h.2, fun z => nomatch z⟩
    cases i with
    | zero =>
      simp at e
      exact h'.2 e
    | succ i => exact okOuts_ali h'.1 (i := i) (by simpa using e)
theorem stop_en {B : Base} {G H : Hp} {vs : List V} {σ : L2.St} {ρ : List Slot} {d : Nat} {v : V} {s : Slot} (E : En K B G H σ (ρ ++ List.replicate d .non) [(v, s)]) (hv : ∀ k, B.pv (k + 1) = vs[k]?) (ho : okOuts 0 ρ = true) (hl : vs.length = ρ.length) : En K B G H (vs.map some) ρ [(v, s)] := by
  obtain ⟨A, c, n, g⟩ := E.own
  cases c with
  | @cons _ _ A1 _ _ A2 c1 cr =>
    have cut : ∀ {ρ : List Slot} {σ : L2.St} {A : List Addr} {ws : List V} (n : Nat), Cells K B G H σ (ρ ++ List.replicate d .non) A → (∀ k, B.pv (n + k + 1) = ws[k]?) → okOuts n ρ = true → ws.length = ρ.length → Cells K B G H (ws.map some) ρ A := by
      intro ρ
      induction ρ with
      | nil =>
        intro σ A ws n h _ _ hl
        have nn : ∀ (m : Nat) {σ : L2.St} {A : List Addr}, Cells K B G H σ (List.replicate m .non) A → A = [] := by
          intro m
          induction m with
          | zero =>
            intro σ A h
            cases h
            rfl
          | succ m ih =>
            intro σ A h
            cases h with
            | cons c r =>
              cases c
              rw [ih r]
              rfl
        have e := nn d h
        subst e
        cases ws with
        | nil => exact .nil
        | cons a b => cases hl
      | cons s ρ ih =>
        intro σ A ws n h hv ho hl
        cases h with
        | @cons x0 _ B1 σ0 _ B2 c r =>
          cases ws with
          | nil => cases hl
          | cons y ws =>
            have tl : okOuts (n + 1) ρ = true → Cells K B G H (ws.map some) ρ B2 := fun ho => ih (n + 1) r (fun k => by
              have := hv (k + 1)
              rw [show n + (k + 1) + 1 = n + 1 + k + 1 by omega] at this
              simpa using this) ho (by simpa using hl)
            cases c with
            | non => exact .cons .non (tl (by simpa [okOuts] using ho))
            | val h => simp [okOuts] at ho
            | ali => simp [okOuts] at ho
            | @own u l o _ hO hr hp =>
              have ho' : l = n + 1 ∧ okOuts (n + 1) ρ = true := by simpa [okOuts] using ho
              obtain ⟨rfl, ho2⟩ := ho'
              have e1 := hp.resolve_left (Nat.succ_ne_zero n)
              have e2 := hv 0
              rw [show n + 0 + 1 = n + 1 by omega, e1] at e2
              have e3 : u = y := by simpa using e2
              subst e3
              exact .cons (.own hO hr hp) (tl ho2)
    exact ⟨E.anc, ⟨_, .cons c1 (cut 0 (show Cells K B G H σ (ρ ++ List.replicate d .non) A2 from cr) (fun k => by rw [Nat.zero_add]; exact hv k) ho hl), n, g⟩, by rw [List.length_map]; exact hl, fun i j p e => absurd e (okOuts_ali ho)⟩
/-- THE RULE: the body's mirror is the def's -/
theorem fn_ok {α β N1 L1 : Type} {ins : α → List Slot} {sl : β → Slot} {outs : β → List Slot} {n1 : N1 → List Slot} {c1 k1 : L1 → List Slot} (mb : α → R (Fl N1 L1 β)) (d : Nat) (F : FnP K x st f fd) (S : FnScope N ps (defScope st)) (hN : N.length = ps.length + d)
    (hi : ∀ a, (ins a).length = ps.length) (ho : ∀ b, okOuts 0 (outs b) = true) (ho2 : ∀ b, (outs b).length = ps.length)
    (hbody : ∀ (cdv : Value) (A : Around) (outer : List PySem.Env) (s : Shared) (H : Hp) (E : XK), Room k (A.deeper (PyProof.Rows.envOfC x (defScope st) s.heap.objs.size f cdv)) → ∀ (B : Base), (∀ e, ¬ B.rs e) → ∀ a,
      JSs (cxOf CX0 P w K mg base N x (defScope st) f cdv A outer s H E).nox B (ins a ++ List.replicate d .non) (defBody st) (mb a) ⟨n1, c1, k1, sl, fun b => outs b ++ List.replicate d .non⟩) :
    FnOk P w K mg base CX0 (k + 1) f fd ps (spM K ins (fun a => fin0 (mb a)) sl outs) := by
  refine F.ok S (fun vs H Q E h => ?_) fun cdv A outer s H vs Q E hr h => ?_
  · obtain ⟨a, G, As, E0, _⟩ := h
    have := E0.len
    rw [List.length_map] at this
    rw [this, hi a]
  · obtain ⟨a, G, As, E0, q⟩ := h
    have hl : vs.length = ps.length := by
      have := E0.len
      rw [List.length_map] at this
      rw [this, hi a]
    refine ⟨_, (hbody cdv A outer s H E hr (baseOf H G As vs fun _ => False) (fun e z => z) a).nox, G, start_en E0 (by rw [hN, hl]), ?_⟩
    have q' := R.post_bind.mp q
    refine R.post_mono q' fun fl q1 => ?_
    cases fl with
    | nx n => exact q1.elim
    | ct n => exact q1.elim
    | bk n => exact q1.elim
    | rt b => exact fun v σ' G' H' x1 E1 => q1 v G' H' (stop_en E1 (fun k => rfl) (ho b) (by rw [hl, ho2 b]))
/-- .. of a def that hands back nothing -/
theorem fn_okN {α β T1 L1 : Type} {ins : α → List Slot} {outs : β → List Slot} {s1 : T1 → Slot} {t1 : T1 → List Slot} {c1 k1 : L1 → List Slot} (mb : α → R (Fl β L1 T1)) (d : Nat) (F : FnP K x st f fd) (S : FnScope N ps (defScope st)) (hN : N.length = ps.length + d)
    (hi : ∀ a, (ins a).length = ps.length) (ho : ∀ b, okOuts 0 (outs b) = true) (ho2 : ∀ b, (outs b).length = ps.length)
    (hbody : ∀ (cdv : Value) (A : Around) (outer : List PySem.Env) (s : Shared) (H : Hp) (E : XK), Room k (A.deeper (PyProof.Rows.envOfC x (defScope st) s.heap.objs.size f cdv)) → ∀ (B : Base), (∀ e, ¬ B.rs e) → ∀ a,
      JSs (cxOf CX0 P w K mg base N x (defScope st) f cdv A outer s H E).nox B (ins a ++ List.replicate d .non) (defBody st) (mb a) ⟨fun b => outs b ++ List.replicate d .non, c1, k1, s1, t1⟩) :
    FnOk P w K mg base CX0 (k + 1) f fd ps (spM K ins (fun a => finN (mb a)) (fun _ => .val .none) outs) := by
  refine F.ok S (fun vs H Q E h => ?_) fun cdv A outer s H vs Q E hr h => ?_
  · obtain ⟨a, G, As, E0, _⟩ := h
    have := E0.len
    rw [List.length_map] at this
    rw [this, hi a]
  · obtain ⟨a, G, As, E0, q⟩ := h
    have hl : vs.length = ps.length := by
      have := E0.len
      rw [List.length_map] at this
      rw [this, hi a]
    refine ⟨_, (hbody cdv A outer s H E hr (baseOf H G As vs fun _ => False) (fun e z => z) a).nox, G, start_en E0 (by rw [hN, hl]), ?_⟩
    have q' := R.post_bind.mp q
    refine R.post_mono q' fun fl q1 => ?_
    cases fl with
    | rt n => exact q1.elim
    | ct n => exact q1.elim
    | bk n => exact q1.elim
    | nx b => exact fun σ' G' H' x1 E1 => q1 .non G' H' (stop_en (E1.push .non) (fun k => rfl) (ho b) (by rw [hl, ho2 b]))
end
end DL

/-! DL9: forms for the printed walks -/
namespace DL
open PySem PySem.Spec L2

/-- a value named -/
def lt {α β : Type} (v : α) (k : α → β) : β := k v
@[reducible] def eT {α : Type} (f : α → D) (l : List α) : D := .tuple (l.map f)
@[reducible] def eL {α : Type} (f : α → D) (l : List α) : D := .list (l.map f)
@[reducible] def eD (d : D) : D := d
@[reducible] def eU (_ : Unit) : D := .none
@[reducible] def eP2 {α β : Type} (f : α → D) (g : β → D) (p : α × β) : D := .tuple [f p.1, g p.2]
@[reducible] def eP3 {α β γ : Type} (f : α → D) (g : β → D) (h : γ → D) (p : α × β × γ) : D := .tuple [f p.1, g p.2.1, h p.2.2]
@[reducible] def eP4 {α β γ δ : Type} (f : α → D) (g : β → D) (h : γ → D) (i : δ → D) (p : α × β × γ × δ) : D := .tuple [f p.1, g p.2.1, h p.2.2.1, i p.2.2.2]
@[reducible] def oL {α : Type} (f : α → D) (l : List α) : OT := .lst ((l.map f).map OT.dat)
theorem toDs_dat : ∀ ds : List D, OT.toDs (ds.map OT.dat) = ds
  | [] => by rw [List.map_nil, OT.toDs]
  | d :: ds => by rw [List.map_cons, OT.toDs, OT.toD, toDs_dat ds]
theorem oL_toD {α : Type} (f : α → D) (l : List α) : (oL f l).toD = eL f l := by
  show OT.toD (.lst _) = _
  rw [OT.toD, toDs_dat]
section
variable {X : Cx} {B : Base} {ρ : List Slot} {e a b : Expr} {es : List Expr} {rest : List Stmt} {pos : Pos} {N L T β α : Type} {F : Fin N L T}
theorem je_frzL {m : R β} {f : α → D} {v : β → List α} {ρ' : β → List Slot} (h : JE X B ρ e m (fun b => .own 0 (oL f (v b))) ρ') : JE X B ρ e m (fun b => .val (eL f (v b))) ρ' := by
  have := je_frz h
  simp only [oL_toD] at this
  exact this
/-- an owned slot, read as data for good -/
theorem js_setP (i : Nat) {x : Str} {pos' : Pos} (en : α → D) (v : α) {k : α → R (Fl N L T)} (hN : X.N.Nodup) (h : JP X B ρ e (en v)) (r : ∀ x, JSs X B (ρ.set i (.val (en x))) rest (k x) F) (hi : X.N[i]? = some x := by rfl) (hx : Loc X.env.scope x := by first | exact Or.inl rfl | exact Or.inr rfl)
    (hlt : i < ρ.length := by exact of_decide_eq_true rfl) (hal : noAli i ρ = true := by rfl) (hs : swapsWith e (some (.Name x pos')) pos.line X.env = pure false := by rfl) (hf : X.fn x = true ∨ X.env.scope.names.lookup x = some .local := by first | exact .inl rfl | exact .inr rfl) :
    JSs X B ρ (.Assign [.Name x pos'] e pos :: rest) (lt v k) F :=
  js_cons1 (k := fun _ => k v) (j1_set i hN h hi hx (fun _ => hlt) (fun _ => hal) (fun _ => rfl) hs hf) fun _ => r v
theorem js_setE (i : Nat) {x : Str} {pos' : Pos} (en : α → D) {m : R β} (v : β → α) {ρ' : β → List Slot} {k : β → α → R (Fl N L T)} (hN : X.N.Nodup) (h : JE X B ρ e m (fun b => .val (en (v b))) ρ') (r : ∀ b x, JSs X B ((ρ' b).set i (.val (en x))) rest (k b x) F) (hi : X.N[i]? = some x := by rfl) (hx : Loc X.env.scope x := by first | exact Or.inl rfl | exact Or.inr rfl)
    (hlt : ∀ b, i < (ρ' b).length := by intro _; exact of_decide_eq_true rfl) (hal : ∀ b, noAli i (ρ' b) = true := by intro _; rfl) (hs : swapsWith e (some (.Name x pos')) pos.line X.env = pure false := by rfl) (hf : X.fn x = true ∨ X.env.scope.names.lookup x = some .local := by first | exact .inl rfl | exact .inr rfl) :
    JSs X B ρ (.Assign [.Name x pos'] e pos :: rest) (m.bind fun b => lt (v b) (k b)) F :=
  js_cons1 (j1_set i hN h hi hx hlt hal (fun _ => rfl) hs hf) fun b => r b (v b)
theorem js_setO (i : Nat) {x : Str} {pos' : Pos} (on : α → OT) {m : R β} (v : β → α) {ρ' : β → List Slot} {k : β → α → R (Fl N L T)} (hN : X.N.Nodup) (h : JE X B ρ e m (fun b => .own 0 (on (v b))) ρ') (r : ∀ b x, JSs X B ((ρ' b).set i (.own 0 (on x))) rest (k b x) F) (hi : X.N[i]? = some x := by rfl) (hx : Loc X.env.scope x := by first | exact Or.inl rfl | exact Or.inr rfl)
    (hlt : ∀ b, i < (ρ' b).length := by intro _; exact of_decide_eq_true rfl) (hal : ∀ b, noAli i (ρ' b) = true := by intro _; rfl) (hs : swapsWith e (some (.Name x pos')) pos.line X.env = pure false := by rfl) (hf : X.fn x = true ∨ X.env.scope.names.lookup x = some .local := by first | exact .inl rfl | exact .inr rfl) :
    JSs X B ρ (.Assign [.Name x pos'] e pos :: rest) (m.bind fun b => lt (v b) (k b)) F :=
  js_cons1 (j1_set i hN h hi hx hlt hal (fun _ => rfl) hs hf) fun b => r b (v b)
/-- a statement that just goes on, its mirror pure -/
theorem js_consP {st : Stmt} {ρ' : List Slot} {k : R (Fl N L T)} (h : J1 X B ρ st (.ok ()) (fun _ => ρ')) (r : JSs X B ρ' rest k F) : JSs X B ρ (st :: rest) k F := js_cons1 (k := fun _ => k) h fun _ => r
theorem js_retP (t : T) (bs : List Bool) {s : Slot} (h : JE X B ρ e (.ok ()) (fun _ => s) (fun _ => ρ)) (hs : F.s t = s := by rfl) (ht : forgot ρ bs = F.t t := by rfl) : JS X B ρ (.Return (some e) pos) (.ok (.rt t)) F :=
  js_ret (fun _ => t) bs h (fun _ => hs) fun _ => ht
/-- comparisons as tests -/
theorem jt_op2 {r : R2} (ht : ∀ ta tb, PE X a ta → PE X b tb → PT X e (tTest (tOp r ta tb))) {α β γ : Type} {ma : R α} {mb : α → R β} {xa : α → D} {xb : α → β → D} {ρa : α → List Slot} {ρb : α → β → List Slot} {mr : α → β → R γ} {bn : α → β → γ → Bool}
    (ha : JE X B ρ a ma (fun x => .val (xa x)) ρa) (hb : ∀ x, JE X B (ρa x) b (mb x) (fun y => .val (xb x y)) (ρb x)) (hr : ∀ x y, OpD X.K B r (xa x) (xb x y) (mr x y) (fun z => .val (.bool (bn x y z)))) :
    JT X B ρ e (op2 ma mb mr) (fun p => bn p.1 p.2.1 p.2.2) (fun p => ρb p.1 p.2.1) := by
  have hb' : PE X b (fun σ H Q => ∃ x, tJ X.K B (ρa x) (mb x) (fun y => .val (xb x y)) (ρb x) σ H Q) := ⟨fun pins s σ H Q I ⟨x, q⟩ => (hb x).run pins s σ H Q I q⟩
  refine PT_imp (ht _ _ ha hb') fun σ H Q ⟨G, E, q⟩ => ?_
  refine ⟨G, E, R.post_mono (R.post_bind.mp q) fun x q1 vx G1 H1 x1 E1 => ?_⟩
  refine ⟨x, G1, E1.pop, R.post_mono (R.post_bind.mp q1) fun y q2 vy G2 H2 x2 E2 => ?_⟩
  exact hr x y G2 H2 σ (ρb x y) vx vy _ E2.pop (E1.top.ex x2) E2.top (R.post_mono (R.post_bind.mp q2) fun z q3 v G3 H3 x3 E3 => ⟨_, E3.top.bl_inv, q3 G3 H3 (x1.trans (x2.trans x3)) E3.pop⟩)
theorem jt_op {r : R2} (ht : ∀ ta tb, PE X a ta → PE X b tb → PT X e (tTest (tOp r ta tb))) {x y : D} {γ : Type} {mr : R γ} {bn : γ → Bool} (ha : JP X B ρ a x) (hb : JP X B ρ b y) (hr : OpD X.K B r x y mr (fun z => .val (.bool (bn z)))) : JT X B ρ e mr bn (fun _ => ρ) := by
  refine PT_imp (ht _ _ ha hb) fun σ H Q ⟨G, E, q⟩ => ?_
  refine ⟨G, E, fun vx G1 H1 x1 E1 => ?_⟩
  refine ⟨G1, E1.pop, fun vy G2 H2 x2 E2 => ?_⟩
  exact hr G2 H2 σ ρ vx vy _ E2.pop (E1.top.ex x2) E2.top (R.post_mono q fun z q v G3 H3 x3 E3 => ⟨_, E3.top.bl_inv, q G3 H3 (x1.trans (x2.trans x3)) E3.pop⟩)
/-- lists of one kind -/
theorem je_lstT {β : Type} {m : R β} {as : β → List Ar} {ρ' : β → List Slot} (f : α → D) (xs : β → List α) (h : JA X B ρ es m as ρ') (hd : ∀ b, arDs (as b) = (xs b).map f := by intro _; rfl) (hs : ∀ b, noSlots (as b) = true := by intro _; rfl) (hl : ∀ b, (arDs (as b)).length ≤ 1000 := by intro _; exact of_decide_eq_true rfl) : JE X B ρ (.List es pos) m (fun b => .own 0 (oL f (xs b))) ρ' := by
  have := je_lst (pos := pos) h hs hl
  simp only [hd] at this
  exact this
theorem je_slLm {o1 o2 : Option Expr} {p2 : Pos} {lo hi : Option Int} {m : R β} {f : α → D} {xs : β → List α} {ρ' : β → List Slot} (h : JE X B ρ a m (fun b => .val (eL f (xs b))) ρ') (h1 : ∀ b, JO X B (ρ' b) o1 lo) (h2 : ∀ b, JO X B (ρ' b) o2 hi) :
    JE X B ρ (.Subscript a (.Slice o1 o2 none p2) pos) m (fun b => .own 0 (oL f (cut (xs b) lo hi))) ρ' := by
  have := je_slL (pos := pos) (p2 := p2) h h1 h2
  simp only [cut_map] at this
  exact this
theorem od_catm {K : PySem.W.Frag} {f : α → D} {xs ys : List α} : OpD K B rCatR (eL f xs) (eL f ys) (R.guard (xs.length + ys.length ≤ sizeLine)) (fun _ => .own 0 (oL f (xs ++ ys))) := by
  have := od_cat (K := K) (B := B) (ds := xs.map f) (es := ys.map f)
  simp only [List.length_map] at this
  rw [← List.map_append] at this
  exact this
/-- loops over what is pure -/
theorem ji_rng1P {tg : Expr} {p : Pos} {i : Int} (hm : X.mg "range" = none) (h : JA X B ρ [a] (.ok ()) (fun _ => [.val (.int i)]) (fun _ => ρ)) (hg : Gl X "range" := by rfl) (hs : starEach [a] X.env = [(false, eval a X.env)] := by rfl) :
    JI X B ρ tg (.Call (.Name "range" p) [a] [] pos) (R.guard (rngOk i)) (fun _ => (rng 0 i).map D.int) (fun _ => ρ) :=
  PI_imp (ji_rng1 (fun _ => i) hm h (fun _ => rfl) hg hs) fun σ H Q ⟨G, E, q⟩ => ⟨G, E, by
    obtain ⟨hc, q⟩ := R.post_guard q
    show ((R.guard (rngOk i)).bind fun _ => R.ok ()).post _ _
    unfold R.guard
    rw [if_pos hc]
    exact q⟩
theorem js_forP {α S L T : Type} {xs : List α} {en : α → D} {s0 : S} {tg it : Expr} (ρS : S → List Slot) (ρB : α → S → List Slot) {f : α → S → R (Fl S S T)} {F : Fin S L T} {body : List Stmt} (hp : PassesOwn (model X.prog X.w) X.A X.env X.xe) (hc : X.calm = true)
    (hi : JI X B ρ tg it (.ok ()) (fun _ => xs.map en) (fun _ => ρ)) (bs : List Bool) (hw : forgot ρ bs = ρS s0) (hg : ∀ x s, JG X B (ρS s) tg (en x) (.ok ()) (fun _ => ρB x s))
    (hb : ∀ x s, JSs X B (ρB x s) body (f x s) ⟨ρS, ρS, ρS, F.s, F.t⟩) (hn : F.n = ρS := by rfl) (hs : ∀ v, foldedSetIterable it X.env v = pure v := by intro _; rfl) : JS X B ρ (.For tg it body [] pos) (forR f xs s0) F :=
  js_for (m := .ok ()) (xs := fun _ => xs) (s0 := fun _ => s0) (ρ' := fun _ => ρ) ρS ρB hp hc hi bs (fun _ => hw) hg hb hn hs
theorem jt_pb {t : Bool} (h : TP0 X B ρ e t) : JT X B ρ e (.ok t) (fun b => b) (fun _ => ρ) := h
theorem cb_lenLm {K : PySem.W.Frag} {f : α → D} {xs : List α} : CbD K B ρ (fun xs H Q => ∃ p ys, xs = [.ref p] ∧ (SqL K H p ys ∨ SqT K H p ys) ∧ Q (.int ys.length) H) [.val (eL f xs)] (.ok ()) (fun _ => .val (.int ((xs.length : Nat) : Int))) := by
  have := cb_lenL (K := K) (B := B) (ρ := ρ) (ds := xs.map f)
  rw [List.length_map] at this
  exact this
theorem cb_lenTm {K : PySem.W.Frag} {f : α → D} {xs : List α} : CbD K B ρ (fun xs H Q => ∃ p ys, xs = [.ref p] ∧ (SqL K H p ys ∨ SqT K H p ys) ∧ Q (.int ys.length) H) [.val (eT f xs)] (.ok ()) (fun _ => .val (.int ((xs.length : Nat) : Int))) := by
  have := cb_lenT (K := K) (B := B) (ρ := ρ) (ds := xs.map f)
  rw [List.length_map] at this
  exact this
/-! one part with effects -/
theorem je_opL {r : R2} (ht : ∀ ta tb, PE X a ta → PE X b tb → PE X e (tOp r ta tb)) {α : Type} {ma : R α} {xa y : α → D} {ρa : α → List Slot} {s : α → Slot} (ha : JE X B ρ a ma (fun x => .val (xa x)) ρa) (hb : ∀ x, JP X B (ρa x) b (y x)) (hr : ∀ x, OpD X.K B r (xa x) (y x) (.ok ()) (fun _ => s x)) : JE X B ρ e ma s ρa := by
  have hb' : PE X b (fun σ H Q => ∃ x, tJ X.K B (ρa x) (.ok ()) (fun _ => .val (y x)) (fun _ => ρa x) σ H Q) := ⟨fun pins s σ H Q I ⟨x, q⟩ => (hb x).run pins s σ H Q I q⟩
  exact PE_imp (ht _ _ ha hb') fun σ H Q ⟨G, E, q⟩ => ⟨G, E, R.post_mono q fun x q1 vx G1 H1 x1 E1 => ⟨x, G1, E1.pop, fun vy G2 H2 x2 E2 => hr x G2 H2 σ (ρa x) vx vy Q E2.pop (E1.top.ex x2) E2.top fun v G3 H3 x3 E3 => q1 v G3 H3 (x1.trans (x2.trans x3)) E3⟩⟩
theorem je_opLG {r : R2} (ht : ∀ ta tb, PE X a ta → PE X b tb → PE X e (tOp r ta tb)) {α γ : Type} {ma : R α} {xa y : α → D} {ρa : α → List Slot} {mr : α → R γ} {s : α → γ → Slot} (ha : JE X B ρ a ma (fun x => .val (xa x)) ρa) (hb : ∀ x, JP X B (ρa x) b (y x)) (hr : ∀ x, OpD X.K B r (xa x) (y x) (mr x) (s x)) :
    JE X B ρ e (ma.bind fun x => (mr x).bind fun z => .ok (x, z)) (fun p => s p.1 p.2) (fun p => ρa p.1) := by
  have hb' : PE X b (fun σ H Q => ∃ x, tJ X.K B (ρa x) (.ok ()) (fun _ => .val (y x)) (fun _ => ρa x) σ H Q) := ⟨fun pins s σ H Q I ⟨x, q⟩ => (hb x).run pins s σ H Q I q⟩
  exact PE_imp (ht _ _ ha hb') fun σ H Q ⟨G, E, q⟩ => ⟨G, E, R.post_mono (R.post_bind.mp q) fun x q1 vx G1 H1 x1 E1 => ⟨x, G1, E1.pop, fun vy G2 H2 x2 E2 => hr x G2 H2 σ (ρa x) vx vy Q E2.pop (E1.top.ex x2) E2.top (R.post_mono (R.post_bind.mp q1) fun z q2 v G3 H3 x3 E3 => q2 v G3 H3 (x1.trans (x2.trans x3)) E3)⟩⟩
theorem je_opR {r : R2} (ht : ∀ ta tb, PE X a ta → PE X b tb → PE X e (tOp r ta tb)) {β : Type} {x : D} {mb : R β} {xb : β → D} {ρb : β → List Slot} {s : β → Slot} (ha : JP X B ρ a x) (hb : JE X B ρ b mb (fun y => .val (xb y)) ρb) (hr : ∀ y, OpD X.K B r x (xb y) (.ok ()) (fun _ => s y)) : JE X B ρ e mb s ρb :=
  PE_imp (ht _ _ ha hb) fun σ H Q ⟨G, E, q⟩ => ⟨G, E, fun vx G1 H1 x1 E1 => ⟨G1, E1.pop, R.post_mono q fun y q1 vy G2 H2 x2 E2 => hr y G2 H2 σ (ρb y) vx vy Q E2.pop (E1.top.ex x2) E2.top fun v G3 H3 x3 E3 => q1 v G3 H3 (x1.trans (x2.trans x3)) E3⟩⟩
theorem je_opRG {r : R2} (ht : ∀ ta tb, PE X a ta → PE X b tb → PE X e (tOp r ta tb)) {β γ : Type} {x : D} {mb : R β} {xb : β → D} {ρb : β → List Slot} {mr : β → R γ} {s : β → γ → Slot} (ha : JP X B ρ a x) (hb : JE X B ρ b mb (fun y => .val (xb y)) ρb) (hr : ∀ y, OpD X.K B r x (xb y) (mr y) (s y)) :
    JE X B ρ e (mb.bind fun y => (mr y).bind fun z => .ok (y, z)) (fun p => s p.1 p.2) (fun p => ρb p.1) :=
  PE_imp (ht _ _ ha hb) fun σ H Q ⟨G, E, q⟩ => ⟨G, E, fun vx G1 H1 x1 E1 => ⟨G1, E1.pop, R.post_mono (R.post_bind.mp q) fun y q1 vy G2 H2 x2 E2 => hr y G2 H2 σ (ρb y) vx vy Q E2.pop (E1.top.ex x2) E2.top (R.post_mono (R.post_bind.mp q1) fun z q2 v G3 H3 x3 E3 => q2 v G3 H3 (x1.trans (x2.trans x3)) E3)⟩⟩
theorem jt_opL {r : R2} (ht : ∀ ta tb, PE X a ta → PE X b tb → PT X e (tTest (tOp r ta tb))) {α : Type} {ma : R α} {xa y : α → D} {ρa : α → List Slot} {bn : α → Bool} (ha : JE X B ρ a ma (fun x => .val (xa x)) ρa) (hb : ∀ x, JP X B (ρa x) b (y x)) (hr : ∀ x, OpD X.K B r (xa x) (y x) (.ok ()) (fun _ => .val (.bool (bn x)))) : JT X B ρ e ma bn ρa := by
  have hb' : PE X b (fun σ H Q => ∃ x, tJ X.K B (ρa x) (.ok ()) (fun _ => .val (y x)) (fun _ => ρa x) σ H Q) := ⟨fun pins s σ H Q I ⟨x, q⟩ => (hb x).run pins s σ H Q I q⟩
  exact PT_imp (ht _ _ ha hb') fun σ H Q ⟨G, E, q⟩ => ⟨G, E, R.post_mono q fun x q1 vx G1 H1 x1 E1 => ⟨x, G1, E1.pop, fun vy G2 H2 x2 E2 => hr x G2 H2 σ (ρa x) vx vy _ E2.pop (E1.top.ex x2) E2.top fun v G3 H3 x3 E3 => ⟨_, E3.top.bl_inv, q1 G3 H3 (x1.trans (x2.trans x3)) E3.pop⟩⟩⟩
theorem jt_opLG {r : R2} (ht : ∀ ta tb, PE X a ta → PE X b tb → PT X e (tTest (tOp r ta tb))) {α γ : Type} {ma : R α} {xa y : α → D} {ρa : α → List Slot} {mr : α → R γ} {bn : α → γ → Bool} (ha : JE X B ρ a ma (fun x => .val (xa x)) ρa) (hb : ∀ x, JP X B (ρa x) b (y x)) (hr : ∀ x, OpD X.K B r (xa x) (y x) (mr x) (fun z => .val (.bool (bn x z)))) :
    JT X B ρ e (ma.bind fun x => (mr x).bind fun z => .ok (x, z)) (fun p => bn p.1 p.2) (fun p => ρa p.1) := by
  have hb' : PE X b (fun σ H Q => ∃ x, tJ X.K B (ρa x) (.ok ()) (fun _ => .val (y x)) (fun _ => ρa x) σ H Q) := ⟨fun pins s σ H Q I ⟨x, q⟩ => (hb x).run pins s σ H Q I q⟩
  exact PT_imp (ht _ _ ha hb') fun σ H Q ⟨G, E, q⟩ => ⟨G, E, R.post_mono (R.post_bind.mp q) fun x q1 vx G1 H1 x1 E1 => ⟨x, G1, E1.pop, fun vy G2 H2 x2 E2 => hr x G2 H2 σ (ρa x) vx vy _ E2.pop (E1.top.ex x2) E2.top (R.post_mono (R.post_bind.mp q1) fun z q2 v G3 H3 x3 E3 => ⟨_, E3.top.bl_inv, q2 G3 H3 (x1.trans (x2.trans x3)) E3.pop⟩)⟩⟩
theorem jt_opR {r : R2} (ht : ∀ ta tb, PE X a ta → PE X b tb → PT X e (tTest (tOp r ta tb))) {β : Type} {x : D} {mb : R β} {xb : β → D} {ρb : β → List Slot} {bn : β → Bool} (ha : JP X B ρ a x) (hb : JE X B ρ b mb (fun y => .val (xb y)) ρb) (hr : ∀ y, OpD X.K B r x (xb y) (.ok ()) (fun _ => .val (.bool (bn y)))) : JT X B ρ e mb bn ρb :=
  PT_imp (ht _ _ ha hb) fun σ H Q ⟨G, E, q⟩ => ⟨G, E, fun vx G1 H1 x1 E1 => ⟨G1, E1.pop, R.post_mono q fun y q1 vy G2 H2 x2 E2 => hr y G2 H2 σ (ρb y) vx vy _ E2.pop (E1.top.ex x2) E2.top fun v G3 H3 x3 E3 => ⟨_, E3.top.bl_inv, q1 G3 H3 (x1.trans (x2.trans x3)) E3.pop⟩⟩⟩
theorem jt_opRG {r : R2} (ht : ∀ ta tb, PE X a ta → PE X b tb → PT X e (tTest (tOp r ta tb))) {β γ : Type} {x : D} {mb : R β} {xb : β → D} {ρb : β → List Slot} {mr : β → R γ} {bn : β → γ → Bool} (ha : JP X B ρ a x) (hb : JE X B ρ b mb (fun y => .val (xb y)) ρb) (hr : ∀ y, OpD X.K B r x (xb y) (mr y) (fun z => .val (.bool (bn y z)))) :
    JT X B ρ e (mb.bind fun y => (mr y).bind fun z => .ok (y, z)) (fun p => bn p.1 p.2) (fun p => ρb p.1) :=
  PT_imp (ht _ _ ha hb) fun σ H Q ⟨G, E, q⟩ => ⟨G, E, fun vx G1 H1 x1 E1 => ⟨G1, E1.pop, R.post_mono (R.post_bind.mp q) fun y q1 vy G2 H2 x2 E2 => hr y G2 H2 σ (ρb y) vx vy _ E2.pop (E1.top.ex x2) E2.top (R.post_mono (R.post_bind.mp q1) fun z q2 v G3 H3 x3 E3 => ⟨_, E3.top.bl_inv, q2 G3 H3 (x1.trans (x2.trans x3)) E3.pop⟩)⟩⟩
theorem ja_el {α : Type} {ma : R α} {xa : α → D} {ρa : α → List Slot} {as : α → List Ar} (h : JE X B ρ e ma (fun x => .val (xa x)) ρa) (t : ∀ x, JA X B (ρa x) es (.ok ()) (fun _ => as x) (fun _ => ρa x)) (hst : starEach (e :: es) X.env = (false, eval e X.env) :: starEach es X.env := by rfl) :
    JA X B ρ (e :: es) ma (fun x => .val (xa x) :: as x) ρa := by
  have t' : PA X es (fun σ H Q => ∃ x, tJA X.K B (ρa x) (.ok ()) (fun _ => as x) (fun _ => ρa x) σ H Q) := ⟨fun pos pins s σ H Q I ⟨x, q⟩ => (t x).run pos pins s σ H Q I q⟩
  exact PA_imp (pa_cons h t' hst) fun σ H Q ⟨G, E, q⟩ => ⟨G, E, R.post_mono q fun x k v G1 H1 x1 E1 => ⟨x, G1, E1.pop, fun vs G2 H2 x2 E2 ok => k _ G2 H2 (x1.trans x2) E2 (.val (E1.top.ex x2) ok)⟩⟩
theorem je_cbN {E0 : Expr} {r : List V → Hp → VK → Prop} (hp : ∀ t, PA X es t → PE X E0 (tCB r t)) {β : Type} {ma : R β} {as : β → List Ar} {ρa : β → List Slot} {s : β → Slot} (ha : JA X B ρ es ma as ρa) (hr : ∀ x, CbD X.K B (ρa x) r (as x) (.ok ()) (fun _ => s x)) :
    JE X B ρ E0 ma s ρa :=
  PE_imp (hp _ ha) fun σ H Q ⟨G, E, q⟩ => ⟨G, E, R.post_mono q fun x q1 vs G1 H1 x1 E1 ok => hr x G1 H1 σ vs Q E1 ok fun v G2 H2 x2 E2 => q1 v G2 H2 (x1.trans x2) E2⟩
/-! what needs no look: written numbers -/
theorem od_mulC {K : PySem.W.Frag} {i j : Int} (h : CMul i j := by first | exact .inl (by decide) | exact .inr (by decide)) : OpD K B (rI CMul fun i j => .int (i * j)) (.int i) (.int j) (.ok ()) (fun _ => .val (.int (i * j))) :=
  od_val0 (fun G H vx vy Q _ hx hy q => ⟨i, j, hx.int_inv, hy.int_inv, h, q⟩) fun _ => .int _
theorem od_modC {K : PySem.W.Frag} {i j : Int} (h : 0 < j := by decide) : OpD K B (rI (fun _ j => 0 < j) fun i j => .int (i % j)) (.int i) (.int j) (.ok ()) (fun _ => .val (.int (i % j))) :=
  od_val0 (fun G H vx vy Q _ hx hy q => ⟨i, j, hx.int_inv, hy.int_inv, h, q⟩) fun _ => .int _
theorem od_fdivC {K : PySem.W.Frag} {i j : Int} (h : 0 < j ∧ j < 1073741824 := by decide) : OpD K B (rI CDiv fun i j => .int (i / j)) (.int i) (.int j) (.ok ()) (fun _ => .val (.int (i / j))) :=
  od_val0 (fun G H vx vy Q _ hx hy q => ⟨i, j, hx.int_inv, hy.int_inv, h, q⟩) fun _ => .int _
theorem od_powC {K : PySem.W.Frag} {i j : Int} (h : CPow i j := by decide) : OpD K B (rI CPow fun i j => .int (i ^ j.toNat)) (.int i) (.int j) (.ok ()) (fun _ => .val (.int (i ^ j.toNat))) :=
  od_val0 (fun G H vx vy Q _ hx hy q => ⟨i, j, hx.int_inv, hy.int_inv, h, q⟩) fun _ => .int _
theorem cb_lenP2 {K : PySem.W.Frag} {α β : Type} {f : α → D} {g : β → D} {p : α × β} : CbD K B ρ (fun xs H Q => ∃ p ys, xs = [.ref p] ∧ (SqL K H p ys ∨ SqT K H p ys) ∧ Q (.int ys.length) H) [.val (eP2 f g p)] (.ok ()) (fun _ => .val (.int 2)) := cb_lenT (ds := [f p.1, g p.2])
theorem cb_lenP3 {K : PySem.W.Frag} {α β γ : Type} {f : α → D} {g : β → D} {h : γ → D} {p : α × β × γ} : CbD K B ρ (fun xs H Q => ∃ p ys, xs = [.ref p] ∧ (SqL K H p ys ∨ SqT K H p ys) ∧ Q (.int ys.length) H) [.val (eP3 f g h p)] (.ok ()) (fun _ => .val (.int 3)) := cb_lenT (ds := [f p.1, g p.2.1, h p.2.2])
theorem cb_lenP4 {K : PySem.W.Frag} {α β γ δ : Type} {f : α → D} {g : β → D} {h : γ → D} {k : δ → D} {p : α × β × γ × δ} : CbD K B ρ (fun xs H Q => ∃ p ys, xs = [.ref p] ∧ (SqL K H p ys ∨ SqT K H p ys) ∧ Q (.int ys.length) H) [.val (eP4 f g h k p)] (.ok ()) (fun _ => .val (.int 4)) := cb_lenT (ds := [f p.1, g p.2.1, h p.2.2.1, k p.2.2.2])
/-! calls that change nothing here -/
section
variable {CX : CXT} {k : Nat} {f : Addr} {fd : FuncData} {ps : List Str} {EE : XK} {x : Str} {p : Pos}
theorem je_callV {α β : Type} {ins : α → List Slot} {mf : α → R β} {sl : β → Slot} {outs : β → List Slot} (F : FnOk X.prog X.w X.K X.mg X.base CX k f fd ps (spM X.K ins mf sl outs)) (hr : Room k X.A) (hg : Gl X x) (hm : X.mg x = some (.ref f)) (hk : PySem.W.keepIn X.K (.ref f) = true)
    (hb : Binds X.K fd ps []) (hx : Passes CX X EE) {as : List Ar} (arg : α) (ha : JA X B ρ (e :: es) (.ok ()) (fun _ => as) (fun _ => ρ)) (hne : ∀ e, ¬ B.rs e) (hi : goodIn ρ as = true := by rfl) (hins : insAt 0 ρ as = ins arg := by rfl)
    (ho : ∀ b, goodOut 0 as (outs b) = true := by intro _; rfl) (hal : aliOk ρ as = true := by rfl) (hres : ∀ b, resOk (sl b) = true := by intro _; rfl) (hns : noSlots as = true := by rfl)
    (hdb : (x == ("__debug__" : Str)) = false := by decide) (he : starEach (e :: es) X.env = (false, eval e X.env) :: starEach es X.env := by rfl) (hpl : (backTo pos (starEach es X.env)).any (·.1) = false := by rfl) :
    JE X B ρ (.Call (.Name x p) (e :: es) [] pos) (mf arg) sl (fun _ => ρ) := by
  have := je_callP (pos := pos) (p := p) F hr hg hm hk hb hx arg ha hne hi hins ho hal hres hdb he hpl
  simp only [backAt_noSlots hns, movedAt_noSlots hns] at this
  exact this
theorem je_callVE {α β γ : Type} {ins : α → List Slot} {mf : α → R β} {sl : β → Slot} {outs : β → List Slot} (F : FnOk X.prog X.w X.K X.mg X.base CX k f fd ps (spM X.K ins mf sl outs)) (hr : Room k X.A) (hg : Gl X x) (hm : X.mg x = some (.ref f)) (hk : PySem.W.keepIn X.K (.ref f) = true)
    (hb : Binds X.K fd ps []) (hx : Passes CX X EE) {ma : R γ} {as : γ → List Ar} {ρa : γ → List Slot} (arg : γ → α) (ha : JA X B ρ (e :: es) ma as ρa) (hne : ∀ e, ¬ B.rs e) (hi : ∀ c, goodIn (ρa c) (as c) = true := by intro _; rfl) (hins : ∀ c, insAt 0 (ρa c) (as c) = ins (arg c) := by intro _; rfl)
    (ho : ∀ c b, goodOut 0 (as c) (outs b) = true := by intro _ _; rfl) (hal : ∀ c, aliOk (ρa c) (as c) = true := by intro _; rfl) (hres : ∀ b, resOk (sl b) = true := by intro _; rfl) (hns : ∀ c, noSlots (as c) = true := by intro _; rfl)
    (hdb : (x == ("__debug__" : Str)) = false := by decide) (he : starEach (e :: es) X.env = (false, eval e X.env) :: starEach es X.env := by rfl) (hpl : (backTo pos (starEach es X.env)).any (·.1) = false := by rfl) :
    JE X B ρ (.Call (.Name x p) (e :: es) [] pos) (ma.bind fun c => (mf (arg c)).bind fun b => .ok (c, b)) (fun y => sl y.2) (fun y => ρa y.1) := by
  have := je_call (pos := pos) (p := p) F hr hg hm hk hb hx arg ha hne hi hins ho hal hres hdb he hpl
  simp only [backAt_noSlots (hns _), movedAt_noSlots (hns _)] at this
  exact this
end
end
/-- the law's own promise, from its mirror's answer -/
theorem law_sp {K : PySem.W.Frag} {H : Hp} {a : Addr} {ns : List Int} {E : XK} (hS : SqL K H a (ns.map V.int)) {ins : List Int → List Slot} {m : List Int → R Bool} {sl : Bool → Slot} {outs : Bool → List Slot} (hm : m ns = .ok true) (hi : ins ns = [.val (.scr ns)] := by rfl) (hs : sl true = .val (.bool true) := by rfl) :
    spM K ins m sl outs [.ref a] H (fun v _ => v = .bl true) E := by
  refine ⟨ns, H, [], ⟨⟨fun x o _ e => e, fun x l m => ?_, Ex.refl H, fun x _ e => e, Ex.refl H⟩, ⟨[], ?_, List.nodup_nil, fun _ m => nomatch m⟩, ?_, fun i j p e => ?_⟩, ?_⟩
  · cases l with
    | zero => exact nomatch m
    | succ l => exact nomatch m
  · rw [hi]
    exact .cons (A := []) (.val (.scr hS)) .nil
  · rw [hi]
    rfl
  · rw [hi] at e
    cases i with
    | zero => cases e
    | succ i => cases e
  · rw [hm]
    intro v G' H' E'
    rw [hs] at E'
    exact E'.top.bl_inv
end DL

/-! DM1: plain laws about mirrors -/
namespace DL
open PySem L2

section
variable {α β γ N N1 L T S : Type}
theorem bind_ok (a : α) (f : α → R β) : (R.ok a).bind f = f a := rfl
theorem bind_assoc (m : R α) (f : α → R β) (g : β → R γ) : (m.bind f).bind g = m.bind fun a => (f a).bind g := by cases m <;> rfl
theorem lt_eq (v : α) (k : α → β) : lt v k = k v := rfl
theorem bindF_nx (n : N1) (k : N1 → R (Fl N L T)) : bindF (.ok (.nx n)) k = k n := rfl
theorem bindF_rt (t : T) (k : N1 → R (Fl N L T)) : bindF (.ok (.rt t)) k = .ok (.rt t) := rfl
theorem bindF_ct (t : L) (k : N1 → R (Fl N L T)) : bindF (.ok (.ct t)) k = .ok (.ct t) := rfl
theorem bindF_bk (t : L) (k : N1 → R (Fl N L T)) : bindF (.ok (.bk t)) k = .ok (.bk t) := rfl
theorem fin0_rt (t : T) : fin0 (.ok (.rt t) : R (Fl N L T)) = .ok t := rfl
theorem finN_nx (t : N) : finN (.ok (.nx t) : R (Fl N L T)) = .ok t := rfl
theorem guard_ok {c : Prop} [Decidable c] (h : c) : R.guard c = .ok () := if_pos h
theorem some_ok (a : α) : R.some (.some a) = .ok a := rfl
theorem and2_ok (a : α) (f : α → Bool) (m : R Bool) : and2 (.ok a) f m = if f a = true then m else .ok false := rfl
theorem or2_ok (a : α) (f : α → Bool) (m : R Bool) : or2 (.ok a) f m = if f a = true then .ok true else m := rfl
theorem op2_ok {δ : Type} (a : α) (f : α → R β) (g : α → β → R δ) : op2 (.ok a) f g = (f a).bind fun y => (g a y).bind fun z => .ok (a, y, z) := rfl
/-- a loop that goes through -/
theorem forR_ok {f : α → S → R (Fl S S T)} (P : S → Prop) : ∀ {xs : List α} {s : S}, P s → (∀ x ∈ xs, ∀ s, P s → ∃ s', (f x s = .ok (.nx s') ∨ f x s = .ok (.ct s')) ∧ P s') → ∃ s', (forR f xs s : R (Fl S L T)) = .ok (.nx s') ∧ P s'
  | [], s, h, _ => ⟨s, rfl, h⟩
  | x :: xs, s, h, k => by
    obtain ⟨s', h1, h2⟩ := k x (List.mem_cons_self) s h
    obtain ⟨s2, h3, h4⟩ := forR_ok P (xs := xs) h2 fun y m => k y (List.mem_cons_of_mem _ m)
    refine ⟨s2, ?_, h4⟩
    rw [forR]
    rcases h1 with h1 | h1 <;> rw [h1] <;> exact h3
/-- .. with the turn told -/
theorem forR_okI {f : α → S → R (Fl S S T)} (P : Nat → S → Prop) : ∀ {xs : List α} {i : Nat} {s : S}, P i s → (∀ (k : Nat) x, xs[k]? = some x → ∀ s, P (i + k) s → ∃ s', (f x s = .ok (.nx s') ∨ f x s = .ok (.ct s')) ∧ P (i + k + 1) s') → ∃ s', (forR f xs s : R (Fl S L T)) = .ok (.nx s') ∧ P (i + xs.length) s'
  | [], i, s, h, _ => ⟨s, rfl, h⟩
  | x :: xs, i, s, h, k => by
    obtain ⟨s', h1, h2⟩ := k 0 x rfl s h
    obtain ⟨s2, h3, h4⟩ := forR_okI P (xs := xs) (i := i + 1) h2 fun j y m s hs => by
      have := k (j + 1) y (by simpa using m) s (by rw [show i + (j + 1) = i + 1 + j by omega]; exact hs)
      rw [show i + (j + 1) + 1 = i + 1 + j + 1 by omega] at this
      exact this
    refine ⟨s2, ?_, by rw [List.length_cons, show i + (xs.length + 1) = i + 1 + xs.length by omega]; exact h4⟩
    rw [forR]
    rcases h1 with h1 | h1 <;> rw [h1] <;> exact h3
theorem whR_true {c : S → R Bool} {f : S → R (Fl S S T)} {s s' : S} {y : Fl S L T} (hc : c s = .ok true) (hf : f s = .ok (.nx s')) (h : whR (L := L) c f s' = .ok y) : whR (L := L) c f s = .ok y := by
  have hx : ∃ n, whN (L := L) c f n s' ≠ .bad := by
    apply Classical.byContradiction
    intro z
    unfold whR at h
    rw [dif_neg z] at h
    cases h
  obtain ⟨n, hn⟩ := hx
  rw [whR_of hn] at h
  have e : whN (L := L) c f (n + 1) s = .ok y := by
    rw [whN, hc]
    simp only [R.bind, if_true, hf]
    exact h
  have e2 : whN (L := L) c f (n + 1) s ≠ .bad := by
    rw [e]
    exact fun z => nomatch z
  rw [whR_of e2]
  exact e
theorem whR_false {c : S → R Bool} {f : S → R (Fl S S T)} {s : S} (hc : c s = .ok false) : whR (L := L) c f s = .ok (.nx s) := by
  have e : whN (L := L) c f 1 s = .ok (.nx s) := by
    rw [whN, hc]
    rfl
  rw [whR_of (n := 1) (by rw [e]; exact fun z => nomatch z)]
  exact e
end
/-! ### numbers -/
theorem mulx {i j : Int} (a : Nat) (hi : i.natAbs < 2 ^ a) (hj : j.natAbs < 2 ^ a) (h : a ≤ 67108864 := by decide) : CMulX i j := mulx_ok hi hj (by omega)
theorem div_ok {i j : Int} (h : j ≠ 0) (hj : j.natAbs < 2 ^ 8000) : divOk i j := by
  refine ⟨h, PyProof.noPylong_of_log2 ?_⟩
  have := (Nat.log2_lt (n := j.natAbs) (k := 8000) (by omega)).mpr hj
  omega
theorem divp_ok' {i j : Int} (h : 0 < j) (hj : j < 2 ^ 8000) : CDivP i j := ⟨h, (div_ok (i := i) (j := j) (by omega) (by omega)).2⟩
theorem rng_ok {i : Int} (h : 0 ≤ i) (h2 : i < 1000000) : rngOk i := ⟨by omega, by omega⟩
theorem mem_rng {lo hi x : Int} (h : x ∈ rng lo hi) : lo ≤ x ∧ x < hi := by
  unfold rng at h
  obtain ⟨k, hk, rfl⟩ := List.mem_map.mp h
  have := List.mem_range.mp hk
  omega
/-- two whole numbers cleared: what stands behind -/
theorem fr_low {n d g : Int} (hg : g = (if d < 0 then -(Int.gcd n d : Int) else (Int.gcd n d : Int))) (hd : d ≠ 0) : g ≠ 0 ∧ n.fdiv g * g = n ∧ d.fdiv g * g = d ∧ 0 < d.fdiv g ∧ Int.gcd (n.fdiv g) (d.fdiv g) = 1 := by
  have h0 : 0 < Int.gcd n d := Nat.pos_of_ne_zero fun z => hd (Int.gcd_eq_zero_iff.mp z).2
  have hn : (Int.gcd n d : Int) ∣ n := Int.gcd_dvd_left ..
  have hdd : (Int.gcd n d : Int) ∣ d := Int.gcd_dvd_right ..
  have hg0 : g ≠ 0 := by
    rw [hg]
    split <;> omega
  have gn : g ∣ n := by
    rw [hg]
    split
    · exact Int.neg_dvd.mpr hn
    · exact hn
  have gd : g ∣ d := by
    rw [hg]
    split
    · exact Int.neg_dvd.mpr hdd
    · exact hdd
  have e1 : n.fdiv g * g = n := Int.fdiv_mul_cancel gn
  have e2 : d.fdiv g * g = d := Int.fdiv_mul_cancel gd
  refine ⟨hg0, e1, e2, ?_, ?_⟩
  · have hs : 0 < d.fdiv g * g * g := by
      rw [e2, hg]
      split
      · rename_i h
        exact Int.mul_pos_of_neg_of_neg h (by omega)
      · rename_i h
        exact Int.mul_pos (by omega) (by omega)
    have hgg : 0 < g * g := by
      rcases Int.lt_or_gt_of_ne hg0 with h | h
      · exact Int.mul_pos_of_neg_of_neg h h
      · exact Int.mul_pos h h
    rw [Int.mul_assoc] at hs
    apply Classical.byContradiction
    intro z
    have := Int.mul_nonneg (show 0 ≤ -(d.fdiv g) by omega) (Int.le_of_lt hgg)
    rw [Int.neg_mul] at this
    omega
  · have hgcd : Int.gcd (n.fdiv g * g) (d.fdiv g * g) = Int.gcd (n.fdiv g) (d.fdiv g) * g.natAbs := Int.gcd_mul_right ..
    rw [e1, e2] at hgcd
    have ga : g.natAbs = Int.gcd n d := by
      rw [hg]
      split <;> simp
    rw [ga] at hgcd
    have : Int.gcd n d * 1 = Int.gcd n d * Int.gcd (n.fdiv g) (d.fdiv g) := by
      rw [Nat.mul_one, Nat.mul_comm]
      exact hgcd
    exact (Nat.eq_of_mul_eq_mul_left h0 this).symm
theorem cell_ok (ns : List Int) (k : Int) (h0 : 0 ≤ k) : ∃ c, atI (cut ns (some k) (some (k + (1 : Int))) ++ [(0 : Int)]) (0 : Int) = some c ∧ (cut ns (some k) (some (k + (1 : Int)))).length ≤ 1 := by
  have hc : (cut ns (some k) (some (k + 1))).length ≤ 1 := by
    unfold cut
    rw [List.length_take]
    simp only [HT.sIx]
    rw [if_neg (by omega), if_neg (by omega)]
    omega
  generalize cut ns (some k) (some (k + 1)) = l at *
  match l, hc with
  | [], _ => exact ⟨0, rfl, by simp⟩
  | [c], _ => exact ⟨c, rfl, by simp⟩
theorem line_ok {n : Nat} (h : n ≤ 1000) : n ≤ sizeLine := Nat.le_of_lt (small1000 h)
end DL

namespace W
open PySem PySem.Spec L2 DL
def topS (i : Nat) : Stmt := PySem.Challenge.pw_restdraw_k11_fractions_reckoned.main.body.getD i (.Pass ⟨0, 0, 0, 0⟩)
structure Top (K : PySem.W.Frag) (mg : Str → Option Value) where
  law_pot : DT K mg "_law_pot" (topS 9) ["_law_script", "_law_k"]
  law_digit : DT K mg "_law_digit" (topS 10) ["_law_pot_here", "_law_many"]
  law_number : DT K mg "_law_number" (topS 12) ["_law_pot_here"]
  law_is_whole : DT K mg "_law_is_whole" (topS 11) ["_law_found"]
  law_common : DT K mg "_law_common" (topS 13) ["_law_one", "_law_other"]
  law_is : DT K mg "_law_is" (topS 16) ["_law_found", "_law_top", "_law_bottom"]
  divisor : DT K mg "divisor" (topS 1) ["one", "other"]
  fraction : DT K mg "fraction" (topS 2) ["n", "d"]
  law_made : DT K mg "_law_made" (topS 14) ["_law_n", "_law_d"]
  law_drawn : DT K mg "_law_drawn" (topS 15) ["_law_pot_here"]
  plus : DT K mg "plus" (topS 3) ["one", "other"]
  less : DT K mg "less" (topS 4) ["one", "other"]
  times : DT K mg "times" (topS 5) ["one", "other"]
  over : DT K mg "over" (topS 6) ["one", "other"]
  sign : DT K mg "sign" (topS 7) ["one"]
  law_is_reckoned : DT K mg "_law_is_reckoned" (topS 17) ["_law_one", "_law_other"]
  law : DT K mg "law" (topS 18) ["_law_script"]
  z_abs : mg "abs" = none
  z_bool : mg "bool" = none
  z_divmod : mg "divmod" = none
  z_int : mg "int" = none
  z_isinstance : mg "isinstance" = none
  z_len : mg "len" = none
  z_max : mg "max" = none
  z_min : mg "min" = none
  z_range : mg "range" = none
  z_tuple : mg "tuple" = none
/-! law_pot -/
abbrev s_law_pot : Stmt := topS 9
theorem sc_law_pot : FnScope ["_law_script", "_law_k", "_law_cell"] ["_law_script", "_law_k"] (defScope s_law_pot) := ⟨rfl, rfl, rfl, by decide +kernel, rfl, by decide +kernel, by decide +kernel⟩
noncomputable def mb_law_pot (v_script : List Int) (v_k : Int) : R (Fl Unit Unit (List Int)) :=
(((R.guard (List.length (cut v_script (some v_k) (some (v_k + (1 : Int)))) + List.length [(0 : Int)] ≤ sizeLine)).bind fun (x13 : Unit) => (R.some (atI ((cut v_script (some v_k) (some (v_k + (1 : Int)))) ++ [(0 : Int)]) (0 : Int))).bind fun (z15 : Int) => R.ok (x13, z15)).bind fun (b17 : (Unit × Int)) => lt b17.2 fun v_cell_16 =>
(R.ok (.rt [(max (0 : Int) (v_cell_16 - ((10 : Int) ^ (Int.toNat (18 : Int))))), (((((if v_cell_16 < 0 then -v_cell_16 else v_cell_16) + ((7919 : Int) * v_k)) + (3 : Int)) % (2147483629 : Int)) + (1 : Int))])))
noncomputable def m_law_pot (a : (List Int × Int)) : R (List Int) := fin0 (mb_law_pot a.1 a.2)
abbrev i_law_pot (a : (List Int × Int)) : List Slot := [.val (D.scr a.1), .val (D.int a.2)]
abbrev l_law_pot (b : (List Int)) : Slot := .own 0 ((oL D.int) b)
abbrev o_law_pot (b : (List Int)) : List Slot := [.non, .non]
theorem ok_law_pot {P : Program} {w : World} {K : PySem.W.Frag} {mg : Str → Option Value} {base : Heap} (T : Top K mg) : FnOk P w K mg base CX0 1 T.law_pot.a T.law_pot.d ["_law_script", "_law_k"] (spM K i_law_pot m_law_pot l_law_pot o_law_pot) := by
  show FnOk P w K mg base CX0 (0 + 1) T.law_pot.a T.law_pot.d ["_law_script", "_law_k"] (spM K i_law_pot (fun (a : (List Int × Int)) => fin0 (mb_law_pot a.1 a.2)) l_law_pot o_law_pot)
  refine fn_ok (n1 := fun _ => []) (c1 := fun _ => []) (k1 := fun _ => []) (ins := i_law_pot) (sl := l_law_pot) (outs := o_law_pot) (fun (a : (List Int × Int)) => mb_law_pot a.1 a.2) 1 T.law_pot.f sc_law_pot rfl (fun _ => rfl) (fun _ => rfl) (fun _ => rfl) (fun cdv A outer s H E hr B hB a => ?_)
  show JSs _ B _ _ (mb_law_pot a.1 a.2) _
  unfold mb_law_pot
  exact ((js_setE 2 D.int (fun (b17 : (Unit × Int)) => b17.2) sc_law_pot.nd (je_opLG (ρa := fun _ => _) (s := fun (x13 : Unit) (z15 : Int) => (.val (D.int z15))) (xa := fun (x13 : Unit) => (eL D.int) ((cut a.1 (some a.2) (some (a.2 + (1 : Int)))) ++ [(0 : Int)])) (y := fun (x13 : Unit) => D.int (0 : Int)) (fun _ _ ha hb => pe_ix ix_list ha hb (fun _ _ => rfl)) (je_frzL (v := fun (b12 : Unit) => ((cut a.1 (some a.2) (some (a.2 + (1 : Int)))) ++ [(0 : Int)])) (je_op (fun _ _ ha hb => pe_op op_catR ha hb) (je_frzL (v := fun (b7 : Unit) => (cut a.1 (some a.2) (some (a.2 + (1 : Int))))) (je_slS (jp_var 0) (fun _ => (jo_some (jp_var 1))) (fun _ => (jo_some (je_op (fun _ _ ha hb => pe_op op_add ha hb) (jp_var 1) jp_int od_add))))) (je_frzL (v := fun (b11 : Unit) => [(0 : Int)]) (je_lstT D.int (fun (b10 : Unit) => ([(0 : Int)] : List Int)) (ja_p jp_int ja_nil))) od_catm)) (fun x13 => jp_int) (fun x13 => od_ixLm)) fun b17 v_cell_16 =>
(js_one (js_retP [(max (0 : Int) (v_cell_16 - ((10 : Int) ^ (Int.toNat (18 : Int))))), (((((if v_cell_16 < 0 then -v_cell_16 else v_cell_16) + ((7919 : Int) * a.2)) + (3 : Int)) % (2147483629 : Int)) + (1 : Int))] [false, false, false] (je_lstT D.int (fun (b32 : Unit) => ([(max (0 : Int) (v_cell_16 - ((10 : Int) ^ (Int.toNat (18 : Int))))), (((((if v_cell_16 < 0 then -v_cell_16 else v_cell_16) + ((7919 : Int) * a.2)) + (3 : Int)) % (2147483629 : Int)) + (1 : Int))] : List Int)) (ja_p (je_cb (fun _ ht => pe_callB (call_max2 rfl) (by rfl) T.z_max (by decide +kernel) ht) (ja_p jp_int (ja_p (je_op (fun _ _ ha hb => pe_op op_sub ha hb) (jp_var 2) (je_op (fun _ _ ha hb => pe_op op_pow ha hb) jp_int jp_int od_powC) od_sub) ja_nil)) cb_max) (ja_p (je_op (fun _ _ ha hb => pe_op op_add ha hb) (je_op (fun _ _ ha hb => pe_op op_mod ha hb) (je_op (fun _ _ ha hb => pe_op op_add ha hb) (je_op (fun _ _ ha hb => pe_op op_add ha hb) (je_cb (fun _ ht => pe_callB call_abs (by rfl) T.z_abs (by decide +kernel) ht) (ja_p (jp_var 2) ja_nil) cb_abs) (je_op (fun _ _ ha hb => pe_op op_mul ha hb) jp_int (jp_var 1) od_mulC) od_add) jp_int od_add) jp_int od_modC) jp_int od_add) ja_nil)))))))
/-! law_digit -/
abbrev s_law_digit : Stmt := topS 10
theorem sc_law_digit : FnScope ["_law_pot_here", "_law_many", "_law_digit_here"] ["_law_pot_here", "_law_many"] (defScope s_law_digit) := ⟨rfl, rfl, rfl, by decide +kernel, rfl, by decide +kernel, by decide +kernel⟩
noncomputable def mb_law_digit (v_pot_here : (List Int)) (v_many : Int) : R (Fl Unit Unit (Int × (List Int))) :=
(bindF ((R.some (atI v_pot_here (0 : Int))).bind fun (b38 : Int) => if (decide (b38 > (0 : Int))) = true then ((((R.some (atI v_pot_here (0 : Int))).bind fun (c40 : Int) => (R.guard (CDivP c40 v_many)).bind fun (z41 : Unit) => R.ok (c40, z41)).bind fun (b42 : (Int × Unit)) => ((R.some (ixN (List.length v_pot_here) (0 : Int))).bind fun (j43 : Nat) => (R.ok ()).bind fun (c_ : Unit) => R.ok (j43, c_)).bind fun (p44 : (Nat × Unit)) => R.ok (b42, p44)).bind fun (p45 : (Int × Unit) × (Nat × Unit)) =>
(R.ok (.rt ((p45.1.1 / v_many, p45.1.1 % v_many).2, (List.set v_pot_here p45.2.1 ((p45.1.1 / v_many, p45.1.1 % v_many).1)))))) else (R.ok (.nx ()))) fun n46 =>
(((R.some (atI v_pot_here (1 : Int))).bind fun (b56 : Int) => (R.some (ixN (List.length v_pot_here) (1 : Int))).bind fun (j57 : Nat) => R.ok (b56, j57)).bind fun (p58 : Int × Nat) =>
(((op2 (R.some (atI (List.set v_pot_here p58.2 (((p58.1 * (48271 : Int)) + (39373 : Int)) % (2147483647 : Int))) (1 : Int))) (fun (x59 : Int) => (R.some (atI (List.set v_pot_here p58.2 (((p58.1 * (48271 : Int)) + (39373 : Int)) % (2147483647 : Int))) (1 : Int)))) (fun (x59 : Int) (y60 : Int) => R.guard (CMulX x59 y60))).bind fun (x67 : (Int × Int × Unit)) => (R.guard (v_many ≠ (0 : Int))).bind fun (z69 : Unit) => R.ok (x67, z69)).bind fun (b70 : ((Int × Int × Unit) × Unit)) => R.ok (.rt ((Int.fmod (((b70.1.1 * b70.1.2.1) % (2147483629 : Int)) / (3 : Int)) v_many), (List.set v_pot_here p58.2 (((p58.1 * (48271 : Int)) + (39373 : Int)) % (2147483647 : Int))))))))
noncomputable def m_law_digit (a : ((List Int) × Int)) : R (Int × (List Int)) := fin0 (mb_law_digit a.1 a.2)
abbrev i_law_digit (a : ((List Int) × Int)) : List Slot := [.own 1 ((oL D.int) a.1), .val (D.int a.2)]
abbrev l_law_digit (b : (Int × (List Int))) : Slot := .val (D.int b.1)
abbrev o_law_digit (b : (Int × (List Int))) : List Slot := [.own 1 ((oL D.int) b.2), .non]
theorem ok_law_digit {P : Program} {w : World} {K : PySem.W.Frag} {mg : Str → Option Value} {base : Heap} (T : Top K mg) : FnOk P w K mg base CX0 1 T.law_digit.a T.law_digit.d ["_law_pot_here", "_law_many"] (spM K i_law_digit m_law_digit l_law_digit o_law_digit) := by
  show FnOk P w K mg base CX0 (0 + 1) T.law_digit.a T.law_digit.d ["_law_pot_here", "_law_many"] (spM K i_law_digit (fun (a : ((List Int) × Int)) => fin0 (mb_law_digit a.1 a.2)) l_law_digit o_law_digit)
  refine fn_ok (n1 := fun _ => []) (c1 := fun _ => []) (k1 := fun _ => []) (ins := i_law_digit) (sl := l_law_digit) (outs := o_law_digit) (fun (a : ((List Int) × Int)) => mb_law_digit a.1 a.2) 1 T.law_digit.f sc_law_digit rfl (fun _ => rfl) (fun _ => rfl) (fun _ => rfl) (fun cdv A outer s H E hr B hB a => ?_)
  show JSs _ B _ _ (mb_law_digit a.1 a.2) _
  unfold mb_law_digit
  exact ((js_cons (ρ1 := fun (n46 : Unit) => [.own 1 ((oL D.int) a.1), .val (D.int a.2), .non]) (js_if (jt_opL (ρa := fun _ => _) (bn := fun (x35 : Int) => (decide (x35 > (0 : Int)))) (xa := fun (x35 : Int) => D.int x35) (y := fun (x35 : Int) => D.int (0 : Int)) (fun _ _ ha hb => pt_cmpR op_gt ha hb (nomark _)) (je_ixO 0 (xs := a.1) (en := D.int) (k := (0 : Int)) rfl jp_int) (fun x35 => jp_int) (fun x35 => od_gt)) (fun b38 => (js_cons1 (j1_asg (d := fun (b42 : (Int × Unit)) => (eP2 D.int D.int) (b42.1 / a.2, b42.1 % a.2)) (je_cb2 (ρa := fun _ => _) (s := fun (c40 : Int) (z41 : Unit) => .val ((eP2 D.int D.int) (c40 / a.2, c40 % a.2))) (fun _ ht => pe_callB call_divmodW (by rfl) T.z_divmod (by decide +kernel) ht) (ja_el (ρa := fun _ => _) (xa := fun (x39 : Int) => D.int x39) (je_ixO 0 (xs := a.1) (en := D.int) (k := (0 : Int)) rfl jp_int) (fun x39 => (ja_p (jp_var 1) ja_nil))) (fun c40 => cb_divmod)) (fun b42 => jg_tup rfl (jgs_cons (jg_sub 0 (xs := a.1) (en := D.int) (y := (b42.1 / a.2, b42.1 % a.2).1) (k := (0 : Int)) rfl jp_int) (fun j43 => (jgs_p (jg_name 2 sc_law_digit.nd) jgs_nil))))) fun p45 =>
(js_one (js_retP ((p45.1.1 / a.2, p45.1.1 % a.2).2, (List.set a.1 p45.2.1 ((p45.1.1 / a.2, p45.1.1 % a.2).1))) [true, false, false] (jp_var 2))))) (fun b38 => (js_nil [true, true, true] ()))) fun n46 =>
(js_cons1 (j1_asg (d := fun (b56 : Int) => D.int (((b56 * (48271 : Int)) + (39373 : Int)) % (2147483647 : Int))) (je_opL (ρa := fun _ => _) (s := fun (x53 : Int) => (.val (D.int (((x53 * (48271 : Int)) + (39373 : Int)) % (2147483647 : Int))))) (xa := fun (x53 : Int) => D.int ((x53 * (48271 : Int)) + (39373 : Int))) (y := fun (x53 : Int) => D.int (2147483647 : Int)) (fun _ _ ha hb => pe_op op_mod ha hb) (je_opL (ρa := fun _ => _) (s := fun (x50 : Int) => (.val (D.int ((x50 * (48271 : Int)) + (39373 : Int))))) (xa := fun (x50 : Int) => D.int (x50 * (48271 : Int))) (y := fun (x50 : Int) => D.int (39373 : Int)) (fun _ _ ha hb => pe_op op_add ha hb) (je_opL (ρa := fun _ => _) (s := fun (x47 : Int) => (.val (D.int (x47 * (48271 : Int))))) (xa := fun (x47 : Int) => D.int x47) (y := fun (x47 : Int) => D.int (48271 : Int)) (fun _ _ ha hb => pe_op op_mul ha hb) (je_ixO 0 (xs := a.1) (en := D.int) (k := (1 : Int)) rfl jp_int) (fun x47 => jp_int) (fun x47 => od_mulC)) (fun x50 => jp_int) (fun x50 => od_add)) (fun x53 => jp_int) (fun x53 => od_modC)) (fun b56 => (jg_sub 0 (xs := a.1) (en := D.int) (y := (((b56 * (48271 : Int)) + (39373 : Int)) % (2147483647 : Int))) (k := (1 : Int)) rfl jp_int))) fun p58 =>
(js_one (js_ret (fun (b70 : ((Int × Int × Unit) × Unit)) => ((Int.fmod (((b70.1.1 * b70.1.2.1) % (2147483629 : Int)) / (3 : Int)) a.2), (List.set a.1 p58.2 (((p58.1 * (48271 : Int)) + (39373 : Int)) % (2147483647 : Int))))) [true, false, true] (je_opLG (ρa := fun _ => _) (s := fun (x67 : (Int × Int × Unit)) (z69 : Unit) => (.val (D.int (Int.fmod (((x67.1 * x67.2.1) % (2147483629 : Int)) / (3 : Int)) a.2)))) (xa := fun (x67 : (Int × Int × Unit)) => D.int (((x67.1 * x67.2.1) % (2147483629 : Int)) / (3 : Int))) (y := fun (x67 : (Int × Int × Unit)) => D.int a.2) (fun _ _ ha hb => pe_op op_modN ha hb) (je_opL (ρa := fun _ => _) (s := fun (x64 : (Int × Int × Unit)) => (.val (D.int (((x64.1 * x64.2.1) % (2147483629 : Int)) / (3 : Int))))) (xa := fun (x64 : (Int × Int × Unit)) => D.int ((x64.1 * x64.2.1) % (2147483629 : Int))) (y := fun (x64 : (Int × Int × Unit)) => D.int (3 : Int)) (fun _ _ ha hb => pe_op op_fdiv ha hb) (je_opL (ρa := fun _ => _) (s := fun (x61 : (Int × Int × Unit)) => (.val (D.int ((x61.1 * x61.2.1) % (2147483629 : Int))))) (xa := fun (x61 : (Int × Int × Unit)) => D.int (x61.1 * x61.2.1)) (y := fun (x61 : (Int × Int × Unit)) => D.int (2147483629 : Int)) (fun _ _ ha hb => pe_op op_mod ha hb) (je_op2 (ρa := fun _ => _) (ρb := fun _ _ => _) (s := fun (x59 : Int) (y60 : Int) (z0 : Unit) => (.val (D.int (x59 * y60)))) (xa := fun (x59 : Int) => D.int x59) (xb := fun (x59 : Int) (y60 : Int) => D.int y60) (fun _ _ ha hb => pe_op op_mulX ha hb) (je_ixO 0 (xs := (List.set a.1 p58.2 (((p58.1 * (48271 : Int)) + (39373 : Int)) % (2147483647 : Int)))) (en := D.int) (k := (1 : Int)) rfl jp_int) (fun x59 => (je_ixO 0 (xs := (List.set a.1 p58.2 (((p58.1 * (48271 : Int)) + (39373 : Int)) % (2147483647 : Int)))) (en := D.int) (k := (1 : Int)) rfl jp_int)) (fun x59 y60 => od_mul)) (fun x61 => jp_int) (fun x61 => od_modC)) (fun x64 => jp_int) (fun x64 => od_fdivC)) (fun x67 => (jp_var 1)) (fun x67 => od_mod)))))))
/-! law_number -/
abbrev s_law_number : Stmt := topS 12
theorem sc_law_number : FnScope ["_law_pot_here", "_law_choice", "_law_found", "_law_k"] ["_law_pot_here"] (defScope s_law_number) := ⟨rfl, rfl, rfl, by decide +kernel, rfl, by decide +kernel, by decide +kernel⟩
noncomputable def mb_law_number (v_pot_here : (List Int)) : R (Fl Unit Unit (Int × (List Int))) :=
((m_law_digit (v_pot_here, (3 : Int))).bind fun (b72 : (Int × (List Int))) => lt b72.1 fun v_choice_71 =>
(bindF (if (decide (v_choice_71 = (0 : Int))) = true then ((m_law_digit (b72.2, (19 : Int))).bind fun (b79 : (Int × (List Int))) => R.ok (.rt ((b79.1 - (9 : Int)), b79.2))) else (R.ok (.nx ()))) fun n80 =>
(bindF (if (decide (v_choice_71 = (1 : Int))) = true then ((m_law_digit (b72.2, (2000001 : Int))).bind fun (b87 : (Int × (List Int))) => R.ok (.rt ((b87.1 - (1000000 : Int)), b87.2))) else (R.ok (.nx ()))) fun n88 =>
(lt (0 : Int) fun v_found_89 =>
(bindF ((R.guard (rngOk (7 : Int))).bind fun (b90 : Unit) => forR (fun (x93 : Int) (s91 : ((List Int) × Int)) =>
((m_law_digit (s91.1, ((10 : Int) ^ (Int.toNat (9 : Int))))).bind fun (b104 : (Int × (List Int))) => lt ((s91.2 * ((10 : Int) ^ (Int.toNat (9 : Int)))) + b104.1) fun v_found_103 =>
(R.ok (.nx (b104.2, v_found_103))))) (rng 0 (7 : Int)) (b72.2, v_found_89)) fun n92 =>
(((m_law_digit (n92.1, (2 : Int))).bind fun (y110 : (Int × (List Int))) => (R.guard (CMulX (n92.2 % ((10 : Int) ^ (Int.toNat (60 : Int)))) ((1 : Int) - ((2 : Int) * y110.1)))).bind fun (z117 : Unit) => R.ok (y110, z117)).bind fun (b118 : ((Int × (List Int)) × Unit)) => R.ok (.rt (((n92.2 % ((10 : Int) ^ (Int.toNat (60 : Int)))) * ((1 : Int) - ((2 : Int) * b118.1.1))), b118.1.2))))))))
noncomputable def m_law_number (a : (List Int)) : R (Int × (List Int)) := fin0 (mb_law_number a)
abbrev i_law_number (a : (List Int)) : List Slot := [.own 1 ((oL D.int) a)]
abbrev l_law_number (b : (Int × (List Int))) : Slot := .val (D.int b.1)
abbrev o_law_number (b : (Int × (List Int))) : List Slot := [.own 1 ((oL D.int) b.2)]
theorem ok_law_number {P : Program} {w : World} {K : PySem.W.Frag} {mg : Str → Option Value} {base : Heap} (T : Top K mg) : FnOk P w K mg base CX0 2 T.law_number.a T.law_number.d ["_law_pot_here"] (spM K i_law_number m_law_number l_law_number o_law_number) := by
  show FnOk P w K mg base CX0 (1 + 1) T.law_number.a T.law_number.d ["_law_pot_here"] (spM K i_law_number (fun (a : (List Int)) => fin0 (mb_law_number a)) l_law_number o_law_number)
  refine fn_ok (n1 := fun _ => []) (c1 := fun _ => []) (k1 := fun _ => []) (ins := i_law_number) (sl := l_law_number) (outs := o_law_number) (fun (a : (List Int)) => mb_law_number a) 3 T.law_number.f sc_law_number rfl (fun _ => rfl) (fun _ => rfl) (fun _ => rfl) (fun cdv A outer s H E hr B hB a => ?_)
  show JSs _ B _ _ (mb_law_number a) _
  unfold mb_law_number
  exact ((js_setE 1 D.int (fun (b72 : (Int × (List Int))) => b72.1) sc_law_number.nd (je_callP (ins := i_law_digit) (mf := m_law_digit) (sl := l_law_digit) (outs := o_law_digit) (ok_law_digit T) (hr.mono (by decide)) (by rfl) T.law_digit.g T.law_digit.f.kp T.law_digit.b pass0 (arg := (a, (3 : Int))) (ja_s 0 (ja_p jp_int ja_nil)) hB) fun b72 v_choice_71 =>
(js_cons (ρ1 := fun (n80 : Unit) => [.own 1 ((oL D.int) b72.2), .val (D.int v_choice_71), .non, .non]) (js_ifP (jt_op (fun _ _ ha hb => pt_cmpR op_eq ha hb (nomark _)) (jp_var 1) jp_int od_eqI) (js_one (js_ret (fun (b79 : (Int × (List Int))) => ((b79.1 - (9 : Int)), b79.2)) [true, false, true, true] (je_opL (s := fun (x76 : (Int × (List Int))) => (.val (D.int (x76.1 - (9 : Int))))) (xa := fun (x76 : (Int × (List Int))) => D.int x76.1) (y := fun (x76 : (Int × (List Int))) => D.int (9 : Int)) (fun _ _ ha hb => pe_op op_sub ha hb) (je_callP (ins := i_law_digit) (mf := m_law_digit) (sl := l_law_digit) (outs := o_law_digit) (ok_law_digit T) (hr.mono (by decide)) (by rfl) T.law_digit.g T.law_digit.f.kp T.law_digit.b pass0 (arg := (b72.2, (19 : Int))) (ja_s 0 (ja_p jp_int ja_nil)) hB) (fun x76 => jp_int) (fun x76 => od_sub)))) (js_nil [true, true, true, true] ())) fun n80 =>
(js_cons (ρ1 := fun (n88 : Unit) => [.own 1 ((oL D.int) b72.2), .val (D.int v_choice_71), .non, .non]) (js_ifP (jt_op (fun _ _ ha hb => pt_cmpR op_eq ha hb (nomark _)) (jp_var 1) jp_int od_eqI) (js_one (js_ret (fun (b87 : (Int × (List Int))) => ((b87.1 - (1000000 : Int)), b87.2)) [true, false, true, true] (je_opL (s := fun (x84 : (Int × (List Int))) => (.val (D.int (x84.1 - (1000000 : Int))))) (xa := fun (x84 : (Int × (List Int))) => D.int x84.1) (y := fun (x84 : (Int × (List Int))) => D.int (1000000 : Int)) (fun _ _ ha hb => pe_op op_sub ha hb) (je_callP (ins := i_law_digit) (mf := m_law_digit) (sl := l_law_digit) (outs := o_law_digit) (ok_law_digit T) (hr.mono (by decide)) (by rfl) T.law_digit.g T.law_digit.f.kp T.law_digit.b pass0 (arg := (b72.2, (2000001 : Int))) (ja_s 0 (ja_p jp_int ja_nil)) hB) (fun x84 => jp_int) (fun x84 => od_sub)))) (js_nil [true, true, true, true] ())) fun n88 =>
(js_setP 2 D.int (0 : Int) sc_law_number.nd jp_int fun v_found_89 =>
(js_cons (ρ1 := fun (n92 : ((List Int) × Int)) => [.own 1 ((oL D.int) n92.1), .val (D.int v_choice_71), .val (D.int n92.2), .non]) (js_for (en := D.int) (xs := fun (b90 : Unit) => (rng 0 (7 : Int))) (s0 := fun (b90 : Unit) => (b72.2, v_found_89)) (fun (s91 : ((List Int) × Int)) => [.own 1 ((oL D.int) s91.1), .val (D.int v_choice_71), .val (D.int s91.2), .non]) (fun (x93 : Int) (s91 : ((List Int) × Int)) => [.own 1 ((oL D.int) s91.1), .val (D.int v_choice_71), .val (D.int s91.2), .val (D.int x93)]) PassesOwn.never rfl (ji_rng1P (i := (7 : Int)) T.z_range (ja_p jp_int ja_nil)) [true, true, true, true] (fun _ => rfl) (fun x93 s91 => (jg_name 3 sc_law_number.nd)) (fun x93 s91 =>
(js_setE 2 D.int (fun (b104 : (Int × (List Int))) => ((s91.2 * ((10 : Int) ^ (Int.toNat (9 : Int)))) + b104.1)) sc_law_number.nd (je_opR (s := fun (y99 : (Int × (List Int))) => (.val (D.int ((s91.2 * ((10 : Int) ^ (Int.toNat (9 : Int)))) + y99.1)))) (xb := fun (y99 : (Int × (List Int))) => D.int y99.1) (fun _ _ ha hb => pe_op op_add ha hb) (je_op (fun _ _ ha hb => pe_op op_mul ha hb) (jp_var 2) (je_op (fun _ _ ha hb => pe_op op_pow ha hb) jp_int jp_int od_powC) od_mulC) (je_callP (ins := i_law_digit) (mf := m_law_digit) (sl := l_law_digit) (outs := o_law_digit) (ok_law_digit T) (hr.mono (by decide)) (by rfl) T.law_digit.g T.law_digit.f.kp T.law_digit.b pass0 (arg := (s91.1, ((10 : Int) ^ (Int.toNat (9 : Int))))) (ja_s 0 (ja_p (je_op (fun _ _ ha hb => pe_op op_pow ha hb) jp_int jp_int od_powC) ja_nil)) hB) (fun y99 => od_add)) fun b104 v_found_103 =>
(js_nil [true, true, true, false] (b104.2, v_found_103))))) fun n92 =>
(js_one (js_ret (fun (b118 : ((Int × (List Int)) × Unit)) => (((n92.2 % ((10 : Int) ^ (Int.toNat (60 : Int)))) * ((1 : Int) - ((2 : Int) * b118.1.1))), b118.1.2)) [true, false, false, true] (je_opRG (s := fun (y110 : (Int × (List Int))) (z117 : Unit) => (.val (D.int ((n92.2 % ((10 : Int) ^ (Int.toNat (60 : Int)))) * ((1 : Int) - ((2 : Int) * y110.1)))))) (xb := fun (y110 : (Int × (List Int))) => D.int ((1 : Int) - ((2 : Int) * y110.1))) (fun _ _ ha hb => pe_op op_mulX ha hb) (je_op (fun _ _ ha hb => pe_op op_mod ha hb) (jp_var 2) (je_op (fun _ _ ha hb => pe_op op_pow ha hb) jp_int jp_int od_powC) od_modC) (je_opR (s := fun (y112 : (Int × (List Int))) => (.val (D.int ((1 : Int) - ((2 : Int) * y112.1))))) (xb := fun (y112 : (Int × (List Int))) => D.int ((2 : Int) * y112.1)) (fun _ _ ha hb => pe_op op_sub ha hb) jp_int (je_opR (s := fun (y114 : (Int × (List Int))) => (.val (D.int ((2 : Int) * y114.1)))) (xb := fun (y114 : (Int × (List Int))) => D.int y114.1) (fun _ _ ha hb => pe_op op_mul ha hb) jp_int (je_callP (ins := i_law_digit) (mf := m_law_digit) (sl := l_law_digit) (outs := o_law_digit) (ok_law_digit T) (hr.mono (by decide)) (by rfl) T.law_digit.g T.law_digit.f.kp T.law_digit.b pass0 (arg := (n92.1, (2 : Int))) (ja_s 0 (ja_p jp_int ja_nil)) hB) (fun y114 => od_mulC)) (fun y112 => od_sub)) (fun y110 => od_mul))))))))))
/-! law_is_whole -/
abbrev s_law_is_whole : Stmt := topS 11
theorem sc_law_is_whole : FnScope ["_law_found"] ["_law_found"] (defScope s_law_is_whole) := ⟨rfl, rfl, rfl, by decide +kernel, rfl, by decide +kernel, by decide +kernel⟩
noncomputable def mb_law_is_whole (v_found : Int) : R (Fl Unit Unit Bool) :=
(R.ok (.rt ((isInt (D.int v_found)) && (!(isBool (D.int v_found))))))
noncomputable def m_law_is_whole (a : Int) : R Bool := fin0 (mb_law_is_whole a)
abbrev i_law_is_whole (a : Int) : List Slot := [.val (D.int a)]
abbrev l_law_is_whole (b : Bool) : Slot := .val (D.bool b)
abbrev o_law_is_whole (b : Bool) : List Slot := [.non]
theorem ok_law_is_whole {P : Program} {w : World} {K : PySem.W.Frag} {mg : Str → Option Value} {base : Heap} (T : Top K mg) : FnOk P w K mg base CX0 1 T.law_is_whole.a T.law_is_whole.d ["_law_found"] (spM K i_law_is_whole m_law_is_whole l_law_is_whole o_law_is_whole) := by
  show FnOk P w K mg base CX0 (0 + 1) T.law_is_whole.a T.law_is_whole.d ["_law_found"] (spM K i_law_is_whole (fun (a : Int) => fin0 (mb_law_is_whole a)) l_law_is_whole o_law_is_whole)
  refine fn_ok (n1 := fun _ => []) (c1 := fun _ => []) (k1 := fun _ => []) (ins := i_law_is_whole) (sl := l_law_is_whole) (outs := o_law_is_whole) (fun (a : Int) => mb_law_is_whole a) 0 T.law_is_whole.f sc_law_is_whole rfl (fun _ => rfl) (fun _ => rfl) (fun _ => rfl) (fun cdv A outer s H E hr B hB a => ?_)
  show JSs _ B _ _ (mb_law_is_whole a) _
  unfold mb_law_is_whole
  exact ((js_one (js_retP ((isInt (D.int a)) && (!(isBool (D.int a)))) [false] (jp_and (je_isi isi_int (jp_var 0) T.z_isinstance T.z_int (by decide +kernel)) (jp_one (je_not (je_isi isi_bool (jp_var 0) T.z_isinstance T.z_bool (by decide +kernel))))))))
/-! law_common -/
abbrev s_law_common : Stmt := topS 13
theorem sc_law_common : FnScope ["_law_one", "_law_other"] ["_law_one", "_law_other"] (defScope s_law_common) := ⟨rfl, rfl, rfl, by decide +kernel, rfl, by decide +kernel, by decide +kernel⟩
noncomputable def mb_law_common (v_one : Int) (v_other : Int) : R (Fl Unit Unit Int) :=
(bindF (whR (fun (s146 : (Int × Int)) => R.ok (decide (s146.2 > (0 : Int)))) (fun s146 =>
((R.guard (s146.2 ≠ (0 : Int))).bind fun (b154 : Unit) =>
(R.ok (.nx (s146.2, (Int.fmod s146.1 s146.2)))))) ((if v_one < 0 then -v_one else v_one), (if v_other < 0 then -v_other else v_other))) fun n147 =>
(R.ok (.rt n147.1)))
noncomputable def m_law_common (a : (Int × Int)) : R Int := fin0 (mb_law_common a.1 a.2)
abbrev i_law_common (a : (Int × Int)) : List Slot := [.val (D.int a.1), .val (D.int a.2)]
abbrev l_law_common (b : Int) : Slot := .val (D.int b)
abbrev o_law_common (b : Int) : List Slot := [.non, .non]
theorem ok_law_common {P : Program} {w : World} {K : PySem.W.Frag} {mg : Str → Option Value} {base : Heap} (T : Top K mg) : FnOk P w K mg base CX0 1 T.law_common.a T.law_common.d ["_law_one", "_law_other"] (spM K i_law_common m_law_common l_law_common o_law_common) := by
  show FnOk P w K mg base CX0 (0 + 1) T.law_common.a T.law_common.d ["_law_one", "_law_other"] (spM K i_law_common (fun (a : (Int × Int)) => fin0 (mb_law_common a.1 a.2)) l_law_common o_law_common)
  refine fn_ok (n1 := fun _ => []) (c1 := fun _ => []) (k1 := fun _ => []) (ins := i_law_common) (sl := l_law_common) (outs := o_law_common) (fun (a : (Int × Int)) => mb_law_common a.1 a.2) 0 T.law_common.f sc_law_common rfl (fun _ => rfl) (fun _ => rfl) (fun _ => rfl) (fun cdv A outer s H E hr B hB a => ?_)
  show JSs _ B _ _ (mb_law_common a.1 a.2) _
  unfold mb_law_common
  exact ((js_consP (j1_par 0 1 (d1 := fun (b145 : Unit) => D.int (if a.1 < 0 then -a.1 else a.1)) (d2 := fun (b145 : Unit) => D.int (if a.2 < 0 then -a.2 else a.2)) rfl sc_law_common.nd (ja_p (je_cb (fun _ ht => pe_callB call_abs (by rfl) T.z_abs (by decide +kernel) ht) (ja_p (jp_var 0) ja_nil) cb_abs) (ja_p (je_cb (fun _ ht => pe_callB call_abs (by rfl) T.z_abs (by decide +kernel) ht) (ja_p (jp_var 1) ja_nil) cb_abs) ja_nil)))
(js_cons (ρ1 := fun (n147 : (Int × Int)) => [.val (D.int n147.1), .val (D.int n147.2)]) (js_while (fun (s146 : (Int × Int)) => [.val (D.int s146.1), .val (D.int s146.2)]) PassesOwn.never ((if a.1 < 0 then -a.1 else a.1), (if a.2 < 0 then -a.2 else a.2)) [true, true] rfl (fun s146 => (jt_pb (jt_op (fun _ _ ha hb => pt_cmpR op_gt ha hb (nomark _)) (jp_var 1) jp_int od_gt))) (fun s146 =>
(js_cons1 (j1_par 0 1 (d1 := fun (b154 : Unit) => D.int s146.2) (d2 := fun (b154 : Unit) => D.int (Int.fmod s146.1 s146.2)) rfl sc_law_common.nd (ja_p (jp_var 1) (ja_el (ρa := fun _ => _) (xa := fun (x153 : Unit) => D.int (Int.fmod s146.1 s146.2)) (je_op (fun _ _ ha hb => pe_op op_modN ha hb) (jp_var 0) (jp_var 1) od_mod) (fun x153 => ja_nil)))) fun b154 =>
(js_nil [true, true] (s146.2, (Int.fmod s146.1 s146.2)))))) fun n147 =>
(js_one (js_retP n147.1 [false, false] (jp_var 0))))))
/-! law_is -/
abbrev s_law_is : Stmt := topS 16
theorem sc_law_is : FnScope ["_law_found", "_law_top", "_law_bottom"] ["_law_found", "_law_top", "_law_bottom"] (defScope s_law_is) := ⟨rfl, rfl, rfl, by decide +kernel, rfl, by decide +kernel, by decide +kernel⟩
noncomputable def mb_law_is (v_found : (Int × Int)) (v_top : Int) (v_bottom : Int) : R (Fl Unit Unit Bool) :=
(bindF ((or2 (R.ok ()) (fun (b138 : Unit) => (!(isTup ((eP2 D.int D.int) v_found)))) (or2 (R.ok ()) (fun (b137 : Unit) => (!decide ((2 : Int) = (2 : Int)))) (or2 (m_law_is_whole v_found.1) (fun (b136 : Bool) => (!b136)) ((m_law_is_whole v_found.2).bind fun (b135 : Bool) => R.ok (!b135))))).bind fun (b139 : Bool) => if b139 = true then (R.ok (.rt false)) else (R.ok (.nx ()))) fun n140 =>
(bindF ((or2 (R.ok ()) (fun (b163 : Unit) => (decide (v_found.2 < (1 : Int)))) ((m_law_common (v_found.1, v_found.2)).bind fun (b162 : Int) => R.ok (!decide (b162 = (1 : Int))))).bind fun (b164 : Bool) => if b164 = true then (R.ok (.rt false)) else (R.ok (.nx ()))) fun n165 =>
((op2 (R.guard (CMulX v_found.1 v_bottom)) (fun (x170 : Unit) => R.guard (CMulX v_top v_found.2)) (fun (x170 : Unit) (y171 : Unit) => R.ok ())).bind fun (b176 : (Unit × Unit × Unit)) => R.ok (.rt (decide ((v_found.1 * v_bottom) = (v_top * v_found.2)))))))
noncomputable def m_law_is (a : ((Int × Int) × Int × Int)) : R Bool := fin0 (mb_law_is a.1 a.2.1 a.2.2)
abbrev i_law_is (a : ((Int × Int) × Int × Int)) : List Slot := [.val ((eP2 D.int D.int) a.1), .val (D.int a.2.1), .val (D.int a.2.2)]
abbrev l_law_is (b : Bool) : Slot := .val (D.bool b)
abbrev o_law_is (b : Bool) : List Slot := [.non, .non, .non]
theorem ok_law_is {P : Program} {w : World} {K : PySem.W.Frag} {mg : Str → Option Value} {base : Heap} (T : Top K mg) : FnOk P w K mg base CX0 2 T.law_is.a T.law_is.d ["_law_found", "_law_top", "_law_bottom"] (spM K i_law_is m_law_is l_law_is o_law_is) := by
  show FnOk P w K mg base CX0 (1 + 1) T.law_is.a T.law_is.d ["_law_found", "_law_top", "_law_bottom"] (spM K i_law_is (fun (a : ((Int × Int) × Int × Int)) => fin0 (mb_law_is a.1 a.2.1 a.2.2)) l_law_is o_law_is)
  refine fn_ok (n1 := fun _ => []) (c1 := fun _ => []) (k1 := fun _ => []) (ins := i_law_is) (sl := l_law_is) (outs := o_law_is) (fun (a : ((Int × Int) × Int × Int)) => mb_law_is a.1 a.2.1 a.2.2) 0 T.law_is.f sc_law_is rfl (fun _ => rfl) (fun _ => rfl) (fun _ => rfl) (fun cdv A outer s H E hr B hB a => ?_)
  show JSs _ B _ _ (mb_law_is a.1 a.2.1 a.2.2) _
  unfold mb_law_is
  exact ((js_cons (ρ1 := fun (n140 : Unit) => [.val ((eP2 D.int D.int) a.1), .val (D.int a.2.1), .val (D.int a.2.2)]) (js_if (jt_w (jw_or (xa := fun (b138 : Unit) => (!(isTup ((eP2 D.int D.int) a.1)))) (jt_not (jt_val (je_isi isi_tuple (jp_var 0) T.z_isinstance T.z_tuple (by decide +kernel)))) (jw_or (xa := fun (b137 : Unit) => (!decide ((2 : Int) = (2 : Int)))) (jt_op (fun _ _ ha hb => pt_cmpR op_ne ha hb (nomark _)) (je_cb (fun _ ht => pe_callB call_len_seq (by rfl) T.z_len (by decide +kernel) ht) (ja_p (jp_var 0) ja_nil) cb_lenP2) jp_int od_neI) (jw_or (xa := fun (b136 : Bool) => (!b136)) (jt_not (jt_val (je_callV (ins := i_law_is_whole) (mf := m_law_is_whole) (sl := l_law_is_whole) (outs := o_law_is_whole) (ok_law_is_whole T) (hr.mono (by decide)) (by rfl) T.law_is_whole.g T.law_is_whole.f.kp T.law_is_whole.b pass0 (arg := a.1.1) (ja_p (je_op (fun _ _ ha hb => pe_ix ix_tup ha hb (fun _ _ => rfl)) (jp_var 0) jp_int (od_ixTs rfl)) ja_nil) hB))) (jw_or1 (jt_map (jt_not (jt_val (je_callV (ins := i_law_is_whole) (mf := m_law_is_whole) (sl := l_law_is_whole) (outs := o_law_is_whole) (ok_law_is_whole T) (hr.mono (by decide)) (by rfl) T.law_is_whole.g T.law_is_whole.f.kp T.law_is_whole.b pass0 (arg := a.1.2) (ja_p (je_op (fun _ _ ha hb => pe_ix ix_tup ha hb (fun _ _ => rfl)) (jp_var 0) jp_int (od_ixTs rfl)) ja_nil) hB))))))))) (fun b139 => (js_one (js_retP false [false, false, false] jp_bl))) (fun b139 => (js_nil [true, true, true] ()))) fun n140 =>
(js_cons (ρ1 := fun (n165 : Unit) => [.val ((eP2 D.int D.int) a.1), .val (D.int a.2.1), .val (D.int a.2.2)]) (js_if (jt_w (jw_or (xa := fun (b163 : Unit) => (decide (a.1.2 < (1 : Int)))) (jt_op (fun _ _ ha hb => pt_cmpR op_lt ha hb (nomark _)) (je_op (fun _ _ ha hb => pe_ix ix_tup ha hb (fun _ _ => rfl)) (jp_var 0) jp_int (od_ixTs rfl)) jp_int od_lt) (jw_or1 (jt_map (jt_opL (ρa := fun _ => _) (bn := fun (x159 : Int) => (!decide (x159 = (1 : Int)))) (xa := fun (x159 : Int) => D.int x159) (y := fun (x159 : Int) => D.int (1 : Int)) (fun _ _ ha hb => pt_cmpR op_ne ha hb (nomark _)) (je_callV (ins := i_law_common) (mf := m_law_common) (sl := l_law_common) (outs := o_law_common) (ok_law_common T) (hr.mono (by decide)) (by rfl) T.law_common.g T.law_common.f.kp T.law_common.b pass0 (arg := (a.1.1, a.1.2)) (ja_p (je_op (fun _ _ ha hb => pe_ix ix_tup ha hb (fun _ _ => rfl)) (jp_var 0) jp_int (od_ixTs rfl)) (ja_p (je_op (fun _ _ ha hb => pe_ix ix_tup ha hb (fun _ _ => rfl)) (jp_var 0) jp_int (od_ixTs rfl)) ja_nil)) hB) (fun x159 => jp_int) (fun x159 => od_neI)))))) (fun b164 => (js_one (js_retP false [false, false, false] jp_bl))) (fun b164 => (js_nil [true, true, true] ()))) fun n165 =>
(js_one (js_ret (fun (b176 : (Unit × Unit × Unit)) => (decide ((a.1.1 * a.2.2) = (a.2.1 * a.1.2)))) [false, false, false] (je_op2 (ρa := fun _ => _) (ρb := fun _ _ => _) (s := fun (x170 : Unit) (y171 : Unit) (z0 : Unit) => (.val (D.bool (decide ((a.1.1 * a.2.2) = (a.2.1 * a.1.2)))))) (xa := fun (x170 : Unit) => D.int (a.1.1 * a.2.2)) (xb := fun (x170 : Unit) (y171 : Unit) => D.int (a.2.1 * a.1.2)) (fun _ _ ha hb => pe_cmpR op_eq ha hb (nomark _)) (je_op (fun _ _ ha hb => pe_op op_mulX ha hb) (je_op (fun _ _ ha hb => pe_ix ix_tup ha hb (fun _ _ => rfl)) (jp_var 0) jp_int (od_ixTs rfl)) (jp_var 2) od_mul) (fun x170 => (je_op (fun _ _ ha hb => pe_op op_mulX ha hb) (jp_var 1) (je_op (fun _ _ ha hb => pe_ix ix_tup ha hb (fun _ _ => rfl)) (jp_var 0) jp_int (od_ixTs rfl)) od_mul)) (fun x170 y171 => od_eqI)))))))
/-! divisor -/
abbrev s_divisor : Stmt := topS 1
theorem sc_divisor : FnScope ["one", "other"] ["one", "other"] (defScope s_divisor) := ⟨rfl, rfl, rfl, by decide +kernel, rfl, by decide +kernel, by decide +kernel⟩
noncomputable def mb_divisor (v_one : Int) (v_other : Int) : R (Fl Unit Unit Int) :=
(bindF (whR (fun (s178 : (Int × Int)) => R.ok (decide (s178.2 > (0 : Int)))) (fun s178 =>
((R.guard (s178.2 ≠ (0 : Int))).bind fun (b186 : Unit) =>
(R.ok (.nx (s178.2, (Int.fmod s178.1 s178.2)))))) ((if v_one < 0 then -v_one else v_one), (if v_other < 0 then -v_other else v_other))) fun n179 =>
(R.ok (.rt n179.1)))
noncomputable def m_divisor (a : (Int × Int)) : R Int := fin0 (mb_divisor a.1 a.2)
abbrev i_divisor (a : (Int × Int)) : List Slot := [.val (D.int a.1), .val (D.int a.2)]
abbrev l_divisor (b : Int) : Slot := .val (D.int b)
abbrev o_divisor (b : Int) : List Slot := [.non, .non]
theorem ok_divisor {P : Program} {w : World} {K : PySem.W.Frag} {mg : Str → Option Value} {base : Heap} (T : Top K mg) : FnOk P w K mg base CX0 1 T.divisor.a T.divisor.d ["one", "other"] (spM K i_divisor m_divisor l_divisor o_divisor) := by
  show FnOk P w K mg base CX0 (0 + 1) T.divisor.a T.divisor.d ["one", "other"] (spM K i_divisor (fun (a : (Int × Int)) => fin0 (mb_divisor a.1 a.2)) l_divisor o_divisor)
  refine fn_ok (n1 := fun _ => []) (c1 := fun _ => []) (k1 := fun _ => []) (ins := i_divisor) (sl := l_divisor) (outs := o_divisor) (fun (a : (Int × Int)) => mb_divisor a.1 a.2) 0 T.divisor.f sc_divisor rfl (fun _ => rfl) (fun _ => rfl) (fun _ => rfl) (fun cdv A outer s H E hr B hB a => ?_)
  show JSs _ B _ _ (mb_divisor a.1 a.2) _
  unfold mb_divisor
  exact ((js_consP (j1_par 0 1 (d1 := fun (b177 : Unit) => D.int (if a.1 < 0 then -a.1 else a.1)) (d2 := fun (b177 : Unit) => D.int (if a.2 < 0 then -a.2 else a.2)) rfl sc_divisor.nd (ja_p (je_cb (fun _ ht => pe_callB call_abs (by rfl) T.z_abs (by decide +kernel) ht) (ja_p (jp_var 0) ja_nil) cb_abs) (ja_p (je_cb (fun _ ht => pe_callB call_abs (by rfl) T.z_abs (by decide +kernel) ht) (ja_p (jp_var 1) ja_nil) cb_abs) ja_nil)))
(js_cons (ρ1 := fun (n179 : (Int × Int)) => [.val (D.int n179.1), .val (D.int n179.2)]) (js_while (fun (s178 : (Int × Int)) => [.val (D.int s178.1), .val (D.int s178.2)]) PassesOwn.never ((if a.1 < 0 then -a.1 else a.1), (if a.2 < 0 then -a.2 else a.2)) [true, true] rfl (fun s178 => (jt_pb (jt_op (fun _ _ ha hb => pt_cmpR op_gt ha hb (nomark _)) (jp_var 1) jp_int od_gt))) (fun s178 =>
(js_cons1 (j1_par 0 1 (d1 := fun (b186 : Unit) => D.int s178.2) (d2 := fun (b186 : Unit) => D.int (Int.fmod s178.1 s178.2)) rfl sc_divisor.nd (ja_p (jp_var 1) (ja_el (ρa := fun _ => _) (xa := fun (x185 : Unit) => D.int (Int.fmod s178.1 s178.2)) (je_op (fun _ _ ha hb => pe_op op_modN ha hb) (jp_var 0) (jp_var 1) od_mod) (fun x185 => ja_nil)))) fun b186 =>
(js_nil [true, true] (s178.2, (Int.fmod s178.1 s178.2)))))) fun n179 =>
(js_one (js_retP n179.1 [false, false] (jp_var 0))))))
/-! fraction -/
abbrev s_fraction : Stmt := topS 2
theorem sc_fraction : FnScope ["n", "d", "by"] ["n", "d"] (defScope s_fraction) := ⟨rfl, rfl, rfl, by decide +kernel, rfl, by decide +kernel, by decide +kernel⟩
noncomputable def mb_fraction (v_n : Int) (v_d : Int) : R (Fl Unit Unit (Int × Int)) :=
((m_divisor (v_n, v_d)).bind fun (b188 : Int) => lt b188 fun v_by_187 =>
(bindF (if (decide (v_d < (0 : Int))) = true then (lt (-v_by_187) fun v_by_193 =>
(R.ok (.nx v_by_193))) else (R.ok (.nx v_by_187))) fun n194 =>
(((R.guard (divOk v_n n194)).bind fun (x197 : Unit) => (R.guard (divOk v_d n194)).bind fun (z201 : Unit) => R.ok (x197, z201)).bind fun (b202 : (Unit × Unit)) => R.ok (.rt ((Int.fdiv v_n n194), (Int.fdiv v_d n194))))))
noncomputable def m_fraction (a : (Int × Int)) : R (Int × Int) := fin0 (mb_fraction a.1 a.2)
abbrev i_fraction (a : (Int × Int)) : List Slot := [.val (D.int a.1), .val (D.int a.2)]
abbrev l_fraction (b : (Int × Int)) : Slot := .val ((eP2 D.int D.int) b)
abbrev o_fraction (b : (Int × Int)) : List Slot := [.non, .non]
theorem ok_fraction {P : Program} {w : World} {K : PySem.W.Frag} {mg : Str → Option Value} {base : Heap} (T : Top K mg) : FnOk P w K mg base CX0 2 T.fraction.a T.fraction.d ["n", "d"] (spM K i_fraction m_fraction l_fraction o_fraction) := by
  show FnOk P w K mg base CX0 (1 + 1) T.fraction.a T.fraction.d ["n", "d"] (spM K i_fraction (fun (a : (Int × Int)) => fin0 (mb_fraction a.1 a.2)) l_fraction o_fraction)
  refine fn_ok (n1 := fun _ => []) (c1 := fun _ => []) (k1 := fun _ => []) (ins := i_fraction) (sl := l_fraction) (outs := o_fraction) (fun (a : (Int × Int)) => mb_fraction a.1 a.2) 1 T.fraction.f sc_fraction rfl (fun _ => rfl) (fun _ => rfl) (fun _ => rfl) (fun cdv A outer s H E hr B hB a => ?_)
  show JSs _ B _ _ (mb_fraction a.1 a.2) _
  unfold mb_fraction
  exact ((js_setE 2 D.int (fun (b188 : Int) => b188) sc_fraction.nd (je_callV (ins := i_divisor) (mf := m_divisor) (sl := l_divisor) (outs := o_divisor) (ok_divisor T) (hr.mono (by decide)) (by rfl) T.divisor.g T.divisor.f.kp T.divisor.b pass0 (arg := (a.1, a.2)) (ja_p (jp_var 0) (ja_p (jp_var 1) ja_nil)) hB) fun b188 v_by_187 =>
(js_cons (ρ1 := fun (n194 : Int) => [.val (D.int a.1), .val (D.int a.2), .val (D.int n194)]) (js_ifP (jt_op (fun _ _ ha hb => pt_cmpR op_lt ha hb (nomark _)) (jp_var 1) jp_int od_lt) (js_setP 2 D.int (-v_by_187) sc_fraction.nd (jp_neg (jp_var 2)) fun v_by_193 =>
(js_nil [true, true, true] v_by_193)) (js_nil [true, true, true] v_by_187)) fun n194 =>
(js_one (js_ret (fun (b202 : (Unit × Unit)) => ((Int.fdiv a.1 n194), (Int.fdiv a.2 n194))) [false, false, false] (je_tup (ja_e (ρ' := fun _ _ => _) (ρa := fun _ => _) (xa := fun (x197 : Unit) => D.int (Int.fdiv a.1 n194)) (je_op (fun _ _ ha hb => pe_op op_fdivZ ha hb) (jp_var 0) (jp_var 2) od_fdiv) (fun x197 => (ja_el (ρa := fun _ => _) (xa := fun (x200 : Unit) => D.int (Int.fdiv a.2 n194)) (je_op (fun _ _ ha hb => pe_op op_fdivZ ha hb) (jp_var 1) (jp_var 2) od_fdiv) (fun x200 => ja_nil))))))))))
/-! law_made -/
abbrev s_law_made : Stmt := topS 14
theorem sc_law_made : FnScope ["_law_n", "_law_d", "_law_by"] ["_law_n", "_law_d"] (defScope s_law_made) := ⟨rfl, rfl, rfl, by decide +kernel, rfl, by decide +kernel, by decide +kernel⟩
noncomputable def mb_law_made (v_n : Int) (v_d : Int) : R (Fl Unit Unit (Int × Int)) :=
((m_law_common (v_n, v_d)).bind fun (b209 : Int) => lt b209 fun v_by_208 =>
(((R.guard (divOk v_n v_by_208)).bind fun (x212 : Unit) => (R.guard (divOk v_d v_by_208)).bind fun (z216 : Unit) => R.ok (x212, z216)).bind fun (b217 : (Unit × Unit)) => R.ok (.rt ((Int.fdiv v_n v_by_208), (Int.fdiv v_d v_by_208)))))
noncomputable def m_law_made (a : (Int × Int)) : R (Int × Int) := fin0 (mb_law_made a.1 a.2)
abbrev i_law_made (a : (Int × Int)) : List Slot := [.val (D.int a.1), .val (D.int a.2)]
abbrev l_law_made (b : (Int × Int)) : Slot := .val ((eP2 D.int D.int) b)
abbrev o_law_made (b : (Int × Int)) : List Slot := [.non, .non]
theorem ok_law_made {P : Program} {w : World} {K : PySem.W.Frag} {mg : Str → Option Value} {base : Heap} (T : Top K mg) : FnOk P w K mg base CX0 2 T.law_made.a T.law_made.d ["_law_n", "_law_d"] (spM K i_law_made m_law_made l_law_made o_law_made) := by
  show FnOk P w K mg base CX0 (1 + 1) T.law_made.a T.law_made.d ["_law_n", "_law_d"] (spM K i_law_made (fun (a : (Int × Int)) => fin0 (mb_law_made a.1 a.2)) l_law_made o_law_made)
  refine fn_ok (n1 := fun _ => []) (c1 := fun _ => []) (k1 := fun _ => []) (ins := i_law_made) (sl := l_law_made) (outs := o_law_made) (fun (a : (Int × Int)) => mb_law_made a.1 a.2) 1 T.law_made.f sc_law_made rfl (fun _ => rfl) (fun _ => rfl) (fun _ => rfl) (fun cdv A outer s H E hr B hB a => ?_)
  show JSs _ B _ _ (mb_law_made a.1 a.2) _
  unfold mb_law_made
  exact ((js_setE 2 D.int (fun (b209 : Int) => b209) sc_law_made.nd (je_callV (ins := i_law_common) (mf := m_law_common) (sl := l_law_common) (outs := o_law_common) (ok_law_common T) (hr.mono (by decide)) (by rfl) T.law_common.g T.law_common.f.kp T.law_common.b pass0 (arg := (a.1, a.2)) (ja_p (jp_var 0) (ja_p (jp_var 1) ja_nil)) hB) fun b209 v_by_208 =>
(js_one (js_ret (fun (b217 : (Unit × Unit)) => ((Int.fdiv a.1 v_by_208), (Int.fdiv a.2 v_by_208))) [false, false, false] (je_tup (ja_e (ρ' := fun _ _ => _) (ρa := fun _ => _) (xa := fun (x212 : Unit) => D.int (Int.fdiv a.1 v_by_208)) (je_op (fun _ _ ha hb => pe_op op_fdivZ ha hb) (jp_var 0) (jp_var 2) od_fdiv) (fun x212 => (ja_el (ρa := fun _ => _) (xa := fun (x215 : Unit) => D.int (Int.fdiv a.2 v_by_208)) (je_op (fun _ _ ha hb => pe_op op_fdivZ ha hb) (jp_var 1) (jp_var 2) od_fdiv) (fun x215 => ja_nil)))))))))
/-! law_drawn -/
abbrev s_law_drawn : Stmt := topS 15
theorem sc_law_drawn : FnScope ["_law_pot_here"] ["_law_pot_here"] (defScope s_law_drawn) := ⟨rfl, rfl, rfl, by decide +kernel, rfl, by decide +kernel, by decide +kernel⟩
noncomputable def mb_law_drawn (v_pot_here : (List Int)) : R (Fl Unit Unit ((Int × Int) × (List Int))) :=
((((m_law_number v_pot_here).bind fun (x218 : (Int × (List Int))) => (m_law_number x218.2).bind fun (z226 : (Int × (List Int))) => R.ok (x218, z226)).bind fun (c227 : ((Int × (List Int)) × (Int × (List Int)))) => (m_law_made (c227.1.1, (max (1 : Int) (if c227.2.1 < 0 then -c227.2.1 else c227.2.1)))).bind fun (z228 : (Int × Int)) => R.ok (c227, z228)).bind fun (b229 : (((Int × (List Int)) × (Int × (List Int))) × (Int × Int))) => R.ok (.rt (b229.2, b229.1.2.2)))
noncomputable def m_law_drawn (a : (List Int)) : R ((Int × Int) × (List Int)) := fin0 (mb_law_drawn a)
abbrev i_law_drawn (a : (List Int)) : List Slot := [.own 1 ((oL D.int) a)]
abbrev l_law_drawn (b : ((Int × Int) × (List Int))) : Slot := .val ((eP2 D.int D.int) b.1)
abbrev o_law_drawn (b : ((Int × Int) × (List Int))) : List Slot := [.own 1 ((oL D.int) b.2)]
theorem ok_law_drawn {P : Program} {w : World} {K : PySem.W.Frag} {mg : Str → Option Value} {base : Heap} (T : Top K mg) : FnOk P w K mg base CX0 3 T.law_drawn.a T.law_drawn.d ["_law_pot_here"] (spM K i_law_drawn m_law_drawn l_law_drawn o_law_drawn) := by
  show FnOk P w K mg base CX0 (2 + 1) T.law_drawn.a T.law_drawn.d ["_law_pot_here"] (spM K i_law_drawn (fun (a : (List Int)) => fin0 (mb_law_drawn a)) l_law_drawn o_law_drawn)
  refine fn_ok (n1 := fun _ => []) (c1 := fun _ => []) (k1 := fun _ => []) (ins := i_law_drawn) (sl := l_law_drawn) (outs := o_law_drawn) (fun (a : (List Int)) => mb_law_drawn a) 0 T.law_drawn.f sc_law_drawn rfl (fun _ => rfl) (fun _ => rfl) (fun _ => rfl) (fun cdv A outer s H E hr B hB a => ?_)
  show JSs _ B _ _ (mb_law_drawn a) _
  unfold mb_law_drawn
  exact ((js_one (js_ret (fun (b229 : (((Int × (List Int)) × (Int × (List Int))) × (Int × Int))) => (b229.2, b229.1.2.2)) [true] (je_callVE (ins := i_law_made) (mf := m_law_made) (sl := l_law_made) (outs := o_law_made) (ok_law_made T) (hr.mono (by decide)) (by rfl) T.law_made.g T.law_made.f.kp T.law_made.b pass0 (arg := fun (c227 : ((Int × (List Int)) × (Int × (List Int)))) => (c227.1.1, (max (1 : Int) (if c227.2.1 < 0 then -c227.2.1 else c227.2.1)))) (ja_e (xa := fun (x218 : (Int × (List Int))) => D.int x218.1) (je_callP (ins := i_law_number) (mf := m_law_number) (sl := l_law_number) (outs := o_law_number) (ok_law_number T) (hr.mono (by decide)) (by rfl) T.law_number.g T.law_number.f.kp T.law_number.b pass0 (arg := a) (ja_s 0 ja_nil) hB) (fun x218 => (ja_el (xa := fun (x225 : (Int × (List Int))) => D.int (max (1 : Int) (if x225.1 < 0 then -x225.1 else x225.1))) (je_cbN (s := fun (c223 : (Int × (List Int))) => .val (D.int (max (1 : Int) (if c223.1 < 0 then -c223.1 else c223.1)))) (fun _ ht => pe_callB (call_max2 rfl) (by rfl) T.z_max (by decide +kernel) ht) (ja_p jp_int (ja_el (xa := fun (x222 : (Int × (List Int))) => D.int (if x222.1 < 0 then -x222.1 else x222.1)) (je_cbN (s := fun (c220 : (Int × (List Int))) => .val (D.int (if c220.1 < 0 then -c220.1 else c220.1))) (fun _ ht => pe_callB call_abs (by rfl) T.z_abs (by decide +kernel) ht) (ja_el (xa := fun (x219 : (Int × (List Int))) => D.int x219.1) (je_callP (ins := i_law_number) (mf := m_law_number) (sl := l_law_number) (outs := o_law_number) (ok_law_number T) (hr.mono (by decide)) (by rfl) T.law_number.g T.law_number.f.kp T.law_number.b pass0 (arg := x218.2) (ja_s 0 ja_nil) hB) (fun x219 => ja_nil)) (fun c220 => cb_abs)) (fun x222 => ja_nil))) (fun c223 => cb_max)) (fun x225 => ja_nil)))) hB))))
/-! plus -/
abbrev s_plus : Stmt := topS 3
theorem sc_plus : FnScope ["one", "other"] ["one", "other"] (defScope s_plus) := ⟨rfl, rfl, rfl, by decide +kernel, rfl, by decide +kernel, by decide +kernel⟩
noncomputable def mb_plus (v_one : (Int × Int)) (v_other : (Int × Int)) : R (Fl Unit Unit (Int × Int)) :=
((((op2 (R.guard (CMulX v_one.1 v_other.2)) (fun (x242 : Unit) => R.guard (CMulX v_other.1 v_one.2)) (fun (x242 : Unit) (y243 : Unit) => R.ok ())).bind fun (x250 : (Unit × Unit × Unit)) => (R.guard (CMulX v_one.2 v_other.2)).bind fun (z258 : Unit) => R.ok (x250, z258)).bind fun (c259 : ((Unit × Unit × Unit) × Unit)) => (m_fraction (((v_one.1 * v_other.2) + (v_other.1 * v_one.2)), (v_one.2 * v_other.2))).bind fun (z260 : (Int × Int)) => R.ok (c259, z260)).bind fun (b261 : (((Unit × Unit × Unit) × Unit) × (Int × Int))) => R.ok (.rt b261.2))
noncomputable def m_plus (a : ((Int × Int) × (Int × Int))) : R (Int × Int) := fin0 (mb_plus a.1 a.2)
abbrev i_plus (a : ((Int × Int) × (Int × Int))) : List Slot := [.val ((eP2 D.int D.int) a.1), .val ((eP2 D.int D.int) a.2)]
abbrev l_plus (b : (Int × Int)) : Slot := .val ((eP2 D.int D.int) b)
abbrev o_plus (b : (Int × Int)) : List Slot := [.non, .non]
theorem ok_plus {P : Program} {w : World} {K : PySem.W.Frag} {mg : Str → Option Value} {base : Heap} (T : Top K mg) : FnOk P w K mg base CX0 3 T.plus.a T.plus.d ["one", "other"] (spM K i_plus m_plus l_plus o_plus) := by
  show FnOk P w K mg base CX0 (2 + 1) T.plus.a T.plus.d ["one", "other"] (spM K i_plus (fun (a : ((Int × Int) × (Int × Int))) => fin0 (mb_plus a.1 a.2)) l_plus o_plus)
  refine fn_ok (n1 := fun _ => []) (c1 := fun _ => []) (k1 := fun _ => []) (ins := i_plus) (sl := l_plus) (outs := o_plus) (fun (a : ((Int × Int) × (Int × Int))) => mb_plus a.1 a.2) 0 T.plus.f sc_plus rfl (fun _ => rfl) (fun _ => rfl) (fun _ => rfl) (fun cdv A outer s H E hr B hB a => ?_)
  show JSs _ B _ _ (mb_plus a.1 a.2) _
  unfold mb_plus
  exact ((js_one (js_ret (fun (b261 : (((Unit × Unit × Unit) × Unit) × (Int × Int))) => b261.2) [false, false] (je_callVE (ρa := fun _ => _) (ins := i_fraction) (mf := m_fraction) (sl := l_fraction) (outs := o_fraction) (ok_fraction T) (hr.mono (by decide)) (by rfl) T.fraction.g T.fraction.f.kp T.fraction.b pass0 (arg := fun (c259 : ((Unit × Unit × Unit) × Unit)) => (((a.1.1 * a.2.2) + (a.2.1 * a.1.2)), (a.1.2 * a.2.2))) (ja_e (ρ' := fun _ _ => _) (ρa := fun _ => _) (xa := fun (x250 : (Unit × Unit × Unit)) => D.int ((a.1.1 * a.2.2) + (a.2.1 * a.1.2))) (je_op2 (ρa := fun _ => _) (ρb := fun _ _ => _) (s := fun (x242 : Unit) (y243 : Unit) (z0 : Unit) => (.val (D.int ((a.1.1 * a.2.2) + (a.2.1 * a.1.2))))) (xa := fun (x242 : Unit) => D.int (a.1.1 * a.2.2)) (xb := fun (x242 : Unit) (y243 : Unit) => D.int (a.2.1 * a.1.2)) (fun _ _ ha hb => pe_op op_add ha hb) (je_op (fun _ _ ha hb => pe_op op_mulX ha hb) (je_op (fun _ _ ha hb => pe_ix ix_tup ha hb (fun _ _ => rfl)) (jp_var 0) jp_int (od_ixTs rfl)) (je_op (fun _ _ ha hb => pe_ix ix_tup ha hb (fun _ _ => rfl)) (jp_var 1) jp_int (od_ixTs rfl)) od_mul) (fun x242 => (je_op (fun _ _ ha hb => pe_op op_mulX ha hb) (je_op (fun _ _ ha hb => pe_ix ix_tup ha hb (fun _ _ => rfl)) (jp_var 1) jp_int (od_ixTs rfl)) (je_op (fun _ _ ha hb => pe_ix ix_tup ha hb (fun _ _ => rfl)) (jp_var 0) jp_int (od_ixTs rfl)) od_mul)) (fun x242 y243 => od_add)) (fun x250 => (ja_el (ρa := fun _ => _) (xa := fun (x257 : Unit) => D.int (a.1.2 * a.2.2)) (je_op (fun _ _ ha hb => pe_op op_mulX ha hb) (je_op (fun _ _ ha hb => pe_ix ix_tup ha hb (fun _ _ => rfl)) (jp_var 0) jp_int (od_ixTs rfl)) (je_op (fun _ _ ha hb => pe_ix ix_tup ha hb (fun _ _ => rfl)) (jp_var 1) jp_int (od_ixTs rfl)) od_mul) (fun x257 => ja_nil)))) hB))))
/-! less -/
abbrev s_less : Stmt := topS 4
theorem sc_less : FnScope ["one", "other"] ["one", "other"] (defScope s_less) := ⟨rfl, rfl, rfl, by decide +kernel, rfl, by decide +kernel, by decide +kernel⟩
noncomputable def mb_less (v_one : (Int × Int)) (v_other : (Int × Int)) : R (Fl Unit Unit (Int × Int)) :=
((((op2 (R.guard (CMulX v_one.1 v_other.2)) (fun (x283 : Unit) => R.guard (CMulX v_other.1 v_one.2)) (fun (x283 : Unit) (y284 : Unit) => R.ok ())).bind fun (x291 : (Unit × Unit × Unit)) => (R.guard (CMulX v_one.2 v_other.2)).bind fun (z299 : Unit) => R.ok (x291, z299)).bind fun (c300 : ((Unit × Unit × Unit) × Unit)) => (m_fraction (((v_one.1 * v_other.2) - (v_other.1 * v_one.2)), (v_one.2 * v_other.2))).bind fun (z301 : (Int × Int)) => R.ok (c300, z301)).bind fun (b302 : (((Unit × Unit × Unit) × Unit) × (Int × Int))) => R.ok (.rt b302.2))
noncomputable def m_less (a : ((Int × Int) × (Int × Int))) : R (Int × Int) := fin0 (mb_less a.1 a.2)
abbrev i_less (a : ((Int × Int) × (Int × Int))) : List Slot := [.val ((eP2 D.int D.int) a.1), .val ((eP2 D.int D.int) a.2)]
abbrev l_less (b : (Int × Int)) : Slot := .val ((eP2 D.int D.int) b)
abbrev o_less (b : (Int × Int)) : List Slot := [.non, .non]
theorem ok_less {P : Program} {w : World} {K : PySem.W.Frag} {mg : Str → Option Value} {base : Heap} (T : Top K mg) : FnOk P w K mg base CX0 3 T.less.a T.less.d ["one", "other"] (spM K i_less m_less l_less o_less) := by
  show FnOk P w K mg base CX0 (2 + 1) T.less.a T.less.d ["one", "other"] (spM K i_less (fun (a : ((Int × Int) × (Int × Int))) => fin0 (mb_less a.1 a.2)) l_less o_less)
  refine fn_ok (n1 := fun _ => []) (c1 := fun _ => []) (k1 := fun _ => []) (ins := i_less) (sl := l_less) (outs := o_less) (fun (a : ((Int × Int) × (Int × Int))) => mb_less a.1 a.2) 0 T.less.f sc_less rfl (fun _ => rfl) (fun _ => rfl) (fun _ => rfl) (fun cdv A outer s H E hr B hB a => ?_)
  show JSs _ B _ _ (mb_less a.1 a.2) _
  unfold mb_less
  exact ((js_one (js_ret (fun (b302 : (((Unit × Unit × Unit) × Unit) × (Int × Int))) => b302.2) [false, false] (je_callVE (ρa := fun _ => _) (ins := i_fraction) (mf := m_fraction) (sl := l_fraction) (outs := o_fraction) (ok_fraction T) (hr.mono (by decide)) (by rfl) T.fraction.g T.fraction.f.kp T.fraction.b pass0 (arg := fun (c300 : ((Unit × Unit × Unit) × Unit)) => (((a.1.1 * a.2.2) - (a.2.1 * a.1.2)), (a.1.2 * a.2.2))) (ja_e (ρ' := fun _ _ => _) (ρa := fun _ => _) (xa := fun (x291 : (Unit × Unit × Unit)) => D.int ((a.1.1 * a.2.2) - (a.2.1 * a.1.2))) (je_op2 (ρa := fun _ => _) (ρb := fun _ _ => _) (s := fun (x283 : Unit) (y284 : Unit) (z0 : Unit) => (.val (D.int ((a.1.1 * a.2.2) - (a.2.1 * a.1.2))))) (xa := fun (x283 : Unit) => D.int (a.1.1 * a.2.2)) (xb := fun (x283 : Unit) (y284 : Unit) => D.int (a.2.1 * a.1.2)) (fun _ _ ha hb => pe_op op_sub ha hb) (je_op (fun _ _ ha hb => pe_op op_mulX ha hb) (je_op (fun _ _ ha hb => pe_ix ix_tup ha hb (fun _ _ => rfl)) (jp_var 0) jp_int (od_ixTs rfl)) (je_op (fun _ _ ha hb => pe_ix ix_tup ha hb (fun _ _ => rfl)) (jp_var 1) jp_int (od_ixTs rfl)) od_mul) (fun x283 => (je_op (fun _ _ ha hb => pe_op op_mulX ha hb) (je_op (fun _ _ ha hb => pe_ix ix_tup ha hb (fun _ _ => rfl)) (jp_var 1) jp_int (od_ixTs rfl)) (je_op (fun _ _ ha hb => pe_ix ix_tup ha hb (fun _ _ => rfl)) (jp_var 0) jp_int (od_ixTs rfl)) od_mul)) (fun x283 y284 => od_sub)) (fun x291 => (ja_el (ρa := fun _ => _) (xa := fun (x298 : Unit) => D.int (a.1.2 * a.2.2)) (je_op (fun _ _ ha hb => pe_op op_mulX ha hb) (je_op (fun _ _ ha hb => pe_ix ix_tup ha hb (fun _ _ => rfl)) (jp_var 0) jp_int (od_ixTs rfl)) (je_op (fun _ _ ha hb => pe_ix ix_tup ha hb (fun _ _ => rfl)) (jp_var 1) jp_int (od_ixTs rfl)) od_mul) (fun x298 => ja_nil)))) hB))))
/-! times -/
abbrev s_times : Stmt := topS 5
theorem sc_times : FnScope ["one", "other"] ["one", "other"] (defScope s_times) := ⟨rfl, rfl, rfl, by decide +kernel, rfl, by decide +kernel, by decide +kernel⟩
noncomputable def mb_times (v_one : (Int × Int)) (v_other : (Int × Int)) : R (Fl Unit Unit (Int × Int)) :=
((((R.guard (CMulX v_one.1 v_other.1)).bind fun (x328 : Unit) => (R.guard (CMulX v_one.2 v_other.2)).bind fun (z336 : Unit) => R.ok (x328, z336)).bind fun (c337 : (Unit × Unit)) => (m_fraction ((v_one.1 * v_other.1), (v_one.2 * v_other.2))).bind fun (z338 : (Int × Int)) => R.ok (c337, z338)).bind fun (b339 : ((Unit × Unit) × (Int × Int))) => R.ok (.rt b339.2))
noncomputable def m_times (a : ((Int × Int) × (Int × Int))) : R (Int × Int) := fin0 (mb_times a.1 a.2)
abbrev i_times (a : ((Int × Int) × (Int × Int))) : List Slot := [.val ((eP2 D.int D.int) a.1), .val ((eP2 D.int D.int) a.2)]
abbrev l_times (b : (Int × Int)) : Slot := .val ((eP2 D.int D.int) b)
abbrev o_times (b : (Int × Int)) : List Slot := [.non, .non]
theorem ok_times {P : Program} {w : World} {K : PySem.W.Frag} {mg : Str → Option Value} {base : Heap} (T : Top K mg) : FnOk P w K mg base CX0 3 T.times.a T.times.d ["one", "other"] (spM K i_times m_times l_times o_times) := by
  show FnOk P w K mg base CX0 (2 + 1) T.times.a T.times.d ["one", "other"] (spM K i_times (fun (a : ((Int × Int) × (Int × Int))) => fin0 (mb_times a.1 a.2)) l_times o_times)
  refine fn_ok (n1 := fun _ => []) (c1 := fun _ => []) (k1 := fun _ => []) (ins := i_times) (sl := l_times) (outs := o_times) (fun (a : ((Int × Int) × (Int × Int))) => mb_times a.1 a.2) 0 T.times.f sc_times rfl (fun _ => rfl) (fun _ => rfl) (fun _ => rfl) (fun cdv A outer s H E hr B hB a => ?_)
  show JSs _ B _ _ (mb_times a.1 a.2) _
  unfold mb_times
  exact ((js_one (js_ret (fun (b339 : ((Unit × Unit) × (Int × Int))) => b339.2) [false, false] (je_callVE (ρa := fun _ => _) (ins := i_fraction) (mf := m_fraction) (sl := l_fraction) (outs := o_fraction) (ok_fraction T) (hr.mono (by decide)) (by rfl) T.fraction.g T.fraction.f.kp T.fraction.b pass0 (arg := fun (c337 : (Unit × Unit)) => ((a.1.1 * a.2.1), (a.1.2 * a.2.2))) (ja_e (ρ' := fun _ _ => _) (ρa := fun _ => _) (xa := fun (x328 : Unit) => D.int (a.1.1 * a.2.1)) (je_op (fun _ _ ha hb => pe_op op_mulX ha hb) (je_op (fun _ _ ha hb => pe_ix ix_tup ha hb (fun _ _ => rfl)) (jp_var 0) jp_int (od_ixTs rfl)) (je_op (fun _ _ ha hb => pe_ix ix_tup ha hb (fun _ _ => rfl)) (jp_var 1) jp_int (od_ixTs rfl)) od_mul) (fun x328 => (ja_el (ρa := fun _ => _) (xa := fun (x335 : Unit) => D.int (a.1.2 * a.2.2)) (je_op (fun _ _ ha hb => pe_op op_mulX ha hb) (je_op (fun _ _ ha hb => pe_ix ix_tup ha hb (fun _ _ => rfl)) (jp_var 0) jp_int (od_ixTs rfl)) (je_op (fun _ _ ha hb => pe_ix ix_tup ha hb (fun _ _ => rfl)) (jp_var 1) jp_int (od_ixTs rfl)) od_mul) (fun x335 => ja_nil)))) hB))))
/-! over -/
abbrev s_over : Stmt := topS 6
theorem sc_over : FnScope ["one", "other"] ["one", "other"] (defScope s_over) := ⟨rfl, rfl, rfl, by decide +kernel, rfl, by decide +kernel, by decide +kernel⟩
noncomputable def mb_over (v_one : (Int × Int)) (v_other : (Int × Int)) : R (Fl Unit Unit (Int × Int)) :=
((((R.guard (CMulX v_one.1 v_other.2)).bind fun (x361 : Unit) => (R.guard (CMulX v_one.2 v_other.1)).bind fun (z369 : Unit) => R.ok (x361, z369)).bind fun (c370 : (Unit × Unit)) => (m_fraction ((v_one.1 * v_other.2), (v_one.2 * v_other.1))).bind fun (z371 : (Int × Int)) => R.ok (c370, z371)).bind fun (b372 : ((Unit × Unit) × (Int × Int))) => R.ok (.rt b372.2))
noncomputable def m_over (a : ((Int × Int) × (Int × Int))) : R (Int × Int) := fin0 (mb_over a.1 a.2)
abbrev i_over (a : ((Int × Int) × (Int × Int))) : List Slot := [.val ((eP2 D.int D.int) a.1), .val ((eP2 D.int D.int) a.2)]
abbrev l_over (b : (Int × Int)) : Slot := .val ((eP2 D.int D.int) b)
abbrev o_over (b : (Int × Int)) : List Slot := [.non, .non]
theorem ok_over {P : Program} {w : World} {K : PySem.W.Frag} {mg : Str → Option Value} {base : Heap} (T : Top K mg) : FnOk P w K mg base CX0 3 T.over.a T.over.d ["one", "other"] (spM K i_over m_over l_over o_over) := by
  show FnOk P w K mg base CX0 (2 + 1) T.over.a T.over.d ["one", "other"] (spM K i_over (fun (a : ((Int × Int) × (Int × Int))) => fin0 (mb_over a.1 a.2)) l_over o_over)
  refine fn_ok (n1 := fun _ => []) (c1 := fun _ => []) (k1 := fun _ => []) (ins := i_over) (sl := l_over) (outs := o_over) (fun (a : ((Int × Int) × (Int × Int))) => mb_over a.1 a.2) 0 T.over.f sc_over rfl (fun _ => rfl) (fun _ => rfl) (fun _ => rfl) (fun cdv A outer s H E hr B hB a => ?_)
  show JSs _ B _ _ (mb_over a.1 a.2) _
  unfold mb_over
  exact ((js_one (js_ret (fun (b372 : ((Unit × Unit) × (Int × Int))) => b372.2) [false, false] (je_callVE (ρa := fun _ => _) (ins := i_fraction) (mf := m_fraction) (sl := l_fraction) (outs := o_fraction) (ok_fraction T) (hr.mono (by decide)) (by rfl) T.fraction.g T.fraction.f.kp T.fraction.b pass0 (arg := fun (c370 : (Unit × Unit)) => ((a.1.1 * a.2.2), (a.1.2 * a.2.1))) (ja_e (ρ' := fun _ _ => _) (ρa := fun _ => _) (xa := fun (x361 : Unit) => D.int (a.1.1 * a.2.2)) (je_op (fun _ _ ha hb => pe_op op_mulX ha hb) (je_op (fun _ _ ha hb => pe_ix ix_tup ha hb (fun _ _ => rfl)) (jp_var 0) jp_int (od_ixTs rfl)) (je_op (fun _ _ ha hb => pe_ix ix_tup ha hb (fun _ _ => rfl)) (jp_var 1) jp_int (od_ixTs rfl)) od_mul) (fun x361 => (ja_el (ρa := fun _ => _) (xa := fun (x368 : Unit) => D.int (a.1.2 * a.2.1)) (je_op (fun _ _ ha hb => pe_op op_mulX ha hb) (je_op (fun _ _ ha hb => pe_ix ix_tup ha hb (fun _ _ => rfl)) (jp_var 0) jp_int (od_ixTs rfl)) (je_op (fun _ _ ha hb => pe_ix ix_tup ha hb (fun _ _ => rfl)) (jp_var 1) jp_int (od_ixTs rfl)) od_mul) (fun x368 => ja_nil)))) hB))))
/-! sign -/
abbrev s_sign : Stmt := topS 7
theorem sc_sign : FnScope ["one"] ["one"] (defScope s_sign) := ⟨rfl, rfl, rfl, by decide +kernel, rfl, by decide +kernel, by decide +kernel⟩
noncomputable def mb_sign (v_one : (Int × Int)) : R (Fl Unit Unit Int) :=
(R.ok (.rt ((if (decide (v_one.1 > (0 : Int))) = true then (1 : Int) else 0) - (if (decide (v_one.1 < (0 : Int))) = true then (1 : Int) else 0))))
noncomputable def m_sign (a : (Int × Int)) : R Int := fin0 (mb_sign a)
abbrev i_sign (a : (Int × Int)) : List Slot := [.val ((eP2 D.int D.int) a)]
abbrev l_sign (b : Int) : Slot := .val (D.int b)
abbrev o_sign (b : Int) : List Slot := [.non]
theorem ok_sign {P : Program} {w : World} {K : PySem.W.Frag} {mg : Str → Option Value} {base : Heap} (T : Top K mg) : FnOk P w K mg base CX0 1 T.sign.a T.sign.d ["one"] (spM K i_sign m_sign l_sign o_sign) := by
  show FnOk P w K mg base CX0 (0 + 1) T.sign.a T.sign.d ["one"] (spM K i_sign (fun (a : (Int × Int)) => fin0 (mb_sign a)) l_sign o_sign)
  refine fn_ok (n1 := fun _ => []) (c1 := fun _ => []) (k1 := fun _ => []) (ins := i_sign) (sl := l_sign) (outs := o_sign) (fun (a : (Int × Int)) => mb_sign a) 0 T.sign.f sc_sign rfl (fun _ => rfl) (fun _ => rfl) (fun _ => rfl) (fun cdv A outer s H E hr B hB a => ?_)
  show JSs _ B _ _ (mb_sign a) _
  unfold mb_sign
  exact ((js_one (js_retP ((if (decide (a.1 > (0 : Int))) = true then (1 : Int) else 0) - (if (decide (a.1 < (0 : Int))) = true then (1 : Int) else 0)) [false] (je_op (fun _ _ ha hb => pe_op op_sub ha hb) (je_cb (fun _ ht => pe_callTy call_int1 (by rfl) T.z_int (by decide +kernel) ht) (ja_p (je_op (fun _ _ ha hb => pe_cmpR op_gt ha hb (nomark _)) (je_op (fun _ _ ha hb => pe_ix ix_tup ha hb (fun _ _ => rfl)) (jp_var 0) jp_int (od_ixTs rfl)) jp_int od_gt) ja_nil) cb_intB) (je_cb (fun _ ht => pe_callTy call_int1 (by rfl) T.z_int (by decide +kernel) ht) (ja_p (je_op (fun _ _ ha hb => pe_cmpR op_lt ha hb (nomark _)) (je_op (fun _ _ ha hb => pe_ix ix_tup ha hb (fun _ _ => rfl)) (jp_var 0) jp_int (od_ixTs rfl)) jp_int od_lt) ja_nil) cb_intB) od_sub))))
/-! law_is_reckoned -/
abbrev s_law_is_reckoned : Stmt := topS 17
theorem sc_law_is_reckoned : FnScope ["_law_one", "_law_other", "_law_a", "_law_b", "_law_c", "_law_d", "_law_due"] ["_law_one", "_law_other"] (defScope s_law_is_reckoned) := ⟨rfl, rfl, rfl, by decide +kernel, rfl, by decide +kernel, by decide +kernel⟩
noncomputable def mb_law_is_reckoned (v_one : (Int × Int)) (v_other : (Int × Int)) : R (Fl Unit Unit Bool) :=
(bindF ((or2 (((m_plus (v_one, v_other)).bind fun (x262 : (Int × Int)) => ((op2 (R.guard (CMulX v_one.1 v_other.2)) (fun (x265 : Unit) => R.guard (CMulX v_other.1 v_one.2)) (fun (x265 : Unit) (y266 : Unit) => R.ok ())).bind fun (x269 : (Unit × Unit × Unit)) => (R.guard (CMulX v_one.2 v_other.2)).bind fun (z273 : Unit) => R.ok (x269, z273)).bind fun (z274 : ((Unit × Unit × Unit) × Unit)) => R.ok (x262, z274)).bind fun (c275 : ((Int × Int) × ((Unit × Unit × Unit) × Unit))) => (m_law_is (c275.1, ((v_one.1 * v_other.2) + (v_other.1 * v_one.2)), (v_one.2 * v_other.2))).bind fun (z276 : Bool) => R.ok (c275, z276)) (fun (b319 : (((Int × Int) × ((Unit × Unit × Unit) × Unit)) × Bool)) => (!b319.2)) ((((m_less (v_one, v_other)).bind fun (x303 : (Int × Int)) => ((op2 (R.guard (CMulX v_one.1 v_other.2)) (fun (x306 : Unit) => R.guard (CMulX v_other.1 v_one.2)) (fun (x306 : Unit) (y307 : Unit) => R.ok ())).bind fun (x310 : (Unit × Unit × Unit)) => (R.guard (CMulX v_one.2 v_other.2)).bind fun (z314 : Unit) => R.ok (x310, z314)).bind fun (z315 : ((Unit × Unit × Unit) × Unit)) => R.ok (x303, z315)).bind fun (c316 : ((Int × Int) × ((Unit × Unit × Unit) × Unit))) => (m_law_is (c316.1, ((v_one.1 * v_other.2) - (v_other.1 * v_one.2)), (v_one.2 * v_other.2))).bind fun (z317 : Bool) => R.ok (c316, z317)).bind fun (b318 : (((Int × Int) × ((Unit × Unit × Unit) × Unit)) × Bool)) => R.ok (!b318.2))).bind fun (b320 : Bool) => if b320 = true then (R.ok (.rt false)) else (R.ok (.nx ()))) fun n321 =>
(bindF ((((m_times (v_one, v_other)).bind fun (x340 : (Int × Int)) => ((R.guard (CMulX v_one.1 v_other.1)).bind fun (x343 : Unit) => (R.guard (CMulX v_one.2 v_other.2)).bind fun (z347 : Unit) => R.ok (x343, z347)).bind fun (z348 : (Unit × Unit)) => R.ok (x340, z348)).bind fun (c349 : ((Int × Int) × (Unit × Unit))) => (m_law_is (c349.1, (v_one.1 * v_other.1), (v_one.2 * v_other.2))).bind fun (z350 : Bool) => R.ok (c349, z350)).bind fun (b351 : (((Int × Int) × (Unit × Unit)) × Bool)) => if (!b351.2) = true then (R.ok (.rt false)) else (R.ok (.nx ()))) fun n352 =>
(bindF ((and2 (R.ok ()) (fun (b385 : Unit) => (!decide (v_other.1 = (0 : Int)))) ((((m_over (v_one, v_other)).bind fun (x373 : (Int × Int)) => ((R.guard (CMulX v_one.1 v_other.2)).bind fun (x376 : Unit) => (R.guard (CMulX v_one.2 v_other.1)).bind fun (z380 : Unit) => R.ok (x376, z380)).bind fun (z381 : (Unit × Unit)) => R.ok (x373, z381)).bind fun (c382 : ((Int × Int) × (Unit × Unit))) => (m_law_is (c382.1, (v_one.1 * v_other.2), (v_one.2 * v_other.1))).bind fun (z383 : Bool) => R.ok (c382, z383)).bind fun (b384 : (((Int × Int) × (Unit × Unit)) × Bool)) => R.ok (!b384.2))).bind fun (b386 : Bool) => if b386 = true then (R.ok (.rt false)) else (R.ok (.nx ()))) fun n387 =>
(lt ((if (decide (v_one.1 > (0 : Int))) = true then (1 : Int) else 0) - (if (decide (v_one.1 < (0 : Int))) = true then (1 : Int) else 0)) fun v_due_394 =>
((and2 ((m_sign v_one).bind fun (c406 : Int) => (m_law_is_whole c406).bind fun (z407 : Bool) => R.ok (c406, z407)) (fun (b412 : (Int × Bool)) => b412.2) ((m_sign v_one).bind fun (b411 : Int) => R.ok (decide (b411 = v_due_394)))).bind fun (b413 : Bool) => R.ok (.rt b413))))))
noncomputable def m_law_is_reckoned (a : ((Int × Int) × (Int × Int))) : R Bool := fin0 (mb_law_is_reckoned a.1 a.2)
abbrev i_law_is_reckoned (a : ((Int × Int) × (Int × Int))) : List Slot := [.val ((eP2 D.int D.int) a.1), .val ((eP2 D.int D.int) a.2)]
abbrev l_law_is_reckoned (b : Bool) : Slot := .val (D.bool b)
abbrev o_law_is_reckoned (b : Bool) : List Slot := [.non, .non]
theorem ok_law_is_reckoned {P : Program} {w : World} {K : PySem.W.Frag} {mg : Str → Option Value} {base : Heap} (T : Top K mg) : FnOk P w K mg base CX0 4 T.law_is_reckoned.a T.law_is_reckoned.d ["_law_one", "_law_other"] (spM K i_law_is_reckoned m_law_is_reckoned l_law_is_reckoned o_law_is_reckoned) := by
  show FnOk P w K mg base CX0 (3 + 1) T.law_is_reckoned.a T.law_is_reckoned.d ["_law_one", "_law_other"] (spM K i_law_is_reckoned (fun (a : ((Int × Int) × (Int × Int))) => fin0 (mb_law_is_reckoned a.1 a.2)) l_law_is_reckoned o_law_is_reckoned)
  refine fn_ok (n1 := fun _ => []) (c1 := fun _ => []) (k1 := fun _ => []) (ins := i_law_is_reckoned) (sl := l_law_is_reckoned) (outs := o_law_is_reckoned) (fun (a : ((Int × Int) × (Int × Int))) => mb_law_is_reckoned a.1 a.2) 5 T.law_is_reckoned.f sc_law_is_reckoned rfl (fun _ => rfl) (fun _ => rfl) (fun _ => rfl) (fun cdv A outer s H E hr B hB a => ?_)
  show JSs _ B _ _ (mb_law_is_reckoned a.1 a.2) _
  unfold mb_law_is_reckoned
  exact ((js_consP (j1_asgN (d := fun (b234 : Unit) => (eP2 D.int D.int) a.1) (jp_var 0) (fun b234 => jg_tup rfl (jgs_p (jg_name 2 sc_law_is_reckoned.nd) (jgs_p (jg_name 3 sc_law_is_reckoned.nd) jgs_nil))))
(js_consP (j1_asgN (d := fun (b235 : Unit) => (eP2 D.int D.int) a.2) (jp_var 1) (fun b235 => jg_tup rfl (jgs_p (jg_name 4 sc_law_is_reckoned.nd) (jgs_p (jg_name 5 sc_law_is_reckoned.nd) jgs_nil))))
(js_cons (ρ1 := fun (n321 : Unit) => [.val ((eP2 D.int D.int) a.1), .val ((eP2 D.int D.int) a.2), .val (D.int a.1.1), .val (D.int a.1.2), .val (D.int a.2.1), .val (D.int a.2.2), .non]) (js_if (jt_w (jw_or (xa := fun (b319 : (((Int × Int) × ((Unit × Unit × Unit) × Unit)) × Bool)) => (!b319.2)) (jt_not (jt_val (je_callVE (ρa := fun _ => _) (ins := i_law_is) (mf := m_law_is) (sl := l_law_is) (outs := o_law_is) (ok_law_is T) (hr.mono (by decide)) (by rfl) T.law_is.g T.law_is.f.kp T.law_is.b pass0 (arg := fun (c275 : ((Int × Int) × ((Unit × Unit × Unit) × Unit))) => (c275.1, ((a.1.1 * a.2.2) + (a.2.1 * a.1.2)), (a.1.2 * a.2.2))) (ja_e (ρ' := fun _ _ => _) (ρa := fun _ => _) (xa := fun (x262 : (Int × Int)) => (eP2 D.int D.int) x262) (je_callV (ins := i_plus) (mf := m_plus) (sl := l_plus) (outs := o_plus) (ok_plus T) (hr.mono (by decide)) (by rfl) T.plus.g T.plus.f.kp T.plus.b pass0 (arg := (a.1, a.2)) (ja_p (jp_var 0) (ja_p (jp_var 1) ja_nil)) hB) (fun x262 => (ja_e (ρ' := fun _ _ => _) (ρa := fun _ => _) (xa := fun (x269 : (Unit × Unit × Unit)) => D.int ((a.1.1 * a.2.2) + (a.2.1 * a.1.2))) (je_op2 (ρa := fun _ => _) (ρb := fun _ _ => _) (s := fun (x265 : Unit) (y266 : Unit) (z0 : Unit) => (.val (D.int ((a.1.1 * a.2.2) + (a.2.1 * a.1.2))))) (xa := fun (x265 : Unit) => D.int (a.1.1 * a.2.2)) (xb := fun (x265 : Unit) (y266 : Unit) => D.int (a.2.1 * a.1.2)) (fun _ _ ha hb => pe_op op_add ha hb) (je_op (fun _ _ ha hb => pe_op op_mulX ha hb) (jp_var 2) (jp_var 5) od_mul) (fun x265 => (je_op (fun _ _ ha hb => pe_op op_mulX ha hb) (jp_var 4) (jp_var 3) od_mul)) (fun x265 y266 => od_add)) (fun x269 => (ja_el (ρa := fun _ => _) (xa := fun (x272 : Unit) => D.int (a.1.2 * a.2.2)) (je_op (fun _ _ ha hb => pe_op op_mulX ha hb) (jp_var 3) (jp_var 5) od_mul) (fun x272 => ja_nil)))))) hB))) (jw_or1 (jt_map (jt_not (jt_val (je_callVE (ρa := fun _ => _) (ins := i_law_is) (mf := m_law_is) (sl := l_law_is) (outs := o_law_is) (ok_law_is T) (hr.mono (by decide)) (by rfl) T.law_is.g T.law_is.f.kp T.law_is.b pass0 (arg := fun (c316 : ((Int × Int) × ((Unit × Unit × Unit) × Unit))) => (c316.1, ((a.1.1 * a.2.2) - (a.2.1 * a.1.2)), (a.1.2 * a.2.2))) (ja_e (ρ' := fun _ _ => _) (ρa := fun _ => _) (xa := fun (x303 : (Int × Int)) => (eP2 D.int D.int) x303) (je_callV (ins := i_less) (mf := m_less) (sl := l_less) (outs := o_less) (ok_less T) (hr.mono (by decide)) (by rfl) T.less.g T.less.f.kp T.less.b pass0 (arg := (a.1, a.2)) (ja_p (jp_var 0) (ja_p (jp_var 1) ja_nil)) hB) (fun x303 => (ja_e (ρ' := fun _ _ => _) (ρa := fun _ => _) (xa := fun (x310 : (Unit × Unit × Unit)) => D.int ((a.1.1 * a.2.2) - (a.2.1 * a.1.2))) (je_op2 (ρa := fun _ => _) (ρb := fun _ _ => _) (s := fun (x306 : Unit) (y307 : Unit) (z0 : Unit) => (.val (D.int ((a.1.1 * a.2.2) - (a.2.1 * a.1.2))))) (xa := fun (x306 : Unit) => D.int (a.1.1 * a.2.2)) (xb := fun (x306 : Unit) (y307 : Unit) => D.int (a.2.1 * a.1.2)) (fun _ _ ha hb => pe_op op_sub ha hb) (je_op (fun _ _ ha hb => pe_op op_mulX ha hb) (jp_var 2) (jp_var 5) od_mul) (fun x306 => (je_op (fun _ _ ha hb => pe_op op_mulX ha hb) (jp_var 4) (jp_var 3) od_mul)) (fun x306 y307 => od_sub)) (fun x310 => (ja_el (ρa := fun _ => _) (xa := fun (x313 : Unit) => D.int (a.1.2 * a.2.2)) (je_op (fun _ _ ha hb => pe_op op_mulX ha hb) (jp_var 3) (jp_var 5) od_mul) (fun x313 => ja_nil)))))) hB))))))) (fun b320 => (js_one (js_retP false [false, false, false, false, false, false, true] jp_bl))) (fun b320 => (js_nil [true, true, true, true, true, true, true] ()))) fun n321 =>
(js_cons (ρ1 := fun (n352 : Unit) => [.val ((eP2 D.int D.int) a.1), .val ((eP2 D.int D.int) a.2), .val (D.int a.1.1), .val (D.int a.1.2), .val (D.int a.2.1), .val (D.int a.2.2), .non]) (js_if (jt_not (jt_val (je_callVE (ρa := fun _ => _) (ins := i_law_is) (mf := m_law_is) (sl := l_law_is) (outs := o_law_is) (ok_law_is T) (hr.mono (by decide)) (by rfl) T.law_is.g T.law_is.f.kp T.law_is.b pass0 (arg := fun (c349 : ((Int × Int) × (Unit × Unit))) => (c349.1, (a.1.1 * a.2.1), (a.1.2 * a.2.2))) (ja_e (ρ' := fun _ _ => _) (ρa := fun _ => _) (xa := fun (x340 : (Int × Int)) => (eP2 D.int D.int) x340) (je_callV (ins := i_times) (mf := m_times) (sl := l_times) (outs := o_times) (ok_times T) (hr.mono (by decide)) (by rfl) T.times.g T.times.f.kp T.times.b pass0 (arg := (a.1, a.2)) (ja_p (jp_var 0) (ja_p (jp_var 1) ja_nil)) hB) (fun x340 => (ja_e (ρ' := fun _ _ => _) (ρa := fun _ => _) (xa := fun (x343 : Unit) => D.int (a.1.1 * a.2.1)) (je_op (fun _ _ ha hb => pe_op op_mulX ha hb) (jp_var 2) (jp_var 4) od_mul) (fun x343 => (ja_el (ρa := fun _ => _) (xa := fun (x346 : Unit) => D.int (a.1.2 * a.2.2)) (je_op (fun _ _ ha hb => pe_op op_mulX ha hb) (jp_var 3) (jp_var 5) od_mul) (fun x346 => ja_nil)))))) hB))) (fun b351 => (js_one (js_retP false [false, false, false, false, false, false, true] jp_bl))) (fun b351 => (js_nil [true, true, true, true, true, true, true] ()))) fun n352 =>
(js_cons (ρ1 := fun (n387 : Unit) => [.val ((eP2 D.int D.int) a.1), .val ((eP2 D.int D.int) a.2), .val (D.int a.1.1), .val (D.int a.1.2), .val (D.int a.2.1), .val (D.int a.2.2), .non]) (js_if (jt_w (jw_and (xa := fun (b385 : Unit) => (!decide (a.2.1 = (0 : Int)))) (jt_op (fun _ _ ha hb => pt_cmpR op_ne ha hb (nomark _)) (jp_var 4) jp_int od_neI) (jw_and1 (jt_map (jt_not (jt_val (je_callVE (ρa := fun _ => _) (ins := i_law_is) (mf := m_law_is) (sl := l_law_is) (outs := o_law_is) (ok_law_is T) (hr.mono (by decide)) (by rfl) T.law_is.g T.law_is.f.kp T.law_is.b pass0 (arg := fun (c382 : ((Int × Int) × (Unit × Unit))) => (c382.1, (a.1.1 * a.2.2), (a.1.2 * a.2.1))) (ja_e (ρ' := fun _ _ => _) (ρa := fun _ => _) (xa := fun (x373 : (Int × Int)) => (eP2 D.int D.int) x373) (je_callV (ins := i_over) (mf := m_over) (sl := l_over) (outs := o_over) (ok_over T) (hr.mono (by decide)) (by rfl) T.over.g T.over.f.kp T.over.b pass0 (arg := (a.1, a.2)) (ja_p (jp_var 0) (ja_p (jp_var 1) ja_nil)) hB) (fun x373 => (ja_e (ρ' := fun _ _ => _) (ρa := fun _ => _) (xa := fun (x376 : Unit) => D.int (a.1.1 * a.2.2)) (je_op (fun _ _ ha hb => pe_op op_mulX ha hb) (jp_var 2) (jp_var 5) od_mul) (fun x376 => (ja_el (ρa := fun _ => _) (xa := fun (x379 : Unit) => D.int (a.1.2 * a.2.1)) (je_op (fun _ _ ha hb => pe_op op_mulX ha hb) (jp_var 3) (jp_var 4) od_mul) (fun x379 => ja_nil)))))) hB))))))) (fun b386 => (js_one (js_retP false [false, false, false, false, false, false, true] jp_bl))) (fun b386 => (js_nil [true, true, true, true, true, true, true] ()))) fun n387 =>
(js_setP 6 D.int ((if (decide (a.1.1 > (0 : Int))) = true then (1 : Int) else 0) - (if (decide (a.1.1 < (0 : Int))) = true then (1 : Int) else 0)) sc_law_is_reckoned.nd (je_op (fun _ _ ha hb => pe_op op_sub ha hb) (je_cb (fun _ ht => pe_callTy call_int1 (by rfl) T.z_int (by decide +kernel) ht) (ja_p (je_op (fun _ _ ha hb => pe_cmpR op_gt ha hb (nomark _)) (jp_var 2) jp_int od_gt) ja_nil) cb_intB) (je_cb (fun _ ht => pe_callTy call_int1 (by rfl) T.z_int (by decide +kernel) ht) (ja_p (je_op (fun _ _ ha hb => pe_cmpR op_lt ha hb (nomark _)) (jp_var 2) jp_int od_lt) ja_nil) cb_intB) od_sub) fun v_due_394 =>
(js_one (js_ret (fun (b413 : Bool) => b413) [false, false, false, false, false, false, false] (je_and (xa := fun (b412 : (Int × Bool)) => b412.2) (je_callVE (ρa := fun _ => _) (ins := i_law_is_whole) (mf := m_law_is_whole) (sl := l_law_is_whole) (outs := o_law_is_whole) (ok_law_is_whole T) (hr.mono (by decide)) (by rfl) T.law_is_whole.g T.law_is_whole.f.kp T.law_is_whole.b pass0 (arg := fun (c406 : Int) => c406) (ja_el (ρa := fun _ => _) (xa := fun (x405 : Int) => D.int x405) (je_callV (ins := i_sign) (mf := m_sign) (sl := l_sign) (outs := o_sign) (ok_sign T) (hr.mono (by decide)) (by rfl) T.sign.g T.sign.f.kp T.sign.b pass0 (arg := a.1) (ja_p (jp_var 0) ja_nil) hB) (fun x405 => ja_nil)) hB) (jp_one (je_map (sl' := fun y => .val (.bool y)) (f := fun (b411 : Int) => (decide (b411 = v_due_394))) (je_opL (ρa := fun _ => _) (s := fun (x408 : Int) => (.val (D.bool (decide (x408 = v_due_394))))) (xa := fun (x408 : Int) => D.int x408) (y := fun (x408 : Int) => D.int v_due_394) (fun _ _ ha hb => pe_cmpR op_eq ha hb (nomark _)) (je_callV (ins := i_sign) (mf := m_sign) (sl := l_sign) (outs := o_sign) (ok_sign T) (hr.mono (by decide)) (by rfl) T.sign.g T.sign.f.kp T.sign.b pass0 (arg := a.1) (ja_p (jp_var 0) ja_nil) hB) (fun x408 => (jp_var 6)) (fun x408 => od_eqI)) (fun _ => rfl)))))))))))))
/-! law -/
abbrev s_law : Stmt := topS 18
theorem sc_law : FnScope ["_law_script", "_law_k", "_law_pot_here", "_law_n", "_law_d", "_law_one", "_law_other"] ["_law_script"] (defScope s_law) := ⟨rfl, rfl, rfl, by decide +kernel, rfl, by decide +kernel, by decide +kernel⟩
noncomputable def mb_law (v_script : List Int) : R (Fl Unit Unit Bool) :=
(bindF ((R.guard (rngOk (max (1 : Int) (min (30 : Int) ((List.length v_script : Nat) : Int))))).bind fun (b1 : Unit) => forR (fun (x4 : Int) (s2 : Unit) =>
((m_law_pot (v_script, x4)).bind fun (b34 : (List Int)) => lt b34 fun v_pot_here_33 =>
((m_law_number v_pot_here_33).bind fun (b120 : (Int × (List Int))) => lt b120.1 fun v_n_119 =>
((m_law_number b120.2).bind fun (b122 : (Int × (List Int))) => lt b122.1 fun v_d_121 =>
(bindF (if (decide (v_d_121 = (0 : Int))) = true then (lt (-(1 : Int)) fun v_d_127 =>
(R.ok (.nx v_d_127))) else (R.ok (.nx v_d_121))) fun n128 =>
(bindF (((m_fraction (v_n_119, n128)).bind fun (c204 : (Int × Int)) => (m_law_is (c204, v_n_119, n128)).bind fun (z205 : Bool) => R.ok (c204, z205)).bind fun (b206 : ((Int × Int) × Bool)) => if (!b206.2) = true then (R.ok (.rt false)) else (R.ok (.nx ()))) fun n207 =>
((m_law_drawn b122.2).bind fun (b231 : ((Int × Int) × (List Int))) => lt b231.1 fun v_one_230 =>
((m_law_drawn b231.2).bind fun (b233 : ((Int × Int) × (List Int))) => lt b233.1 fun v_other_232 =>
(bindF ((or2 (m_law_is_reckoned (v_one_230, v_other_232)) (fun (b416 : Bool) => (!b416)) (or2 (m_law_is_reckoned (v_other_232, v_one_230)) (fun (b415 : Bool) => (!b415)) ((m_law_is_reckoned (v_one_230, v_one_230)).bind fun (b414 : Bool) => R.ok (!b414)))).bind fun (b417 : Bool) => if b417 = true then (R.ok (.rt false)) else (R.ok (.nx ()))) fun n418 =>
(R.ok (.nx ()))))))))))) (rng 0 (max (1 : Int) (min (30 : Int) ((List.length v_script : Nat) : Int)))) ()) fun n3 =>
(R.ok (.rt true)))
noncomputable def m_law (a : List Int) : R Bool := fin0 (mb_law a)
abbrev i_law (a : List Int) : List Slot := [.val (D.scr a)]
abbrev l_law (b : Bool) : Slot := .val (D.bool b)
abbrev o_law (b : Bool) : List Slot := [.non]
theorem ok_law {P : Program} {w : World} {K : PySem.W.Frag} {mg : Str → Option Value} {base : Heap} (T : Top K mg) : FnOk P w K mg base CX0 5 T.law.a T.law.d ["_law_script"] (spM K i_law m_law l_law o_law) := by
  show FnOk P w K mg base CX0 (4 + 1) T.law.a T.law.d ["_law_script"] (spM K i_law (fun (a : List Int) => fin0 (mb_law a)) l_law o_law)
  refine fn_ok (n1 := fun _ => []) (c1 := fun _ => []) (k1 := fun _ => []) (ins := i_law) (sl := l_law) (outs := o_law) (fun (a : List Int) => mb_law a) 6 T.law.f sc_law rfl (fun _ => rfl) (fun _ => rfl) (fun _ => rfl) (fun cdv A outer s H E hr B hB a => ?_)
  show JSs _ B _ _ (mb_law a) _
  unfold mb_law
  exact ((js_cons (ρ1 := fun (n3 : Unit) => [.val (D.scr a), .non, .non, .non, .non, .non, .non]) (js_for (en := D.int) (xs := fun (b1 : Unit) => (rng 0 (max (1 : Int) (min (30 : Int) ((List.length a : Nat) : Int))))) (s0 := fun (b1 : Unit) => ()) (fun (s2 : Unit) => [.val (D.scr a), .non, .non, .non, .non, .non, .non]) (fun (x4 : Int) (s2 : Unit) => [.val (D.scr a), .val (D.int x4), .non, .non, .non, .non, .non]) PassesOwn.never rfl (ji_rng1P (i := (max (1 : Int) (min (30 : Int) ((List.length a : Nat) : Int)))) T.z_range (ja_p (je_cb (fun _ ht => pe_callB (call_max2 rfl) (by rfl) T.z_max (by decide +kernel) ht) (ja_p jp_int (ja_p (je_cb (fun _ ht => pe_callB (call_min2 rfl) (by rfl) T.z_min (by decide +kernel) ht) (ja_p jp_int (ja_p (je_cb (fun _ ht => pe_callB call_len_seq (by rfl) T.z_len (by decide +kernel) ht) (ja_p (jp_var 0) ja_nil) cb_lenS) ja_nil)) cb_min) ja_nil)) cb_max) ja_nil)) [true, true, true, true, true, true, true] (fun _ => rfl) (fun x4 s2 => (jg_name 1 sc_law.nd)) (fun x4 s2 =>
(js_setO 2 (oL D.int) (fun (b34 : (List Int)) => b34) sc_law.nd (je_callV (ins := i_law_pot) (mf := m_law_pot) (sl := l_law_pot) (outs := o_law_pot) (ok_law_pot T) (hr.mono (by decide)) (by rfl) T.law_pot.g T.law_pot.f.kp T.law_pot.b pass0 (arg := (a, x4)) (ja_p (jp_var 0) (ja_p (jp_var 1) ja_nil)) hB) fun b34 v_pot_here_33 =>
(js_setE 3 D.int (fun (b120 : (Int × (List Int))) => b120.1) sc_law.nd (je_callP (ins := i_law_number) (mf := m_law_number) (sl := l_law_number) (outs := o_law_number) (ok_law_number T) (hr.mono (by decide)) (by rfl) T.law_number.g T.law_number.f.kp T.law_number.b pass0 (arg := v_pot_here_33) (ja_s 2 ja_nil) hB) fun b120 v_n_119 =>
(js_setE 4 D.int (fun (b122 : (Int × (List Int))) => b122.1) sc_law.nd (je_callP (ins := i_law_number) (mf := m_law_number) (sl := l_law_number) (outs := o_law_number) (ok_law_number T) (hr.mono (by decide)) (by rfl) T.law_number.g T.law_number.f.kp T.law_number.b pass0 (arg := b120.2) (ja_s 2 ja_nil) hB) fun b122 v_d_121 =>
(js_cons (ρ1 := fun (n128 : Int) => [.val (D.scr a), .val (D.int x4), .own 0 ((oL D.int) b122.2), .val (D.int v_n_119), .val (D.int n128), .non, .non]) (js_ifP (jt_op (fun _ _ ha hb => pt_cmpR op_eq ha hb (nomark _)) (jp_var 4) jp_int od_eqI) (js_setP 4 D.int (-(1 : Int)) sc_law.nd (jp_neg jp_int) fun v_d_127 =>
(js_nil [true, true, true, true, true, true, true] v_d_127)) (js_nil [true, true, true, true, true, true, true] v_d_121)) fun n128 =>
(js_cons (ρ1 := fun (n207 : Unit) => [.val (D.scr a), .val (D.int x4), .own 0 ((oL D.int) b122.2), .val (D.int v_n_119), .val (D.int n128), .non, .non]) (js_if (jt_not (jt_val (je_callVE (ρa := fun _ => _) (ins := i_law_is) (mf := m_law_is) (sl := l_law_is) (outs := o_law_is) (ok_law_is T) (hr.mono (by decide)) (by rfl) T.law_is.g T.law_is.f.kp T.law_is.b pass0 (arg := fun (c204 : (Int × Int)) => (c204, v_n_119, n128)) (ja_el (ρa := fun _ => _) (xa := fun (x203 : (Int × Int)) => (eP2 D.int D.int) x203) (je_callV (ins := i_fraction) (mf := m_fraction) (sl := l_fraction) (outs := o_fraction) (ok_fraction T) (hr.mono (by decide)) (by rfl) T.fraction.g T.fraction.f.kp T.fraction.b pass0 (arg := (v_n_119, n128)) (ja_p (jp_var 3) (ja_p (jp_var 4) ja_nil)) hB) (fun x203 => (ja_p (jp_var 3) (ja_p (jp_var 4) ja_nil)))) hB))) (fun b206 => (js_one (js_retP false [false, false, false, false, false, true, true] jp_bl))) (fun b206 => (js_nil [true, true, true, true, true, true, true] ()))) fun n207 =>
(js_setE 5 (eP2 D.int D.int) (fun (b231 : ((Int × Int) × (List Int))) => b231.1) sc_law.nd (je_callP (ins := i_law_drawn) (mf := m_law_drawn) (sl := l_law_drawn) (outs := o_law_drawn) (ok_law_drawn T) (hr.mono (by decide)) (by rfl) T.law_drawn.g T.law_drawn.f.kp T.law_drawn.b pass0 (arg := b122.2) (ja_s 2 ja_nil) hB) fun b231 v_one_230 =>
(js_setE 6 (eP2 D.int D.int) (fun (b233 : ((Int × Int) × (List Int))) => b233.1) sc_law.nd (je_callP (ins := i_law_drawn) (mf := m_law_drawn) (sl := l_law_drawn) (outs := o_law_drawn) (ok_law_drawn T) (hr.mono (by decide)) (by rfl) T.law_drawn.g T.law_drawn.f.kp T.law_drawn.b pass0 (arg := b231.2) (ja_s 2 ja_nil) hB) fun b233 v_other_232 =>
(js_cons (ρ1 := fun (n418 : Unit) => [.val (D.scr a), .val (D.int x4), .own 0 ((oL D.int) b233.2), .val (D.int v_n_119), .val (D.int n128), .val ((eP2 D.int D.int) v_one_230), .val ((eP2 D.int D.int) v_other_232)]) (js_if (jt_w (jw_or (xa := fun (b416 : Bool) => (!b416)) (jt_not (jt_val (je_callV (ins := i_law_is_reckoned) (mf := m_law_is_reckoned) (sl := l_law_is_reckoned) (outs := o_law_is_reckoned) (ok_law_is_reckoned T) (hr.mono (by decide)) (by rfl) T.law_is_reckoned.g T.law_is_reckoned.f.kp T.law_is_reckoned.b pass0 (arg := (v_one_230, v_other_232)) (ja_p (jp_var 5) (ja_p (jp_var 6) ja_nil)) hB))) (jw_or (xa := fun (b415 : Bool) => (!b415)) (jt_not (jt_val (je_callV (ins := i_law_is_reckoned) (mf := m_law_is_reckoned) (sl := l_law_is_reckoned) (outs := o_law_is_reckoned) (ok_law_is_reckoned T) (hr.mono (by decide)) (by rfl) T.law_is_reckoned.g T.law_is_reckoned.f.kp T.law_is_reckoned.b pass0 (arg := (v_other_232, v_one_230)) (ja_p (jp_var 6) (ja_p (jp_var 5) ja_nil)) hB))) (jw_or1 (jt_map (jt_not (jt_val (je_callV (ins := i_law_is_reckoned) (mf := m_law_is_reckoned) (sl := l_law_is_reckoned) (outs := o_law_is_reckoned) (ok_law_is_reckoned T) (hr.mono (by decide)) (by rfl) T.law_is_reckoned.g T.law_is_reckoned.f.kp T.law_is_reckoned.b pass0 (arg := (v_one_230, v_one_230)) (ja_p (jp_var 5) (ja_p (jp_var 5) ja_nil)) hB)))))))) (fun b417 => (js_one (js_retP false [false, false, false, false, false, false, false] jp_bl))) (fun b417 => (js_nil [true, true, true, true, true, true, true] ()))) fun n418 =>
(js_nil [true, false, false, false, false, false, false] ()))))))))))) fun n3 =>
(js_one (js_retP true [false, true, true, true, true, true, true] jp_bl))))

/-! ### the plain law -/
theorem digit_ok (a b many : Int) (h : 0 < many) (h2 : many < 2 ^ 8000) : ∃ r a' b', m_law_digit ([a, b], many) = .ok (r, [a', b']) ∧ 0 ≤ r ∧ r < many := by
  unfold m_law_digit mb_law_digit
  have e0 : atI [a, b] (0 : Int) = some a := rfl
  have e1 : atI [a, b] (1 : Int) = some b := rfl
  have i0 : ixN (List.length [a, b]) (0 : Int) = some 0 := rfl
  have i1 : ixN (List.length [a, b]) (1 : Int) = some 1 := rfl
  simp only [e0, e1, i0, i1, some_ok, bind_ok, List.set_cons_succ, List.set_cons_zero]
  by_cases ha : a > 0
  · rw [guard_ok (divp_ok' h h2)]
    refine ⟨a % many, a / many, b, ?_, Int.emod_nonneg _ (by omega), Int.emod_lt_of_pos _ h⟩
    simp only [ha, decide_true, if_true, bind_ok, bindF_rt, fin0_rt]
    rfl
  · generalize hc : (b * 48271 + 39373) % 2147483647 = c
    have c0 : 0 ≤ c := by omega
    have c1 : c < 2147483647 := by omega
    have e2 : atI [a, c] (1 : Int) = some c := rfl
    have hm : CMulX c c := mulx 31 (by omega) (by omega)
    simp only [ha, decide_false, Bool.false_eq_true, if_false, bindF_nx, e2, some_ok, op2_ok, bind_ok, guard_ok hm, guard_ok (show many ≠ 0 by omega)]
    refine ⟨_, a, c, rfl, ?_, ?_⟩
    · rw [Int.fmod_eq_emod_of_nonneg _ (by omega)]
      exact Int.emod_nonneg _ (by omega)
    · rw [Int.fmod_eq_emod_of_nonneg _ (by omega)]
      exact Int.emod_lt_of_pos _ h
theorem p9 : (10 : Int) ^ (Int.toNat (9 : Int)) = 1000000000 := by decide +kernel
theorem p60 : (10 : Int) ^ (Int.toNat (60 : Int)) = 1000000000000000000000000000000000000000000000000000000000000 := by decide +kernel
theorem number_ok (a b : Int) : ∃ n a' b', m_law_number [a, b] = .ok (n, [a', b']) ∧ n.natAbs < 2 ^ 200 := by
  unfold m_law_number mb_law_number
  obtain ⟨r, a1, b1, e1, h1, h2⟩ := digit_ok a b 3 (by decide) (by decide)
  simp only [e1, bind_ok, lt_eq]
  by_cases r0 : r = 0
  · obtain ⟨q, a2, b2, e2, g1, g2⟩ := digit_ok a1 b1 19 (by decide) (by decide)
    simp only [r0, e2, decide_true, if_true, bind_ok, bindF_rt, fin0_rt]
    exact ⟨_, _, _, rfl, by omega⟩
  · simp only [r0, decide_false, Bool.false_eq_true, if_false, bindF_nx]
    by_cases r1 : r = 1
    · obtain ⟨q, a2, b2, e2, g1, g2⟩ := digit_ok a1 b1 2000001 (by decide) (by decide)
      simp only [r1, e2, decide_true, if_true, bind_ok, bindF_rt, fin0_rt]
      exact ⟨_, _, _, rfl, by omega⟩
    · simp only [r1, decide_false, Bool.false_eq_true, if_false, bindF_nx, guard_ok (rng_ok (i := 7) (by decide) (by decide)), bind_ok]
      generalize hF : forR _ _ _ = F
      have hl : ∃ s' : List Int × Int, F = .ok (.nx s') ∧ ∃ a b, s'.1 = [a, b] := by
        rw [← hF]
        refine forR_ok (fun (s : List Int × Int) => ∃ a b, s.1 = [a, b]) ⟨a1, b1, rfl⟩ ?_
        rintro x _ ⟨l, v⟩ ⟨a, b, h⟩
        have h : l = [a, b] := h
        subst h
        obtain ⟨q, a2, b2, e2, g1, g2⟩ := digit_ok a b ((10 : Int) ^ (Int.toNat (9 : Int))) (by rw [p9]; decide) (by rw [p9]; decide)
        simp only [e2, bind_ok]
        exact ⟨_, .inl rfl, _, _, rfl⟩
      obtain ⟨⟨l, v⟩, e3, a3, b3, h⟩ := hl
      have h : l = [a3, b3] := h
      subst h
      rw [e3]
      obtain ⟨q, a4, b4, e4, g1, g2⟩ := digit_ok a3 b3 2 (by decide) (by decide)
      simp only [bindF_nx, e4, bind_ok]
      generalize hv : v % (10 : Int) ^ (Int.toNat (60 : Int)) = u
      have u0 : 0 ≤ u ∧ u < 1000000000000000000000000000000000000000000000000000000000000 := by
        rw [p60] at hv
        omega
      have hm : CMulX u (1 - 2 * q) := mulx 200 (by have : (1000000000000000000000000000000000000000000000000000000000000 : Nat) < 2 ^ 200 := by decide
                                                    omega) (by have : (10 : Nat) < 2 ^ 200 := by decide
                                                               omega)
      simp only [guard_ok hm, bind_ok, fin0_rt]
      refine ⟨_, _, _, rfl, ?_⟩
      have : (1000000000000000000000000000000000000000000000000000000000000 : Nat) < 2 ^ 200 := by decide
      have hq : q = 0 ∨ q = 1 := by omega
      rcases hq with rfl | rfl <;> omega
/-- the greatest divisor -/
theorem gcd_loop : ∀ (k : Nat) (a b : Int), 0 ≤ a → 0 ≤ b → b ≤ k → whR (L := Unit) (T := Int) (fun (s : Int × Int) => R.ok (decide (s.2 > (0 : Int)))) (fun s => (R.guard (s.2 ≠ (0 : Int))).bind fun (x : Unit) => R.ok (.nx (s.2, Int.fmod s.1 s.2))) (a, b) = .ok (.nx ((Int.gcd a b : Int), 0)) := by
  intro k
  induction k with
  | zero =>
    intro a b ha hb h
    have : b = 0 := by omega
    subst this
    rw [whR_false (by rfl)]
    rw [Int.gcd_zero_right]
    simp [Int.natAbs_of_nonneg ha]
  | succ k ih =>
    intro a b ha hb h
    by_cases hb0 : b = 0
    · subst hb0
      rw [whR_false (by rfl), Int.gcd_zero_right]
      simp [Int.natAbs_of_nonneg ha]
    · refine whR_true (s' := (b, a.fmod b)) (by simp; omega) (by rw [guard_ok hb0]; rfl) ?_
      rw [Int.fmod_eq_emod_of_nonneg _ hb]
      have := Int.emod_lt_of_pos a (show 0 < b by omega)
      rw [ih b (a % b) hb (Int.emod_nonneg _ hb0) (by omega)]
      have e : Int.gcd b (a % b) = Int.gcd a b := by
        obtain ⟨m, rfl⟩ := Int.eq_ofNat_of_zero_le ha
        obtain ⟨n, rfl⟩ := Int.eq_ofNat_of_zero_le hb
        rw [← Int.natCast_emod]
        simp only [Int.gcd, Int.natAbs_natCast]
        rw [Nat.gcd_comm n, ← Nat.gcd_rec, Nat.gcd_comm]
      rw [e]
theorem abs_ite (i : Int) : (if i < 0 then -i else i) = (i.natAbs : Int) := by split <;> omega
theorem divisor_ok (n d : Int) : m_divisor (n, d) = .ok (Int.gcd n d : Int) := by
  unfold m_divisor mb_divisor
  simp only [abs_ite]
  rw [gcd_loop d.natAbs _ _ (by omega) (by omega) (by omega)]
  simp only [bindF_nx, fin0_rt]
  rw [show Int.gcd (n.natAbs : Int) (d.natAbs : Int) = Int.gcd n d by simp [Int.gcd]]
theorem common_ok (n d : Int) : m_law_common (n, d) = .ok (Int.gcd n d : Int) := by
  unfold m_law_common mb_law_common
  simp only [abs_ite]
  rw [gcd_loop d.natAbs _ _ (by omega) (by omega) (by omega)]
  simp only [bindF_nx, fin0_rt]
  rw [show Int.gcd (n.natAbs : Int) (d.natAbs : Int) = Int.gcd n d by simp [Int.gcd]]
theorem gcd_lt {n d : Int} {k : Nat} (hd : d ≠ 0) (h : d.natAbs < 2 ^ k) : (Int.gcd n d : Int).natAbs < 2 ^ k := by
  have := Nat.le_of_dvd (by omega) (Int.natAbs_dvd_natAbs.mpr (Int.gcd_dvd_right n d))
  omega
/-- a fraction told rightly -/
def Right (f : Int × Int) (n d : Int) : Prop := 0 < f.2 ∧ Int.gcd f.1 f.2 = 1 ∧ f.1 * d = n * f.2
theorem fraction_ok (n d : Int) (hd : d ≠ 0) (hb : d.natAbs < 2 ^ 8000) : ∃ f, m_fraction (n, d) = .ok f ∧ Right f n d ∧ f.1.natAbs ≤ n.natAbs ∧ f.2.natAbs ≤ d.natAbs := by
  unfold m_fraction mb_fraction
  simp only [divisor_ok, bind_ok, lt_eq]
  have hg := gcd_lt (n := n) hd hb
  generalize hG : (if d < 0 then -(Int.gcd n d : Int) else (Int.gcd n d : Int)) = g
  obtain ⟨h1, h2, h3, h4, h5⟩ := fr_low hG.symm hd
  have gb : g.natAbs < 2 ^ 8000 := by
    rw [← hG]
    split
    · rw [Int.natAbs_neg]
      exact hg
    · exact hg
  have hx : (bindF (if (decide (d < (0 : Int))) = true then (R.ok (.nx (-(Int.gcd n d : Int)))) else (R.ok (.nx (Int.gcd n d : Int))) : R (Fl Int Unit (Int × Int))) (fun n => R.ok (Fl.nx n)) : R (Fl Int Unit (Int × Int))) = .ok (.nx g) := by
    rw [← hG]
    by_cases h : d < 0 <;> simp [h, bindF_nx]
  have hif : ∀ (k : Int → R (Fl Unit Unit (Int × Int))), bindF (if (decide (d < (0 : Int))) = true then (R.ok (.nx (-(Int.gcd n d : Int)))) else (R.ok (.nx (Int.gcd n d : Int))) : R (Fl Int Unit (Int × Int))) k = k g := by
    intro k
    rw [← hG]
    by_cases h : d < 0 <;> simp [h, bindF_nx]
  simp only [hif, guard_ok (div_ok (i := n) h1 gb), guard_ok (div_ok (i := d) h1 gb), bind_ok, fin0_rt]
  refine ⟨_, rfl, ⟨h4, h5, ?_⟩, ?_, ?_⟩
  · show n.fdiv g * d = n * d.fdiv g
    calc n.fdiv g * d = n.fdiv g * (d.fdiv g * g) := by rw [h3]
      _ = (n.fdiv g * g) * d.fdiv g := by rw [Int.mul_comm (d.fdiv g) g, Int.mul_assoc]
      _ = n * d.fdiv g := by rw [h2]
  · have e := congrArg Int.natAbs h2
    rw [Int.natAbs_mul] at e
    show (n.fdiv g).natAbs ≤ n.natAbs
    rw [← e]
    exact Nat.le_mul_of_pos_right _ (by omega)
  · have e := congrArg Int.natAbs h3
    rw [Int.natAbs_mul] at e
    show (d.fdiv g).natAbs ≤ d.natAbs
    rw [← e]
    exact Nat.le_mul_of_pos_right _ (by omega)
theorem whole_ok (i : Int) : m_law_is_whole i = .ok true := rfl
theorem pw (a b : Nat) (h : a ≤ b) {x : Nat} (hx : x < 2 ^ a) : x < 2 ^ b := Nat.lt_of_lt_of_le hx (Nat.pow_le_pow_right (by decide) h)
theorem is_ok (f : Int × Int) (n d : Int) (h : Right f n d) (hn : n.natAbs < 2 ^ 2000) (hd : d.natAbs < 2 ^ 2000) (h1 : f.1.natAbs < 2 ^ 2000) (h2 : f.2.natAbs < 2 ^ 2000) : m_law_is (f, n, d) = .ok true := by
  unfold m_law_is mb_law_is
  obtain ⟨p, g, e⟩ := h
  have t1 : isTup (eP2 D.int D.int f) = true := rfl
  have hlt : ¬ f.2 < 1 := by omega
  simp only [t1, whole_ok, common_ok, or2_ok, bind_ok, Bool.not_true, Bool.false_eq_true, if_false, decide_true, bindF_nx, hlt, decide_false, g, guard_ok (mulx 2000 h1 hd), guard_ok (mulx 2000 hn h2), op2_ok, e, fin0_rt]
  simp [or2_ok, bindF_nx, fin0_rt, bind_ok]
theorem made_ok (n d : Int) (hd : 0 < d) (hb : d.natAbs < 2 ^ 8000) : ∃ f, m_law_made (n, d) = .ok f ∧ Right f n d ∧ f.1.natAbs ≤ n.natAbs ∧ f.2.natAbs ≤ d.natAbs := by
  obtain ⟨f, e, h⟩ := fraction_ok n d (by omega) hb
  refine ⟨f, ?_, h⟩
  rw [← e]
  unfold m_law_made mb_law_made m_fraction mb_fraction
  have : ¬ d < 0 := by omega
  simp only [divisor_ok, common_ok, bind_ok, lt_eq, this, decide_false, Bool.false_eq_true, if_false, bindF_nx]
theorem drawn_ok (a b : Int) : ∃ f a' b', m_law_drawn [a, b] = .ok (f, [a', b']) ∧ 0 < f.2 ∧ f.1.natAbs < 2 ^ 200 ∧ f.2.natAbs < 2 ^ 200 := by
  unfold m_law_drawn mb_law_drawn
  obtain ⟨n, a1, b1, e1, h1⟩ := number_ok a b
  obtain ⟨d, a2, b2, e2, h2⟩ := number_ok a1 b1
  simp only [e1, e2, bind_ok, abs_ite]
  have q : (1 : Nat) < 2 ^ 200 := by decide
  have hm : (max (1 : Int) (d.natAbs : Int)).natAbs < 2 ^ 200 := by omega
  obtain ⟨f, e3, h3, h4, h5⟩ := made_ok n (max (1 : Int) (d.natAbs : Int)) (by omega) (pw 200 8000 (by decide) hm)
  simp only [e3, bind_ok, fin0_rt]
  exact ⟨f, a2, b2, rfl, h3.1, by omega, by omega⟩
theorem mul_lt2 {i j : Int} {a b : Nat} (hi : i.natAbs < 2 ^ a) (hj : j.natAbs < 2 ^ b) : (i * j).natAbs < 2 ^ (a + b) := wide_lt hi hj
theorem add_lt2 {i j : Int} {a : Nat} (hi : i.natAbs < 2 ^ a) (hj : j.natAbs < 2 ^ a) : (i + j).natAbs < 2 ^ (a + 1) := by
  rw [Nat.pow_succ]
  omega
theorem sub_lt2 {i j : Int} {a : Nat} (hi : i.natAbs < 2 ^ a) (hj : j.natAbs < 2 ^ a) : (i - j).natAbs < 2 ^ (a + 1) := by
  rw [Nat.pow_succ]
  omega
theorem told_ok (n d : Int) (hd : d ≠ 0) (hn : n.natAbs < 2 ^ 401) (hb : d.natAbs < 2 ^ 401) : ∃ f, m_fraction (n, d) = .ok f ∧ m_law_is (f, n, d) = .ok true := by
  obtain ⟨f, e, h1, h2, h3⟩ := fraction_ok n d hd (pw 401 8000 (by decide) hb)
  exact ⟨f, e, is_ok f n d h1 (pw 401 2000 (by decide) hn) (pw 401 2000 (by decide) hb) (pw 401 2000 (by decide) (by omega)) (pw 401 2000 (by decide) (by omega))⟩
/-- a fraction as drawn -/
def Fr (f : Int × Int) : Prop := 0 < f.2 ∧ f.1.natAbs < 2 ^ 200 ∧ f.2.natAbs < 2 ^ 200
theorem reckoned_ok (f g : Int × Int) (hf : Fr f) (hg : Fr g) : m_law_is_reckoned (f, g) = .ok true := by
  obtain ⟨a, b⟩ := f
  obtain ⟨c, d⟩ := g
  obtain ⟨f1, f2, f3⟩ := hf
  obtain ⟨g1, g2, g3⟩ := hg
  have w : ∀ {i j : Int}, i.natAbs < 2 ^ 200 → j.natAbs < 2 ^ 200 → CMulX i j := fun h k => mulx 200 h k
  have bd : b * d ≠ 0 := Int.mul_ne_zero (by omega) (by omega)
  have m1 := mul_lt2 f2 g3
  have m2 := mul_lt2 g2 f3
  have m3 := mul_lt2 f3 g3
  have m4 := mul_lt2 f2 g2
  have m5 := mul_lt2 f3 g2
  obtain ⟨q1, e1, r1⟩ := told_ok (a * d + c * b) (b * d) bd (add_lt2 m1 m2) (pw 400 401 (by decide) m3)
  obtain ⟨q2, e2, r2⟩ := told_ok (a * d - c * b) (b * d) bd (sub_lt2 m1 m2) (pw 400 401 (by decide) m3)
  obtain ⟨q3, e3, r3⟩ := told_ok (a * c) (b * d) bd (pw 400 401 (by decide) m4) (pw 400 401 (by decide) m3)
  have p1 : m_plus ((a, b), (c, d)) = .ok q1 := by
    unfold m_plus mb_plus
    simp only [guard_ok (w f2 g3), guard_ok (w g2 f3), guard_ok (w f3 g3), op2_ok, bind_ok, e1, fin0_rt]
  have p2 : m_less ((a, b), (c, d)) = .ok q2 := by
    unfold m_less mb_less
    simp only [guard_ok (w f2 g3), guard_ok (w g2 f3), guard_ok (w f3 g3), op2_ok, bind_ok, e2, fin0_rt]
  have p3 : m_times ((a, b), (c, d)) = .ok q3 := by
    unfold m_times mb_times
    simp only [guard_ok (w f2 g2), guard_ok (w f3 g3), op2_ok, bind_ok, e3, fin0_rt]
  have s1 : m_sign (a, b) = .ok ((if decide (a > 0) = true then (1 : Int) else 0) - (if decide (a < 0) = true then (1 : Int) else 0)) := rfl
  unfold m_law_is_reckoned mb_law_is_reckoned
  simp only [guard_ok (w f2 g3), guard_ok (w g2 f3), guard_ok (w f3 g3), guard_ok (w f2 g2), guard_ok (w f3 g2), op2_ok, bind_ok, p1, p2, p3, r1, r2, r3, or2_ok, Bool.not_true, Bool.false_eq_true, if_false, bindF_nx]
  by_cases hc : c = 0
  · simp [hc, and2_ok, bindF_nx, bind_ok, lt_eq, s1, whole_ok, fin0_rt]
  · have bc : b * c ≠ 0 := Int.mul_ne_zero (by omega) hc
    obtain ⟨q4, e4, r4⟩ := told_ok (a * d) (b * c) bc (pw 400 401 (by decide) m1) (pw 400 401 (by decide) m5)
    have p4 : m_over ((a, b), (c, d)) = .ok q4 := by
      unfold m_over mb_over
      simp only [guard_ok (w f2 g3), guard_ok (w f3 g2), op2_ok, bind_ok, e4, fin0_rt]
    simp [hc, and2_ok, bindF_nx, bind_ok, lt_eq, s1, whole_ok, fin0_rt, p4, r4]
theorem pot_ok (ns : List Int) (k : Int) (h0 : 0 ≤ k) : ∃ a b, m_law_pot (ns, k) = .ok [a, b] := by
  unfold m_law_pot mb_law_pot
  obtain ⟨c, h1, h2⟩ := cell_ok ns k h0
  rw [guard_ok (line_ok (by simp only [List.length_cons, List.length_nil]; omega))]
  simp only [h1, some_ok, bind_ok, lt_eq, fin0_rt]
  exact ⟨_, _, rfl⟩
theorem law_true (ns : List Int) (hl : ns.length ≤ 63) : m_law ns = .ok true := by
  unfold m_law mb_law
  rw [guard_ok (rng_ok (by omega) (by omega)), bind_ok]
  generalize hF : forR _ _ _ = F
  have hl : ∃ s' : Unit, F = .ok (.nx s') ∧ True := by
    rw [← hF]
    refine forR_ok (fun _ => True) trivial fun x hx s _ => ⟨(), .inl ?_, trivial⟩
    have hx0 := (mem_rng hx).1
    obtain ⟨a, b, e⟩ := pot_ok ns x hx0
    obtain ⟨n, a1, b1, e1, h1⟩ := number_ok a b
    obtain ⟨d, a2, b2, e2, h2⟩ := number_ok a1 b1
    obtain ⟨f, a3, b3, e3, f1, f2, f3⟩ := drawn_ok a2 b2
    obtain ⟨g, a4, b4, e4, g1, g2, g3⟩ := drawn_ok a3 b3
    simp only [e, e1, e2, e3, e4, bind_ok, lt_eq]
    have hif : ∀ (k : Int → R (Fl Unit Unit Bool)), bindF (if (decide (d = (0 : Int))) = true then (R.ok (.nx (-(1 : Int)))) else (R.ok (.nx d)) : R (Fl Int Unit Bool)) k = k (if d = 0 then -1 else d) := by
      intro k
      by_cases h : d = 0 <;> simp [h, bindF_nx]
    have hd : (if d = 0 then (-1 : Int) else d) ≠ 0 := by split <;> omega
    have q : (1 : Nat) < 2 ^ 200 := by decide
    have hd2 : (if d = 0 then (-1 : Int) else d).natAbs < 2 ^ 200 := by split <;> omega
    obtain ⟨t, e5, e6⟩ := told_ok n _ hd (pw 200 401 (by decide) h1) (pw 200 401 (by decide) hd2)
    simp only [hif, e5, e6, bind_ok, Bool.not_true, Bool.false_eq_true, if_false, bindF_nx, reckoned_ok f g ⟨f1, f2, f3⟩ ⟨g1, g2, g3⟩, reckoned_ok g f ⟨g1, g2, g3⟩ ⟨f1, f2, f3⟩, reckoned_ok f f ⟨f1, f2, f3⟩ ⟨f1, f2, f3⟩, or2_ok]
  obtain ⟨_, e, _⟩ := hl
  rw [e]
  rfl

def e_law_pot : He.DefD := ⟨("_law_pot", none), "_law_pot", "_law_pot", defArgs s_law_pot, defBody s_law_pot, defScope s_law_pot, [], []⟩
def e_law_digit : He.DefD := ⟨("_law_digit", none), "_law_digit", "_law_digit", defArgs s_law_digit, defBody s_law_digit, defScope s_law_digit, [], []⟩
def e_law_number : He.DefD := ⟨("_law_number", none), "_law_number", "_law_number", defArgs s_law_number, defBody s_law_number, defScope s_law_number, [], []⟩
def e_law_is_whole : He.DefD := ⟨("_law_is_whole", none), "_law_is_whole", "_law_is_whole", defArgs s_law_is_whole, defBody s_law_is_whole, defScope s_law_is_whole, [], []⟩
def e_law_common : He.DefD := ⟨("_law_common", none), "_law_common", "_law_common", defArgs s_law_common, defBody s_law_common, defScope s_law_common, [], []⟩
def e_law_is : He.DefD := ⟨("_law_is", none), "_law_is", "_law_is", defArgs s_law_is, defBody s_law_is, defScope s_law_is, [], []⟩
def e_divisor : He.DefD := ⟨("divisor", none), "divisor", "divisor", defArgs s_divisor, defBody s_divisor, defScope s_divisor, [], []⟩
def e_fraction : He.DefD := ⟨("fraction", none), "fraction", "fraction", defArgs s_fraction, defBody s_fraction, defScope s_fraction, [], []⟩
def e_law_made : He.DefD := ⟨("_law_made", none), "_law_made", "_law_made", defArgs s_law_made, defBody s_law_made, defScope s_law_made, [], []⟩
def e_law_drawn : He.DefD := ⟨("_law_drawn", none), "_law_drawn", "_law_drawn", defArgs s_law_drawn, defBody s_law_drawn, defScope s_law_drawn, [], []⟩
def e_plus : He.DefD := ⟨("plus", none), "plus", "plus", defArgs s_plus, defBody s_plus, defScope s_plus, [], []⟩
def e_less : He.DefD := ⟨("less", none), "less", "less", defArgs s_less, defBody s_less, defScope s_less, [], []⟩
def e_times : He.DefD := ⟨("times", none), "times", "times", defArgs s_times, defBody s_times, defScope s_times, [], []⟩
def e_over : He.DefD := ⟨("over", none), "over", "over", defArgs s_over, defBody s_over, defScope s_over, [], []⟩
def e_sign : He.DefD := ⟨("sign", none), "sign", "sign", defArgs s_sign, defBody s_sign, defScope s_sign, [], []⟩
def e_law_is_reckoned : He.DefD := ⟨("_law_is_reckoned", none), "_law_is_reckoned", "_law_is_reckoned", defArgs s_law_is_reckoned, defBody s_law_is_reckoned, defScope s_law_is_reckoned, [], []⟩
def e_law : He.DefD := ⟨("law", none), "law", "law", defArgs s_law, defBody s_law, defScope s_law, [], []⟩
def fnL : List He.DefD := [e_law_pot, e_law_digit, e_law_number, e_law_is_whole, e_law_common, e_law_is, e_divisor, e_fraction, e_law_made, e_law_drawn, e_plus, e_less, e_times, e_over, e_sign, e_law_is_reckoned, e_law]
def faL : List He.Fa := [.glo "_law_pot", .glo "_law_digit", .glo "_law_number", .glo "_law_is_whole", .glo "_law_common", .glo "_law_is", .glo "divisor", .glo "fraction", .glo "_law_made", .glo "_law_drawn", .glo "plus", .glo "less", .glo "times", .glo "over", .glo "sign", .glo "_law_is_reckoned", .glo "law", .free "abs", .free "bool", .free "divmod", .free "int", .free "isinstance", .free "len", .free "max", .free "min", .free "range", .free "tuple"]
abbrev Rw : PySem.W.OpenRow := PySem.W.OpenLaw.row PySem.Challenge.rw_restdraw_k11_fractions_reckoned
abbrev hkL : PySem.W.Hook := He.hookD 4 faL fnL
def obL (s : PySem.W.SharedT) : He.AlD := He.obsDG 4 faL fnL (HandSHeadRun.getT s)
theorem ob_eqL (s : PySem.W.SharedT) : obL s = hkL.obs s.abs := He.obsDG_eq (HandSHeadRun.getT_eq s)
theorem runL (w : World) : HandSHeadRun.RunEq Rw (PySem.W.view Rw.prog [18]) hkL obL 600 ["divisor", "fraction", "plus", "less", "times", "over", "sign", "_law_pot", "_law_digit", "_law_is_whole", "_law_number", "_law_common", "_law_made", "_law_drawn", "_law_is", "_law_is_reckoned"] w := by
  intro os
  kernel_rfl
theorem factsL {P : Program} {w : World} {K : PySem.W.Frag} {h : Heap} {mg : Str → Option Value} {f : Addr} (X : K.In h) (G : h.Ns mainGlobals mg) (hfa : mg ("law" : Str) = some (.ref f)) (c : He.SaysD faL fnL K) :
    ∃ fd : FuncData, (∀ (s : Shared) (v : Value), BindsTo s fd ⟨[v], []⟩ [("_law_script", v)]) ∧ ∀ base : Heap, K.In base → base.Ns mainGlobals mg → FnOk P w K mg base CX0 5 f fd ["_law_script"] (spM K i_law m_law l_law o_law) := by
  obtain ⟨d0, F0⟩ := c.def_ 0 (d := e_law_pot) rfl
  obtain ⟨d1, F1⟩ := c.def_ 1 (d := e_law_digit) rfl
  obtain ⟨d2, F2⟩ := c.def_ 2 (d := e_law_number) rfl
  obtain ⟨d3, F3⟩ := c.def_ 3 (d := e_law_is_whole) rfl
  obtain ⟨d4, F4⟩ := c.def_ 4 (d := e_law_common) rfl
  obtain ⟨d5, F5⟩ := c.def_ 5 (d := e_law_is) rfl
  obtain ⟨d6, F6⟩ := c.def_ 6 (d := e_divisor) rfl
  obtain ⟨d7, F7⟩ := c.def_ 7 (d := e_fraction) rfl
  obtain ⟨d8, F8⟩ := c.def_ 8 (d := e_law_made) rfl
  obtain ⟨d9, F9⟩ := c.def_ 9 (d := e_law_drawn) rfl
  obtain ⟨d10, F10⟩ := c.def_ 10 (d := e_plus) rfl
  obtain ⟨d11, F11⟩ := c.def_ 11 (d := e_less) rfl
  obtain ⟨d12, F12⟩ := c.def_ 12 (d := e_times) rfl
  obtain ⟨d13, F13⟩ := c.def_ 13 (d := e_over) rfl
  obtain ⟨d14, F14⟩ := c.def_ 14 (d := e_sign) rfl
  obtain ⟨d15, F15⟩ := c.def_ 15 (d := e_law_is_reckoned) rfl
  obtain ⟨d16, F16⟩ := c.def_ 16 (d := e_law) rfl
  have e := hfa.symm.trans (He.glo_ok X G (c.fact 16 (f := .glo "law") rfl))
  cases e
  have b := FunD.bindsA (ps := ["_law_script"]) F16 fun _ _ _ _ _ _ us hl => match us, hl with | [_], _ => rfl
  let T : Top K mg := {
    law_pot := ⟨_, d0, F0, He.glo_ok X G (c.fact 0 (f := .glo "_law_pot") rfl), FunD.bindsN F0 fun _ _ _ _ _ _ us hl => match us, hl with | [_, _], _ => rfl⟩
    law_digit := ⟨_, d1, F1, He.glo_ok X G (c.fact 1 (f := .glo "_law_digit") rfl), FunD.bindsN F1 fun _ _ _ _ _ _ us hl => match us, hl with | [_, _], _ => rfl⟩
    law_number := ⟨_, d2, F2, He.glo_ok X G (c.fact 2 (f := .glo "_law_number") rfl), FunD.bindsN F2 fun _ _ _ _ _ _ us hl => match us, hl with | [_], _ => rfl⟩
    law_is_whole := ⟨_, d3, F3, He.glo_ok X G (c.fact 3 (f := .glo "_law_is_whole") rfl), FunD.bindsN F3 fun _ _ _ _ _ _ us hl => match us, hl with | [_], _ => rfl⟩
    law_common := ⟨_, d4, F4, He.glo_ok X G (c.fact 4 (f := .glo "_law_common") rfl), FunD.bindsN F4 fun _ _ _ _ _ _ us hl => match us, hl with | [_, _], _ => rfl⟩
    law_is := ⟨_, d5, F5, He.glo_ok X G (c.fact 5 (f := .glo "_law_is") rfl), FunD.bindsN F5 fun _ _ _ _ _ _ us hl => match us, hl with | [_, _, _], _ => rfl⟩
    divisor := ⟨_, d6, F6, He.glo_ok X G (c.fact 6 (f := .glo "divisor") rfl), FunD.bindsN F6 fun _ _ _ _ _ _ us hl => match us, hl with | [_, _], _ => rfl⟩
    fraction := ⟨_, d7, F7, He.glo_ok X G (c.fact 7 (f := .glo "fraction") rfl), FunD.bindsN F7 fun _ _ _ _ _ _ us hl => match us, hl with | [_, _], _ => rfl⟩
    law_made := ⟨_, d8, F8, He.glo_ok X G (c.fact 8 (f := .glo "_law_made") rfl), FunD.bindsN F8 fun _ _ _ _ _ _ us hl => match us, hl with | [_, _], _ => rfl⟩
    law_drawn := ⟨_, d9, F9, He.glo_ok X G (c.fact 9 (f := .glo "_law_drawn") rfl), FunD.bindsN F9 fun _ _ _ _ _ _ us hl => match us, hl with | [_], _ => rfl⟩
    plus := ⟨_, d10, F10, He.glo_ok X G (c.fact 10 (f := .glo "plus") rfl), FunD.bindsN F10 fun _ _ _ _ _ _ us hl => match us, hl with | [_, _], _ => rfl⟩
    less := ⟨_, d11, F11, He.glo_ok X G (c.fact 11 (f := .glo "less") rfl), FunD.bindsN F11 fun _ _ _ _ _ _ us hl => match us, hl with | [_, _], _ => rfl⟩
    times := ⟨_, d12, F12, He.glo_ok X G (c.fact 12 (f := .glo "times") rfl), FunD.bindsN F12 fun _ _ _ _ _ _ us hl => match us, hl with | [_, _], _ => rfl⟩
    over := ⟨_, d13, F13, He.glo_ok X G (c.fact 13 (f := .glo "over") rfl), FunD.bindsN F13 fun _ _ _ _ _ _ us hl => match us, hl with | [_, _], _ => rfl⟩
    sign := ⟨_, d14, F14, He.glo_ok X G (c.fact 14 (f := .glo "sign") rfl), FunD.bindsN F14 fun _ _ _ _ _ _ us hl => match us, hl with | [_], _ => rfl⟩
    law_is_reckoned := ⟨_, d15, F15, He.glo_ok X G (c.fact 15 (f := .glo "_law_is_reckoned") rfl), FunD.bindsN F15 fun _ _ _ _ _ _ us hl => match us, hl with | [_, _], _ => rfl⟩
    law := ⟨_, d16, F16, He.glo_ok X G (c.fact 16 (f := .glo "law") rfl), FunD.bindsN F16 fun _ _ _ _ _ _ us hl => match us, hl with | [_], _ => rfl⟩
    z_abs := He.free_ok X G (c.fact 17 (f := .free "abs") rfl)
    z_bool := He.free_ok X G (c.fact 18 (f := .free "bool") rfl)
    z_divmod := He.free_ok X G (c.fact 19 (f := .free "divmod") rfl)
    z_int := He.free_ok X G (c.fact 20 (f := .free "int") rfl)
    z_isinstance := He.free_ok X G (c.fact 21 (f := .free "isinstance") rfl)
    z_len := He.free_ok X G (c.fact 22 (f := .free "len") rfl)
    z_max := He.free_ok X G (c.fact 23 (f := .free "max") rfl)
    z_min := He.free_ok X G (c.fact 24 (f := .free "min") rfl)
    z_range := He.free_ok X G (c.fact 25 (f := .free "range") rfl)
    z_tuple := He.free_ok X G (c.fact 26 (f := .free "tuple") rfl)
  }
  exact ⟨d16, fun s v => b s [v] rfl, fun base _ _ => ok_law T⟩

end W
open PySem PySem.W PySem.Calls PyProof.Rows
set_option maxHeartbeats 8000000 in
theorem PySem.Challenge.cw_restdraw_k11_fractions_reckoned_holds : PySem.Challenge.rw_restdraw_k11_fractions_reckoned.Holds := by
  w_on; o_law
  refine HandSHeadRun.head_any (r := W.Rw) (q := view W.Rw.prog [18]) (H := W.hkL) (ob := W.obL) (M := 600) (loose := ["divisor", "fraction", "plus", "less", "times", "over", "sign", "_law_pot", "_law_digit", "_law_is_whole", "_law_number", "_law_common", "_law_made", "_law_drawn", "_law_is", "_law_is_reckoned"]) (d := HandSHeadRun.topDef W.Rw.prog 18) (kwd := []) W.ob_eqL
    (by kernel_rfl) (fun s => by kernel_rfl) W.runL (by kernel_rfl) (by kernel_rfl) (by kernel_rfl) (by rfl) (by first | assumption | decide +kernel) (by decide +kernel) ⟨rfl, rfl, rfl, rfl, rfl, by decide +kernel⟩ ?hw ?hc
  case hw => w_witness2
  case hc =>
    refine L2.walk_ofE (l := PySem.Challenge.rw_restdraw_k11_fractions_reckoned) (n := 63) (k := 5) (x := "_law_script") (CX := L2.CX0) rfl (by decide) (by kernel_rfl) ⟨rfl, by decide, by decide⟩ ?F (fun _ _ _ _ z => z)
    intro w mg fa h Y G hmg0
    obtain ⟨K, KX, c⟩ := Y
    have hmg : mg ("law" : PySem.Str) = some (.ref fa) := by
      have e : (HandSHeadRun.topDef W.Rw.prog 18).name = ("law" : PySem.Str) := by kernel_rfl
      rw [← e]
      exact hmg0
    obtain ⟨fd, hb, hF⟩ := W.factsL (P := (PySem.Challenge.rw_restdraw_k11_fractions_reckoned).prog) (w := w) KX G hmg c
    exact ⟨K, fd, _, KX, hb, fun H a ns hl _ hS => DL.law_sp hS (W.law_true ns hl), hF⟩
