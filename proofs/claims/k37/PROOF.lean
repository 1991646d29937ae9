import PyProof.Rows.All
import Wide.All
import OpenK.AllK
import Wide.FinOn
import HandS.ForMost
import HandS.Wide
import HandS.WideBits
import HandS.Defaults
import HandS.Ends
import HandS.HeadEnd
import HandS.IsInst
import HandS.Words
import HandS.WordsExc
import HandS.Comp
import HandS.Deep
import HandS.NoneIn
import HandS.More
import HandS.SetFor
import HandS.Strs
import HandS.Iter
import PyProof.EnumMake
import PyProof.Draws
import PyProof.TupleIter
import PyProof.ReprRoads
import PyProof.ReprText
import PyProof.ReprLen
import HandS.Head0
import HandS.Head1
import HandS.Head2
import HandS.HeadHook1
import HandS.HeadHook2
import PySem.Challenge.RW_restdraw_k37_farthest
set_option Elab.async false
set_option linter.all false
set_option autoImplicit false
set_option exponentiation.threshold 100000
set_option maxRecDepth 100000
set_option maxHeartbeats 4000000
/-! DL0: defs' promises where no display is under way -/
namespace DL
open PySem PySem.Spec L2 PyProof.Rows

/-- there is room, and no display stands below -/
structure RoomG (k : Nat) (A : Around) : Prop where
  r : Room k A
  gd : A.guards = some []
theorem RoomG.mono {j k : Nat} {A : Around} (h : RoomG k A) (l : j ≤ k) : RoomG j A := ⟨h.r.mono l, h.gd⟩
theorem RoomG.deeper {k : Nat} {A : Around} (h : RoomG (k + 1) A) (env : PySem.Env) : RoomG k (A.deeper env) := ⟨h.r.deeper env, h.gd⟩
/-- a def's promise, there -/
structure FnG (P : Program) (w : World) (K : PySem.W.Frag) (mg : Str → Option Value) (bs : Heap) (CX : CXT) (k : Nat) (fa : Addr) (fd : FuncData) (ps : List Str) (sp : Sp) : Prop where
  many : ∀ xs G Z W, sp xs G Z W → xs.length = ps.length
  go : ∀ (A : Around) (out : List PySem.Env) (t : Shared) (G : Hp) (ar : Args) (us : List Value) (xs : List V) (Z : VK) (W : XK), RoomG k A → Env0 P w K mg bs A out t G → BindsTo t fd ar (ps.zip us) → Vals xs us →
    sp xs G Z W → codeAny (model P w) A (.call (.ref fa) ar) (CR CX out P w G t Z W) t
section
variable {P : Program} {w : World} {K : PySem.W.Frag} {mg : Str → Option Value} {bs : Heap} {CX : CXT} {k : Nat} {fa : Addr} {fd : FuncData} {ps : List Str} {sp : Sp}
/-- by a def's body -/
theorem fn_ofG {x qual : Str} {params : Arguments} {body : List Stmt} {scope : Scope} {N : List Str} (F : FunD K x qual params body scope [] [] fa fd) (S : FnScope N ps scope) (many : ∀ xs G Z W, sp xs G Z W → xs.length = ps.length)
    (hb : ∀ (cv : Value) (A : Around) (out : List PySem.Env) (t : Shared) (G : Hp) (xs : List V) (Z : VK) (W : XK), RoomG k (A.deeper (envOfC qual scope t.heap.objs.size fa cv)) → sp xs G Z W →
      ∃ r, PSs (cxOf CX P w K mg bs N qual scope fa cv A out t G W) body r ∧ r { nx := fun _ G' => Z .non G', rt := Z } (start N xs) G) :
    FnG P w K mg bs CX (k + 1) fa fd ps sp := by
  obtain ⟨oc, od, dV, kV, doc, pm, an, cv, ct, osl, e, lk, cin, _, _⟩ := F.ex
  subst e
  refine ⟨many, ?_⟩
  intro A out t G ar us xs Z W room env bind rel pr
  have sizes := many _ _ _ _ pr
  have KI : K.In t.heap := env.mod.kin.keeps fun b o z => (env.bs b o z).1
  have free : t.heap.NoLimit := env.mod.nolimit.keeps fun b o z => (env.bs b o z).1
  refine codeAny_call_function room.r.depth (KI _ _ lk) rfl S.co S.gen rfl (PySem.W.codeRec_of KI cin) (bind _ _ _ _ ?_)
  have kinds : ∀ q ∈ ps.zip us, scope.names.lookup q.1 = some .local ∨ (scope.names.lookup q.1 = some .cell ∧ ((cellsFrom (t.heap.objs.size + 1) scope.names []).lookup q.1).isSome = true) := by
    rintro ⟨n, v⟩ hq
    exact (S.par n (List.of_mem_zip hq).1).elim Or.inl fun z => Or.inr ⟨z, PySem.W.cellsFrom_some _ _ _ (.inl z)⟩
  refine wpAny_newFunctionEnv_cells S.kind kinds ?_
  intro ev hev t1 x1
  subst hev
  refine ⟨free.keeps x1.toInCall.keep, codeAny_func ?_⟩
  obtain ⟨r, hrun, hst⟩ := hb cv A out t G xs Z W (room.deeper _) pr
  have I0 : Inv (cxOf CX P w K mg bs N qual scope fa cv A out t G W) [] (start N xs) G t1 := inv_start S room.r.hd env sizes rel x1
  refine wpAny_mono (hrun.run [] t1 (start N xs) G _ I0 hst) ?_ (fun e t' z => z)
  intro fl t' z
  have done : ∀ {τ : L2.St} {G' : Hp} {v : V} {u : Value}, Inv (cxOf CX P w K mg bs N qual scope fa cv A out t G W) [] τ G' t' → RelV v u → Z v G' → CE out P w G t Z u t' := by
    intro τ G' v u J rv q
    exact ⟨v, G', J.os, J.bare, J.base, J.hok, rv, q⟩
  match fl, z with
  | .ret u, ⟨v, τ, G', J, rv, q⟩ => exact done J rv q
  | .next, ⟨τ, G', J, q⟩ => exact done (v := .non) (u := .none) J rfl q
  | .brk, ⟨_, _, _, q⟩ => exact q.elim
  | .cont, ⟨_, _, _, q⟩ => exact q.elim
end
section
variable {X : Cx} {CX : CXT} {k : Nat} {f : Addr} {fd : FuncData} {ps : List Str} {sp : Sp} {W : XK} {x : Str} {p pos : Pos} {e : Expr} {es : List Expr} {t : TA}
theorem go_fn {pins : List (Addr × Obj)} {σ : L2.St} {G : Hp} {s : Shared} {Q : VK} {us : List Value} {xs : List V} (F : FnG X.prog X.w X.K X.mg X.base CX k f fd ps sp) (room : RoomG k X.A) (hb : Binds X.K fd ps []) (pass : Passes CX X W)
    (I : Inv X pins σ G s) (r : Vals xs us) (pr : sp xs G Q W) : wpAny (model X.prog X.w) X.A (call (.ref f) us) (EP X pins σ Q) X.xe s := by
  have n : (us ++ []).length = ps.length := by
    rw [List.append_nil, ← r.length]
    exact F.many _ _ _ _ pr
  have b := hb s us I.kIn n
  rw [List.append_nil] at b
  refine wpAny_call (codeAny_mono (F.go X.A X.stack s G ⟨us, []⟩ us xs Q W room I.env0 b r pr) ?_)
  intro res s' z
  match res, z with
  | .error e, z => exact pass pins σ G s e s' I z
  | .ok (.ret u), z => exact I.after z
  | .ok .next, z => exact z.elim
  | .ok .brk, z => exact z.elim
  | .ok .cont, z => exact z.elim
/-- the call of a def -/
theorem pe_callG (F : FnG X.prog X.w X.K X.mg X.base CX k f fd ps sp) (room : RoomG k X.A) (hg : Gl X x) (hm : X.mg x = some (.ref f)) (hk : PySem.W.keepIn X.K (.ref f) = true) (hb : Binds X.K fd ps []) (pass : Passes CX X W) (ha : PA X (e :: es) t)
    (hdb : (x == ("__debug__" : Str)) = false := by decide) (he : starEach (e :: es) X.env = (false, eval e X.env) :: starEach es X.env := by rfl) (hpl : (backTo pos (starEach es X.env)).any (·.1) = false := by rfl) :
    PE X (.Call (.Name x p) (e :: es) [] pos) (tCall sp [] W t) :=
  ⟨fun pins s σ G Q I h => wpAny_Call_Name_kw (ld_glob I hg hm (PySem.W.callWith_K (h₀ := X.base) I.ok.mod.kin hk (thn (ha.run pos pins s σ G _ I h) fun us s1 z => by
    obtain ⟨xs, G1, I1, r, q⟩ := z
    refine ⟨I1.kIn, go_fn F room hb pass I1 r ?_⟩
    rw [List.append_nil] at q
    exact q) he hpl) hdb)⟩
end
/-! ### the law's own call -/
theorem law_callG {P : Program} {w : World} {K : PySem.W.Frag} {mg mb : Str → Option Value} {CX : CXT} {k : Nat} {fa a : Addr} {fd : FuncData} {x : Str} {sp : Sp} {t : Shared} {us : List Value} {ns : List Int}
    (KI : K.In t.heap) (n1 : t.heap.Ns mainGlobals mg) (n2 : t.heap.Ns builtinsNs mb) (n3 : ∀ x : Str, x ≠ "__name__" → mb x = bootBuiltins x) (n4 : t.heap.NoLimit) (n5 : t.gens = #[])
    (ob : t.heap.get? a = some { cls := .type "list", data := .seq us.toArray }) (are : IntsAre us ns) (few : ns.length ≤ sizeLine) (room : RoomG k callerA)
    (F : ∀ bs : Heap, K.In bs → bs.Ns mainGlobals mg → FnG P w K mg bs CX k fa fd [x] sp) (bind : ∀ (s : Shared) (u : Value), BindsTo s fd ⟨[u], []⟩ [(x, u)])
    (pr : ∀ G : Hp, Only G → SqL K G a (ns.map V.int) → sp [.ref a] G (fun v _ => v = .bl true) fun _ _ _ => False)
    (noX : ∀ G e t', CX [] G t (fun _ _ _ => False) e t' → False) :
    codeAny (model P w) callerA (.call (.ref fa) ⟨[.ref a], []⟩) (fun r t' => r = .ok (.ret (.bool true)) ∧ OldK t.heap t'.heap ∧ t'.os = t.os ∧ AllBare t'.gens) t := by
  have rel := vals_ints are
  have main : ∀ G : Hp, Only G → SqL K G a (ns.map V.int) → HOk P w G t.heap → (∀ b, G b ≠ none → b = a) → (G a ≠ none → K.lookup a = none) →
      codeAny (model P w) callerA (.call (.ref fa) ⟨[.ref a], []⟩) (fun r t' => r = .ok (.ret (.bool true)) ∧ OldK t.heap t'.heap ∧ t'.os = t.os ∧ AllBare t'.gens) t := by
    intro G only sq ok isA notK
    have alone : ∀ {b : Addr}, b ≠ a → G b = none := fun {b} z => Classical.byContradiction fun y => z (isA b y)
    have hid : ∀ {b : Addr} {o : Obj}, t.heap.get? b = some o → G b = none → (hidT t.heap G).get? b = some o := fun z y => hidT_get z y
    have noD : ∀ {b : Addr} {o : Obj} {es : Array DictEntry} {ep : Nat}, t.heap.get? b = some o → o.data = .dict es ep → G b = none := by
      intro b o es ep z d
      by_cases hba : b = a
      · subst hba
        rw [ob] at z
        injection z with z
        subst z
        exact nomatch (show Data.seq us.toArray _ = Data.dict es ep from d)
      · exact alone hba
    have nss : ∀ {b : Addr} {m : Str → Option Value}, t.heap.Ns b m → (hidT t.heap G).Ns b m := by
      rintro b m ⟨o, es, ep, z, d, r⟩
      exact ⟨o, es, ep, hid z (noD z d), d, r⟩
    have KB : K.In (hidT t.heap G) := by
      intro b o z
      refine hid (KI b o z) ?_
      by_cases hba : b = a
      · subst hba
        by_cases y : G b = none
        · exact y
        · rw [notK y] at z
          cases z
      · exact alone hba
    obtain ⟨mc, l1, l2⟩ := n4
    have en : Env0 P w K mg (hidT t.heap G) callerA [] t G :=
      ⟨rfl, ⟨KB, nss n1, ⟨mb, nss n2, n3⟩, ⟨mc, nss l1, l2⟩⟩, fun b o z => of_hidT z, Nat.le_of_eq (hidT_size _ _), trivial, fun b z => absurd (show b ∈ ([] : List Addr) from z) List.not_mem_nil, ok, .of_eq n5⟩
    refine codeAny_mono ((F _ KB (nss n1)).go callerA [] t G ⟨[.ref a], []⟩ [.ref a] [.ref a] _ _ room en (bind t (.ref a)) (.cons rfl .nil) (pr G only sq)) ?_
    intro r t' z
    match r, z with
    | .error e, z => exact (noX G e t' z).elim
    | .ok .next, z => exact z.elim
    | .ok .brk, z => exact z.elim
    | .ok .cont, z => exact z.elim
    | .ok (.ret u), ⟨v, G', os, bare, un, ok', rv, q⟩ =>
      have q : v = .bl true := q
      subst q
      have rv : u = Value.bool true := rv
      subst rv
      refine ⟨rfl, OldK.of_keep ?_, os, bare⟩
      intro b o z
      by_cases y : G b = none
      · exact un.keep b o z y (fun m => absurd (show b ∈ ([] : List Addr) from m) List.not_mem_nil) (by simp)
      · rcases only b with y' | ⟨ob', xs, y'⟩
        · exact absurd y' y
        · obtain ⟨e2, _⟩ := ok' b _ (un.frzs b ob' _ y')
          obtain ⟨e1, _⟩ := ok b _ y'
          rw [z] at e1
          injection e1 with e1
          subst e1
          exact e2
  by_cases hk : ∃ o, K.lookup a = some o
  · obtain ⟨o, hk⟩ := hk
    have z := KI a o hk
    rw [ob] at z
    injection z with z
    subst z
    refine main (fun _ => none) (fun _ => Or.inl rfl) (Or.inr ⟨_, us.toArray, _, hk, rfl, rfl, rfl, ?_, by simpa using rel⟩) ?_ (fun b z => (z rfl).elim) (fun z => (z rfl).elim)
    · rw [List.size_toArray, are.length]
      exact few
    · intro b u z
      exact nomatch (show (none : Option HO) = some u from z)
  · have hk : K.lookup a = none := by
      cases z : K.lookup a with
      | none => rfl
      | some o => exact (hk ⟨o, z⟩).elim
    have at_ : ∀ {b : Addr} {u : HO}, (if b = a then some (HO.frz { cls := .type "list", data := .seq us.toArray } (.lst (ns.map V.int))) else none) = some u → b = a ∧ u = HO.frz { cls := .type "list", data := .seq us.toArray } (.lst (ns.map V.int)) := by
      intro b u z
      split at z
      · injection z with z
        exact ⟨by assumption, z.symm⟩
      · cases z
    refine main (fun b => if b = a then some (.frz { cls := .type "list", data := .seq us.toArray } (.lst (ns.map V.int))) else none) ?_ (Or.inl (Or.inr ⟨_, if_pos rfl⟩)) ?_ ?_ (fun _ => hk)
    · intro b
      by_cases hb : b = a
      · exact Or.inr ⟨_, _, if_pos hb⟩
      · exact Or.inl (if_neg hb)
    · intro b u z
      obtain ⟨rfl, rfl⟩ := at_ z
      exact ⟨ob, by rw [List.length_map]; exact few, us, _, rel, ob⟩
    · intro b z
      by_cases hb : b = a
      · exact hb
      · exact absurd (if_neg hb) z
/-- a law, over a head by facts -/
theorem walk_ofG {l : PySem.W.OpenLaw} {n k : Nat} {q : Program} {loose : List Str} {XP : (Str → Option Value) → Heap → Prop} {YP : World → Heap → Prop} {d : DefRec} {CX : CXT} {x : Str}
    (most : l.most = some n) (few : n ≤ sizeLine) (nodf : d.params.defaults = []) (room : RoomG k callerA)
    (F : ∀ (w : World) (mg : Str → Option Value) (fa : Addr) (h : Heap), YP w h → h.Ns mainGlobals mg → mg d.name = some (.ref fa) →
      ∃ (K : PySem.W.Frag) (fd : FuncData) (sp : Sp), K.In h ∧ (∀ (s : Shared) (u : Value), BindsTo s fd ⟨[u], []⟩ [(x, u)]) ∧
        (∀ (G : Hp) (a : Addr) (ns : List Int), ns.length ≤ n → Only G → SqL K G a (ns.map V.int) → sp [.ref a] G (fun v _ => v = .bl true) fun _ _ _ => False) ∧
        ∀ bs : Heap, K.In bs → bs.Ns mainGlobals mg → FnG l.prog w K mg bs CX k fa fd [x] sp)
    (noX : ∀ (G : Hp) (t : Shared) (e : Value) (t' : Shared), CX [] G t (fun _ _ _ => False) e t' → False) :
    PySem.W.WalkO q loose XP YP l.row.toRowW d [] (fun f us => PySem.call f us) := by
  refine Att.attach_call most nodf ?_
  intro w s0 s1 mg mb fa o pm cd doc a us ns G Y ho hd hcd hmg hob hi hl hg
  obtain ⟨K, fd, sp, KI, bind, pr, hF⟩ := F w mg fa _ Y G.T.g hmg
  exact law_callG KI G.T.g G.T.b G.T.builtins G.T.nolimit hg hob hi (Nat.le_trans hl few) room hF bind (fun H only sq => pr H a ns hl only sq) fun H e s' => noX H s1 e s'
end DL

/-! DL1: mirrors' monad, environments of slots, what is owned -/
namespace DL
open PySem PySem.Spec L2
/-- data, without places; scr: the script -/
inductive D where
  | none
  | bool (b : Bool)
  | int (i : Int)
  | str (s : Str)
  | list (xs : List D)
  | tuple (xs : List D)
  | dict (kvs : List (D × D))
  | scr (ns : List Int)
  | row (ds : List D)

/-! ### the mirrors' monad -/
structure Exn where
  cls : String
  fld : Option D
inductive R (α : Type) where
  | ok (a : α)
  | err (e : Exn)
  | bad
namespace R
def bind {α β : Type} : R α → (α → R β) → R β
  | .ok a, f => f a
  | .err e, _ => .err e
  | .bad, _ => .bad
def post {α : Type} (m : R α) (φ : α → Prop) (ψ : Exn → Prop) : Prop := match m with
  | .ok a => φ a
  | .err e => ψ e
  | .bad => False
theorem post_bind {α β : Type} {m : R α} {f : α → R β} {φ : β → Prop} {ψ : Exn → Prop} : (m.bind f).post φ ψ ↔ m.post (fun a => (f a).post φ ψ) ψ := by
  cases m <;> exact Iff.rfl
theorem post_mono {α : Type} {m : R α} {φ φ' : α → Prop} {ψ : Exn → Prop} (h : m.post φ ψ) (k : ∀ a, φ a → φ' a) : m.post φ' ψ := by
  cases m with
  | ok a => exact k a h
  | err e => exact h
  | bad => exact h
/-- go on where it holds -/
def guard (c : Prop) [Decidable c] : R Unit := if c then .ok () else .bad
theorem post_guard {c : Prop} [Decidable c] {φ : Unit → Prop} {ψ : Exn → Prop} (h : (guard c).post φ ψ) : c ∧ φ () := by
  unfold guard at h
  by_cases hc : c
  · rw [if_pos hc] at h
    exact ⟨hc, h⟩
  · rw [if_neg hc] at h
    exact h.elim
/-- what must be there -/
def some {α : Type} : Option α → R α
  | .some a => .ok a
  | .none => .bad
theorem post_some {α : Type} {o : Option α} {φ : α → Prop} {ψ : Exn → Prop} (h : (some o).post φ ψ) : ∃ a, o = .some a ∧ φ a := by
  cases o with
  | none => exact h.elim
  | some a => exact ⟨a, rfl, h⟩
end R

/-! ### heaps that grow -/
def Ex (H H' : Hp) : Prop := ∀ a o, H a = some o → H' a = some o
theorem Ex.refl (H : Hp) : Ex H H := fun _ _ h => h
theorem Ex.trans {H H1 H2 : Hp} (a : Ex H H1) (b : Ex H1 H2) : Ex H H2 := fun x o h => b x o (a x o h)
theorem Ex.new {H : Hp} {p : Addr} {o : HO} (h : H p = none) : Ex H (upd H p o) := fun a u e => by
  rw [upd_ne (ne_of_none e h)]
  exact e
theorem Ex.upd {H H' : Hp} (e : Ex H H') (p : Addr) (o : HO) : Ex (upd H p o) (upd H' p o) := fun a u h => by
  by_cases ha : a = p
  · subst ha
    rw [upd_same] at h ⊢
    exact h
  · rw [upd_ne ha] at h ⊢
    exact e a u h
theorem Ex.rd {H H' : Hp} {a : Addr} {u : HO} (e : Ex H H') (h : Rd H a u) : Rd H' a u := by
  rcases h with h | ⟨o, h⟩
  · exact Or.inl (e a _ h)
  · exact Or.inr ⟨o, e a _ h⟩
theorem Ex.l {K : PySem.W.Frag} {H H' : Hp} {a : Addr} {xs : List V} (e : Ex H H') (h : SqL K H a xs) : SqL K H' a xs := by
  rcases h with h | h
  · exact Or.inl (e.rd h)
  · exact Or.inr h
theorem Ex.t {K : PySem.W.Frag} {H H' : Hp} {a : Addr} {xs : List V} (e : Ex H H') (h : SqT K H a xs) : SqT K H' a xs := by
  rcases h with h | h
  · exact Or.inl (e.rd h)
  · exact Or.inr h
theorem Ex.back {H H' : Hp} {p : Addr} (e : Ex H H') (h : H' p = none) : H p = none := by
  cases h1 : H p with
  | none => rfl
  | some o =>
    rw [e p o h1] at h
    cases h

/-! ### data in the heap (as Dp, and dicts) -/
mutual
inductive Rp (K : PySem.W.Frag) (G : Hp) : V → D → Prop
  | non : Rp K G .non .none
  | bl (b : Bool) : Rp K G (.bl b) (.bool b)
  | int (i : Int) : Rp K G (.int i) (.int i)
  | str (x : Str) : Rp K G (.str x) (.str x)
  | lst {a : Addr} {xs : List V} {ds : List D} : Rd G a (.lst xs) → RpAll K G xs ds → Rp K G (.ref a) (.list ds)
  | tup {a : Addr} {xs : List V} {ds : List D} : SqT K G a xs → RpAll K G xs ds → Rp K G (.ref a) (.tuple ds)
  | scr {a : Addr} {ns : List Int} : SqL K G a (ns.map V.int) → Rp K G (.ref a) (.scr ns)
  | row {a : Addr} {ob : Obj} {xs : List V} {ds : List D} : G a = some (.frz ob (.tup xs)) → ob.dict = none → RpAll K G xs ds → Rp K G (.ref a) (.row ds)
  | dK {a : Addr} {kvs : List (Key × V)} {ds : List (D × D)} : G a = some (.dK kvs) → RpK K G kvs ds → Rp K G (.ref a) (.dict ds)
  | dT {a : Addr} {kvs : List (List Key × V)} {ds : List (D × D)} : G a = some (.dT kvs) → RpT K G kvs ds → Rp K G (.ref a) (.dict ds)
inductive RpAll (K : PySem.W.Frag) (G : Hp) : List V → List D → Prop
  | nil : RpAll K G [] []
  | cons {v : V} {vs : List V} {d : D} {ds : List D} : Rp K G v d → RpAll K G vs ds → RpAll K G (v :: vs) (d :: ds)
inductive RpK (K : PySem.W.Frag) (G : Hp) : List (Key × V) → List (D × D) → Prop
  | nil : RpK K G [] []
  | cons {k : Key} {v : V} {r : List (Key × V)} {d : D} {ds : List (D × D)} : Rp K G v d → RpK K G r ds → RpK K G ((k, v) :: r) ((match k with | .inl i => D.int i | .inr x => D.str x, d) :: ds)
inductive RpT (K : PySem.W.Frag) (G : Hp) : List (List Key × V) → List (D × D) → Prop
  | nil : RpT K G [] []
  | cons {k : List Key} {v : V} {r : List (List Key × V)} {d : D} {ds : List (D × D)} : Rp K G v d → RpT K G r ds → RpT K G ((k, v) :: r) ((D.tuple (k.map fun k => match k with | .inl i => D.int i | .inr x => D.str x), d) :: ds)
end
mutual
theorem Rp.ex {K : PySem.W.Frag} {G G' : Hp} (e : Ex G G') : ∀ {v : V} {d : D}, Rp K G v d → Rp K G' v d
  | _, _, .non => .non
  | _, _, .bl b => .bl b
  | _, _, .int i => .int i
  | _, _, .str x => .str x
  | _, _, .lst h r => .lst (e.rd h) (RpAll.ex e r)
  | _, _, .tup h r => .tup (e.t h) (RpAll.ex e r)
  | _, _, .scr h => .scr (e.l h)
  | _, _, .row h d r => .row (e _ _ h) d (RpAll.ex e r)
  | _, _, .dK h r => .dK (e _ _ h) (RpK.ex e r)
  | _, _, .dT h r => .dT (e _ _ h) (RpT.ex e r)
theorem RpAll.ex {K : PySem.W.Frag} {G G' : Hp} (e : Ex G G') : ∀ {v : List V} {d : List D}, RpAll K G v d → RpAll K G' v d
  | _, _, .nil => .nil
  | _, _, .cons h r => .cons (Rp.ex e h) (RpAll.ex e r)
theorem RpK.ex {K : PySem.W.Frag} {G G' : Hp} (e : Ex G G') : ∀ {v : List (Key × V)} {d : List (D × D)}, RpK K G v d → RpK K G' v d
  | _, _, .nil => .nil
  | _, _, .cons h r => .cons (Rp.ex e h) (RpK.ex e r)
theorem RpT.ex {K : PySem.W.Frag} {G G' : Hp} (e : Ex G G') : ∀ {v : List (List Key × V)} {d : List (D × D)}, RpT K G v d → RpT K G' v d
  | _, _, .nil => .nil
  | _, _, .cons h r => .cons (Rp.ex e h) (RpT.ex e r)
end
section
variable {K : PySem.W.Frag} {G : Hp}
theorem Rp.int_inv {v : V} {i : Int} (h : Rp K G v (.int i)) : v = .int i := by
  cases h
  rfl
theorem Rp.bl_inv {v : V} {b : Bool} (h : Rp K G v (.bool b)) : v = .bl b := by
  cases h
  rfl
theorem Rp.str_inv {v : V} {b : Str} (h : Rp K G v (.str b)) : v = .str b := by
  cases h
  rfl
theorem Rp.non_inv {v : V} (h : Rp K G v .none) : v = .non := by
  cases h
  rfl
theorem Rp.lst_inv {v : V} {ds : List D} (h : Rp K G v (.list ds)) : ∃ a xs, v = .ref a ∧ Rd G a (.lst xs) ∧ RpAll K G xs ds := by
  cases h with
  | lst h r => exact ⟨_, _, rfl, h, r⟩
theorem Rp.tup_inv {v : V} {ds : List D} (h : Rp K G v (.tuple ds)) : ∃ a xs, v = .ref a ∧ SqT K G a xs ∧ RpAll K G xs ds := by
  cases h with
  | tup h r => exact ⟨_, _, rfl, h, r⟩
theorem RpAll.len : ∀ {vs : List V} {ds : List D}, RpAll K G vs ds → vs.length = ds.length
  | _, _, .nil => rfl
  | _, _, .cons _ r => by rw [List.length_cons, List.length_cons, RpAll.len r]
theorem RpAll.get : ∀ {vs : List V} {ds : List D} {i : Nat} {d : D}, RpAll K G vs ds → ds[i]? = some d → ∃ v, vs[i]? = some v ∧ Rp K G v d
  | _, _, _, _, .nil, e => by simp at e
  | _, _, 0, _, .cons h _, e => by
    simp at e
    subst e
    exact ⟨_, rfl, h⟩
  | _, _, i + 1, _, .cons _ r, e => by
    obtain ⟨v, h1, h2⟩ := RpAll.get (i := i) r (by simpa using e)
    exact ⟨v, by simpa using h1, h2⟩
theorem RpAll.getV : ∀ {vs : List V} {ds : List D} {i : Nat} {v : V}, RpAll K G vs ds → vs[i]? = some v → ∃ d, ds[i]? = some d ∧ Rp K G v d
  | _, _, _, _, .nil, e => by simp at e
  | _, _, 0, _, .cons h _, e => by
    simp at e
    subst e
    exact ⟨_, rfl, h⟩
  | _, _, i + 1, _, .cons _ r, e => by
    obtain ⟨v, h1, h2⟩ := RpAll.getV (i := i) r (by simpa using e)
    exact ⟨v, by simpa using h1, h2⟩
theorem RpAll.append : ∀ {vs ws : List V} {ds es : List D}, RpAll K G vs ds → RpAll K G ws es → RpAll K G (vs ++ ws) (ds ++ es)
  | _, _, _, _, .nil, s => s
  | _, _, _, _, .cons h r, s => .cons h (RpAll.append r s)
theorem RpAll.take : ∀ {vs : List V} {ds : List D} (n : Nat), RpAll K G vs ds → RpAll K G (vs.take n) (ds.take n)
  | _, _, 0, _ => by
    rw [List.take_zero, List.take_zero]
    exact .nil
  | _, _, _ + 1, .nil => .nil
  | _, _, n + 1, .cons h r => .cons h (RpAll.take n r)
theorem RpAll.drop : ∀ {vs : List V} {ds : List D} (n : Nat), RpAll K G vs ds → RpAll K G (vs.drop n) (ds.drop n)
  | _, _, 0, r => r
  | _, _, _ + 1, .nil => .nil
  | _, _, n + 1, .cons _ r => RpAll.drop n r
theorem RpAll.ints : ∀ {vs : List V} {ns : List Int}, RpAll K G vs (ns.map D.int) → vs = ns.map V.int
  | _, [], .nil => rfl
  | _, n :: ns, .cons h r => by
    rw [List.map_cons, ← RpAll.ints r, Rp.int_inv h]
theorem RpAll.of_ints : ∀ (ns : List Int), RpAll K G (ns.map V.int) (ns.map D.int)
  | [] => .nil
  | n :: ns => .cons (.int n) (RpAll.of_ints ns)
theorem RpAll.bools : ∀ {vs : List V} {ns : List Bool}, RpAll K G vs (ns.map D.bool) → vs = ns.map V.bl
  | _, [], .nil => rfl
  | _, n :: ns, .cons h r => by
    rw [List.map_cons, ← RpAll.bools r, Rp.bl_inv h]
end
/-! ### what is owned: a tree of lists, at places of their own -/
inductive OT where
  | dat (d : D)
  | lst (os : List OT)
  | dk (kvs : List (Key × D))
  | dt (kvs : List (List Key × D))
def keyD : Key → D
  | .inl i => .int i
  | .inr x => .str x
/-- the entries of a dict that is owned -/
inductive RpE {κ : Type} (K : PySem.W.Frag) (G : Hp) : List (κ × V) → List (κ × D) → Prop
  | nil : RpE K G [] []
  | cons {k : κ} {v : V} {d : D} {r : List (κ × V)} {ds : List (κ × D)} : Rp K G v d → RpE K G r ds → RpE K G ((k, v) :: r) ((k, d) :: ds)
theorem RpE.ex {κ : Type} {K : PySem.W.Frag} {G G' : Hp} (e : Ex G G') {kvs : List (κ × V)} {ds : List (κ × D)} (h : RpE K G kvs ds) : RpE K G' kvs ds := by
  induction h with
  | nil => exact .nil
  | cons h _ ih => exact .cons (h.ex e) ih
theorem RpE.k {K : PySem.W.Frag} {G : Hp} {kvs : List (Key × V)} {ds : List (Key × D)} (h : RpE K G kvs ds) : RpK K G kvs (ds.map fun p => (keyD p.1, p.2)) := by
  induction h with
  | nil => exact .nil
  | @cons k v d r ds h _ ih => cases k <;> exact .cons h ih
theorem RpE.t {K : PySem.W.Frag} {G : Hp} {kvs : List (List Key × V)} {ds : List (List Key × D)} (h : RpE K G kvs ds) : RpT K G kvs (ds.map fun p => (D.tuple (p.1.map keyD), p.2)) := by
  induction h with
  | nil => exact .nil
  | @cons k v d r ds h _ ih =>
    have e : k.map keyD = k.map fun k => match k with | .inl i => D.int i | .inr x => D.str x := List.map_congr_left fun x _ => by cases x <;> rfl
    rw [List.map_cons]
    show RpT K G _ ((D.tuple (k.map keyD), d) :: _)
    rw [e]
    exact .cons h ih
mutual
inductive Own (K : PySem.W.Frag) (G H : Hp) : V → OT → List Addr → Prop
  | dat {v : V} {d : D} : Rp K G v d → Own K G H v (.dat d) []
  | lst {a : Addr} {vs : List V} {os : List OT} {A : List Addr} : H a = some (.lst vs) → OwnAll K G H vs os A → Own K G H (.ref a) (.lst os) (a :: A)
  | dk {a : Addr} {kvs : List (Key × V)} {ds : List (Key × D)} : H a = some (.dK kvs) → RpE K G kvs ds → Own K G H (.ref a) (.dk ds) [a]
  | dt {a : Addr} {kvs : List (List Key × V)} {ds : List (List Key × D)} : H a = some (.dT kvs) → RpE K G kvs ds → Own K G H (.ref a) (.dt ds) [a]
inductive OwnAll (K : PySem.W.Frag) (G H : Hp) : List V → List OT → List Addr → Prop
  | nil : OwnAll K G H [] [] []
  | cons {v : V} {vs : List V} {o : OT} {os : List OT} {A A' : List Addr} : Own K G H v o A → OwnAll K G H vs os A' → OwnAll K G H (v :: vs) (o :: os) (A ++ A')
end
mutual
/-- what is owned stays where its places and the data do -/
theorem Own.ex {K : PySem.W.Frag} {G G' H H' : Hp} (e : Ex G G') : ∀ {v : V} {o : OT} {A : List Addr}, Own K G H v o A → (∀ a ∈ A, ∀ u, H a = some u → H' a = some u) → Own K G' H' v o A
  | _, _, _, .dat h, _ => .dat (h.ex e)
  | _, _, _, .lst h r, k => .lst (k _ (List.mem_cons_self) _ h) (OwnAll.ex e r fun a m => k a (List.mem_cons_of_mem _ m))
  | _, _, _, .dk h r, k => .dk (k _ (List.mem_cons_self) _ h) (r.ex e)
  | _, _, _, .dt h r, k => .dt (k _ (List.mem_cons_self) _ h) (r.ex e)
theorem OwnAll.ex {K : PySem.W.Frag} {G G' H H' : Hp} (e : Ex G G') : ∀ {v : List V} {o : List OT} {A : List Addr}, OwnAll K G H v o A → (∀ a ∈ A, ∀ u, H a = some u → H' a = some u) → OwnAll K G' H' v o A
  | _, _, _, .nil, _ => .nil
  | _, _, _, .cons h r, k => .cons (Own.ex e h fun a m => k a (List.mem_append_left _ m)) (OwnAll.ex e r fun a m => k a (List.mem_append_right _ m))
end
mutual
def OT.toD : OT → D
  | .dat d => d
  | .lst os => .list (OT.toDs os)
  | .dk kvs => .dict (kvs.map fun p => (keyD p.1, p.2))
  | .dt kvs => .dict (kvs.map fun p => (D.tuple (p.1.map keyD), p.2))
def OT.toDs : List OT → List D
  | [] => []
  | o :: os => o.toD :: OT.toDs os
end
mutual
/-- it stands in the heap -/
theorem Own.there {K : PySem.W.Frag} {G H : Hp} : ∀ {v : V} {o : OT} {A : List Addr}, Own K G H v o A → ∀ a ∈ A, ∃ u, H a = some u
  | _, _, _, .dat _, _, m => nomatch m
  | _, _, _, .lst h r, a, m => by
    rcases List.mem_cons.mp m with rfl | m
    · exact ⟨_, h⟩
    · exact OwnAll.there r a m
  | _, _, _, .dk h r, a, m => by
    rw [List.mem_singleton.mp m]
    exact ⟨_, h⟩
  | _, _, _, .dt h r, a, m => by
    rw [List.mem_singleton.mp m]
    exact ⟨_, h⟩
theorem OwnAll.there {K : PySem.W.Frag} {G H : Hp} : ∀ {v : List V} {o : List OT} {A : List Addr}, OwnAll K G H v o A → ∀ a ∈ A, ∃ u, H a = some u
  | _, _, _, .nil, _, m => nomatch m
  | _, _, _, .cons h r, a, m => by
    rcases List.mem_append.mp m with m | m
    · exact Own.there h a m
    · exact OwnAll.there r a m
end
mutual
/-- owned things, made data -/
theorem Own.rp {K : PySem.W.Frag} {G G' H : Hp} (e : Ex G G') : ∀ {v : V} {o : OT} {A : List Addr}, Own K G H v o A → (∀ a ∈ A, ∀ u, H a = some u → G' a = some u) → Rp K G' v o.toD
  | _, _, _, .dat h, _ => by
    rw [OT.toD]
    exact h.ex e
  | _, _, _, .lst h r, k => by
    rw [OT.toD]
    exact .lst (Or.inl (k _ (List.mem_cons_self) _ h)) (OwnAll.rp e r fun a m => k a (List.mem_cons_of_mem _ m))
  | _, _, _, .dk h r, k => by
    rw [OT.toD]
    exact .dK (k _ (List.mem_cons_self) _ h) (r.ex e).k
  | _, _, _, .dt h r, k => by
    rw [OT.toD]
    exact .dT (k _ (List.mem_cons_self) _ h) (r.ex e).t
theorem OwnAll.rp {K : PySem.W.Frag} {G G' H : Hp} (e : Ex G G') : ∀ {v : List V} {o : List OT} {A : List Addr}, OwnAll K G H v o A → (∀ a ∈ A, ∀ u, H a = some u → G' a = some u) → RpAll K G' v (OT.toDs o)
  | _, _, _, .nil, _ => by
    rw [OT.toDs]
    exact .nil
  | _, _, _, .cons h r, k => by
    rw [OT.toDs]
    exact .cons (Own.rp e h fun a m => k a (List.mem_append_left _ m)) (OwnAll.rp e r fun a m => k a (List.mem_append_right _ m))
end
end DL

/-! DL2: environments -/
namespace DL
open PySem PySem.Spec L2

inductive Slot where
  | non
  | val (d : D)
  | own (l : Nat) (o : OT)
  | ali (j : Nat) (path : List Nat)

structure Base where
  H0 : Hp
  G0 : Hp
  Mo : Nat → List Addr
  m0 : Mo 0 = []
  pv : Nat → Option V
  rs : Exn → Prop

structure Anc (B : Base) (G H : Hp) : Prop where
  keep : ∀ a o, (∀ l, a ∉ B.Mo l) → B.H0 a = some o → H a = some o
  there : ∀ a l, a ∈ B.Mo l → H a ≠ none
  gsub : Ex B.G0 G
  gnew : ∀ a, B.H0 a ≠ none → B.G0 a = none → G a = none
  sub : Ex G H
theorem Anc.fresh {B : Base} {G H : Hp} (h : Anc B G H) {p : Addr} (hp : H p = none) : B.H0 p = none := by
  cases e : B.H0 p with
  | none => rfl
  | some o =>
    by_cases hm : ∃ l, p ∈ B.Mo l
    · obtain ⟨l, hm⟩ := hm
      exact absurd hp (h.there p l hm)
    · rw [h.keep p o (fun l m => hm ⟨l, m⟩) e] at hp
      cases hp
theorem Anc.new {B : Base} {G H : Hp} (h : Anc B G H) {p : Addr} (hp : H p = none) (o : HO) : Anc B (upd G p o) (upd H p o) := by
  have h0 := h.fresh hp
  refine ⟨fun a u hm e => ?_, fun a l hm => ?_, h.gsub.trans (Ex.new (h.sub.back hp)), fun a e1 e2 => ?_, h.sub.upd p o⟩
  · rw [upd_ne (ne_of_none (h.keep a u hm e) hp)]
    exact h.keep a u hm e
  · by_cases ha : a = p
    · subst ha
      rw [upd_same]
      exact fun z => nomatch z
    · rw [upd_ne ha]
      exact h.there a l hm
  · have ha : a ≠ p := fun z => by
      subst z
      exact e1 h0
    rw [upd_ne ha]
    exact h.gnew a e1 e2
/-- a change of what is nobody's data: the caller's own argument, or new here -/
theorem Anc.put {B : Base} {G H : Hp} (h : Anc B G H) {p : Addr} (hG : G p = none) (hp : (∃ l, p ∈ B.Mo l) ∨ B.H0 p = none) (o : HO) : Anc B G (upd H p o) := by
  refine ⟨fun a u hm e => ?_, fun a l hm => ?_, h.gsub, h.gnew, fun a u e => ?_⟩
  · have ha : a ≠ p := fun z => by
      subst z
      rcases hp with ⟨l, hp⟩ | hp
      · exact hm l hp
      · rw [hp] at e
        cases e
    rw [upd_ne ha]
    exact h.keep a u hm e
  · by_cases ha : a = p
    · subst ha
      rw [upd_same]
      exact fun z => nomatch z
    · rw [upd_ne ha]
      exact h.there a l hm
  · rw [upd_ne (ne_of_none e hG)]
    exact h.sub a u e
/-- what is new here is made data -/
theorem Anc.frz {B : Base} {G H : Hp} (h : Anc B G H) {A : List Addr} (hA : ∀ a ∈ A, G a = none ∧ B.H0 a = none) : Anc B (fun a => if a ∈ A then H a else G a) H := by
  refine ⟨h.keep, h.there, fun a u e => ?_, fun a e1 e2 => ?_, fun a u e => ?_⟩
  · by_cases ha : a ∈ A
    · have z := (hA a ha).1.symm.trans (h.gsub a u e)
      cases z
    · show (if a ∈ A then H a else G a) = _
      rw [if_neg ha]
      exact h.gsub a u e
  · show (if a ∈ A then H a else G a) = _
    by_cases ha : a ∈ A
    · exact absurd (hA a ha).2 e1
    · rw [if_neg ha]
      exact h.gnew a e1 e2
  · have e : (if a ∈ A then H a else G a) = some u := e
    by_cases ha : a ∈ A
    · rw [if_pos ha] at e
      exact e
    · rw [if_neg ha] at e
      exact h.sub a u e

/-- a value and its slot, with the places it owns -/
inductive Cell (K : PySem.W.Frag) (B : Base) (G H : Hp) : Option V → Slot → List Addr → Prop
  | non {x : Option V} : Cell K B G H x .non []
  | val {v : V} {d : D} : Rp K G v d → Cell K B G H (some v) (.val d) []
  | own {v : V} {l : Nat} {o : OT} {A : List Addr} : Own K G H v o A → (∀ a ∈ A, a ∈ B.Mo l ∨ B.H0 a = none) → (l = 0 ∨ B.pv l = some v) → Cell K B G H (some v) (.own l o) A
  | ali {x : Option V} {j : Nat} {p : List Nat} : Cell K B G H x (.ali j p) []
inductive Cells (K : PySem.W.Frag) (B : Base) (G H : Hp) : List (Option V) → List Slot → List Addr → Prop
  | nil : Cells K B G H [] [] []
  | cons {x : Option V} {s : Slot} {A : List Addr} {σ : St} {ρ : List Slot} {A' : List Addr} : Cell K B G H x s A → Cells K B G H σ ρ A' → Cells K B G H (x :: σ) (s :: ρ) (A ++ A')
section
variable {K : PySem.W.Frag} {B : Base} {G G' H H' : Hp}
theorem Cell.ex {x : Option V} {s : Slot} {A : List Addr} (h : Cell K B G H x s A) (e : Ex G G') (k : ∀ a ∈ A, ∀ u, H a = some u → H' a = some u) : Cell K B G' H' x s A := by
  cases h with
  | non => exact .non
  | val h => exact .val (h.ex e)
  | own h l z => exact .own (h.ex e k) l z
  | ali => exact .ali
theorem Cells.ex {σ : St} {ρ : List Slot} {A : List Addr} (h : Cells K B G H σ ρ A) (e : Ex G G') (k : ∀ a ∈ A, ∀ u, H a = some u → H' a = some u) : Cells K B G' H' σ ρ A := by
  induction h with
  | nil => exact .nil
  | cons c r ih => exact .cons (c.ex e fun a m => k a (List.mem_append_left _ m)) (ih fun a m => k a (List.mem_append_right _ m))
theorem Cell.there {x : Option V} {s : Slot} {A : List Addr} (h : Cell K B G H x s A) : ∀ a ∈ A, ∃ u, H a = some u := by
  cases h with
  | non => exact fun _ m => nomatch m
  | val h => exact fun _ m => nomatch m
  | own h l _ => exact h.there
  | ali => exact fun _ m => nomatch m
theorem Cells.there {σ : St} {ρ : List Slot} {A : List Addr} (h : Cells K B G H σ ρ A) : ∀ a ∈ A, ∃ u, H a = some u := by
  induction h with
  | nil => exact fun _ m => nomatch m
  | cons c r ih =>
    intro a m
    rcases List.mem_append.mp m with m | m
    · exact c.there a m
    · exact ih a m
theorem Cells.len {σ : St} {ρ : List Slot} {A : List Addr} (h : Cells K B G H σ ρ A) : σ.length = ρ.length := by
  induction h with
  | nil => rfl
  | cons c r ih => rw [List.length_cons, List.length_cons, ih]
/-- one cell of them, the rest apart -/
theorem Cells.get {σ : St} {ρ : List Slot} {A : List Addr} (h : Cells K B G H σ ρ A) : ∀ {i : Nat} {s : Slot}, ρ[i]? = some s → ∃ x A1, σ[i]? = some x ∧ Cell K B G H x s A1 ∧ A1.Sublist A := by
  induction h with
  | nil => exact fun e => nomatch e
  | cons c r ih =>
    intro i s e
    cases i with
    | zero =>
      simp at e
      subst e
      exact ⟨_, _, rfl, c, List.sublist_append_left _ _⟩
    | succ i =>
      obtain ⟨x, A1, h1, h2, h3⟩ := ih (i := i) (s := s) (by simpa using e)
      exact ⟨x, A1, by simpa using h1, h2, h3.trans (List.sublist_append_right _ _)⟩
/-- a cell put in the place of one of them -/
theorem Cells.set {σ : St} {ρ : List Slot} {A : List Addr} (h : Cells K B G H σ ρ A) {x : Option V} {s : Slot} {A1 : List Addr} (c : Cell K B G H x s A1) : ∀ {i : Nat}, i < ρ.length → ∃ A' C, Cells K B G H (σ.set i x) (ρ.set i s) A' ∧ A'.Perm (A1 ++ C) ∧ C.Sublist A := by
  induction h with
  | nil => exact fun e => absurd e (Nat.not_lt_zero _)
  | @cons x0 s0 A0 σ ρ A' c0 r ih =>
    intro i hi
    cases i with
    | zero => exact ⟨A1 ++ A', A', .cons c r, List.Perm.refl _, List.sublist_append_right _ _⟩
    | succ i =>
      obtain ⟨A2, C, h1, h2, h3⟩ := ih (i := i) (by simpa using hi)
      refine ⟨A0 ++ A2, A0 ++ C, .cons c0 h1, ?_, h3.append_left _⟩
      have e1 : (A0 ++ A2).Perm (A0 ++ (A1 ++ C)) := h2.append_left _
      have e2 : (A0 ++ (A1 ++ C)).Perm (A1 ++ (A0 ++ C)) := by
        rw [← List.append_assoc, ← List.append_assoc]
        exact List.perm_append_comm.append_right C
      exact e1.trans e2
/-- two cells: apart -/
theorem Cells.swap2 {σ : St} {ρ : List Slot} {A : List Addr} {x y : Option V} {s t : Slot} (h : Cells K B G H (x :: y :: σ) (s :: t :: ρ) A) : ∃ A', Cells K B G H (y :: x :: σ) (t :: s :: ρ) A' ∧ A'.Perm A := by
  cases h with
  | cons c r =>
    cases r with
    | cons d r =>
      refine ⟨_, .cons d (.cons c r), ?_⟩
      rw [← List.append_assoc, ← List.append_assoc]
      exact List.perm_append_comm.append_right _
end
/-- slots forgotten: each is as it was or nothing is known -/
def forgot : List Slot → List Bool → List Slot
  | [], _ => []
  | s :: ρ, [] => s :: ρ
  | s :: ρ, b :: bs => (if b then s else .non) :: forgot ρ bs
theorem Cells.forgot {K : PySem.W.Frag} {B : Base} {G H : Hp} : ∀ {σ : St} {ρ : List Slot} {A : List Addr} (bs : List Bool), Cells K B G H σ ρ A → ∃ A', Cells K B G H σ (forgot ρ bs) A' ∧ A'.Sublist A
  | _, _, _, _, .nil => ⟨[], .nil, List.Sublist.refl _⟩
  | _, _, _, [], .cons c r => ⟨_, .cons c r, List.Sublist.refl _⟩
  | _, _, _, true :: bs, .cons c r => by
    obtain ⟨A', h1, h2⟩ := Cells.forgot bs r
    exact ⟨_, .cons c h1, h2.append_left _⟩
  | _, _, _, false :: bs, .cons c r => by
    obtain ⟨A', h1, h2⟩ := Cells.forgot bs r
    exact ⟨_, .cons (s := .non) .non h1, h2.trans (List.sublist_append_right _ _)⟩
theorem forgot_len : ∀ (ρ : List Slot) (bs : List Bool), (forgot ρ bs).length = ρ.length
  | [], _ => rfl
  | _ :: _, [] => rfl
  | _ :: ρ, b :: bs => by rw [forgot, List.length_cons, List.length_cons, forgot_len ρ bs]
theorem forgot_get : ∀ (ρ : List Slot) (bs : List Bool) (i : Nat) (s : Slot), (forgot ρ bs)[i]? = some s → s = .non ∨ ρ[i]? = some s
  | [], _, _, _, e => nomatch e
  | _ :: _, [], _, _, e => .inr e
  | s0 :: ρ, b :: bs, 0, s, e => by
    cases b with
    | true => exact .inr e
    | false =>
      simp [forgot] at e
      exact .inl e.symm
  | s0 :: ρ, b :: bs, i + 1, s, e => by
    have e : (forgot ρ bs)[i]? = some s := by simpa [forgot] using e
    rcases forgot_get ρ bs i s e with h | h
    · exact .inl h
    · exact .inr (by simpa using h)

/-- going down from a value along places of lists -/
def At (H : Hp) : V → List Nat → V → Prop
  | v, [], w => v = w
  | v, k :: ks, w => ∃ a vs u, v = .ref a ∧ H a = some (.lst vs) ∧ vs[k]? = some u ∧ At H u ks w
theorem At.ex {H H' : Hp} (e : Ex H H') : ∀ {p : List Nat} {v w : V}, At H v p w → At H' v p w
  | [], _, _, h => h
  | _ :: _, _, _, ⟨a, vs, u, h1, h2, h3, h4⟩ => ⟨a, vs, u, h1, e _ _ h2, h3, At.ex e h4⟩

structure En (K : PySem.W.Frag) (B : Base) (G H : Hp) (σ : St) (ρ : List Slot) (ex : List (V × Slot)) : Prop where
  anc : Anc B G H
  own : ∃ A, Cells K B G H (ex.map (fun p => some p.1) ++ σ) (ex.map (·.2) ++ ρ) A ∧ A.Nodup ∧ ∀ a ∈ A, G a = none
  len : σ.length = ρ.length
  ali : ∀ (i j : Nat) (p : List Nat), ρ[i]? = some (Slot.ali j p) → ∃ v w, σ[i]? = some (some v) ∧ σ[j]? = some (some w) ∧ At H w p v
def noAli (j : Nat) : List Slot → Bool
  | [] => true
  | .ali i _ :: r => i != j && noAli j r
  | _ :: r => noAli j r
theorem noAli_get {j : Nat} : ∀ {ρ : List Slot}, noAli j ρ = true → ∀ {i k : Nat} {p : List Nat}, ρ[i]? = some (.ali k p) → k ≠ j
  | [], _, _, _, _, e => nomatch e
  | s :: ρ, h, 0, k, p, e => by
    simp at e
    subst e
    simp [noAli] at h
    exact h.1
  | s :: ρ, h, i + 1, k, p, e => by
    have h' : noAli j ρ = true := by
      cases s <;> simp [noAli] at h
      · exact h
      · exact h
      · exact h
      · exact h.2
    exact noAli_get h' (i := i) (by simpa using e)
section
variable {K : PySem.W.Frag} {B : Base} {G G' H H' : Hp} {σ : St} {ρ : List Slot} {ex : List (V × Slot)}
theorem En.fresh (E : En K B G H σ ρ ex) {p : Addr} (hp : H p = none) : B.H0 p = none := E.anc.fresh hp
theorem En.sub (E : En K B G H σ ρ ex) : Ex G H := E.anc.sub
theorem En.get (E : En K B G H σ ρ ex) {i : Nat} {d : D} (h : ρ[i]? = some (.val d)) : ∃ v, σ[i]? = some (some v) ∧ Rp K G v d := by
  obtain ⟨A, c, _, _⟩ := E.own
  obtain ⟨x, A1, h1, h2, _⟩ := c.get (i := ex.length + i) (s := .val d) (by
    rw [List.getElem?_append_right (by simp), List.length_map]
    simpa using h)
  rw [List.getElem?_append_right (by simp), List.length_map] at h1
  cases h2 with
  | val r => exact ⟨_, by simpa using h1, r⟩
/-- the top temp -/
theorem En.top {v : V} {d : D} (E : En K B G H σ ρ ((v, .val d) :: ex)) : Rp K G v d := by
  obtain ⟨A, c, _, _⟩ := E.own
  cases c with
  | cons c r =>
    cases c with
    | val h => exact h
theorem En.pop {x : V × Slot} (E : En K B G H σ ρ (x :: ex)) : En K B G H σ ρ ex := by
  obtain ⟨A, c, n, f⟩ := E.own
  cases c with
  | cons c r => exact ⟨E.anc, ⟨_, r, (List.nodup_append.mp n).2.1, fun a m => f a (List.mem_append_right _ m)⟩, E.len, E.ali⟩
theorem En.push {v : V} {d : D} (E : En K B G H σ ρ ex) (h : Rp K G v d) : En K B G H σ ρ ((v, .val d) :: ex) := by
  obtain ⟨A, c, n, f⟩ := E.own
  exact ⟨E.anc, ⟨[] ++ A, .cons (.val h) c, n, f⟩, E.len, E.ali⟩
/-- temps of data may come and go -/
theorem En.swap {x y : V × Slot} (E : En K B G H σ ρ (x :: y :: ex)) : En K B G H σ ρ (y :: x :: ex) := by
  obtain ⟨A, c, n, f⟩ := E.own
  obtain ⟨A', c', p⟩ := c.swap2
  exact ⟨E.anc, ⟨A', c', p.nodup_iff.mpr n, fun a m => f a (p.mem_iff.mp m)⟩, E.len, E.ali⟩
/-- a new thing that never changes -/
theorem En.new (E : En K B G H σ ρ ex) {p : Addr} (hp : H p = none) (o : HO) : En K B (upd G p o) (upd H p o) σ ρ ex := by
  obtain ⟨A, c, n, f⟩ := E.own
  have hG := E.sub.back hp
  refine ⟨E.anc.new hp o, ⟨A, c.ex (Ex.new hG) fun a m u e => Ex.new hp a u e, n, fun a m => ?_⟩, E.len, fun i j q e => ?_⟩
  · obtain ⟨u, hu⟩ := c.there a m
    rw [upd_ne (ne_of_none hu hp)]
    exact f a m
  · obtain ⟨v, w, h1, h2, h3⟩ := E.ali i j q e
    exact ⟨v, w, h1, h2, h3.ex (Ex.new hp)⟩
/-- a new list of data, owned -/
theorem En.newL (E : En K B G H σ ρ ex) {p : Addr} (hp : H p = none) {vs : List V} {ds : List D} (r : RpAll K G vs ds) : En K B G (upd H p (.lst vs)) σ ρ ((.ref p, .own 0 (.lst (ds.map OT.dat))) :: ex) := by
  obtain ⟨A, c, n, f⟩ := E.own
  have hG := E.sub.back hp
  have h0 := E.fresh hp
  have ra : ∀ {vs : List V} {ds : List D}, RpAll K G vs ds → OwnAll K G (upd H p (.lst vs)) vs (ds.map OT.dat) [] := fun {vs ds} r => by
    have gen : ∀ (H' : Hp) {vs : List V} {ds : List D}, RpAll K G vs ds → OwnAll K G H' vs (ds.map OT.dat) [] := fun H' {vs ds} r => by
      induction ds generalizing vs with
      | nil =>
        cases r
        exact .nil
      | cons d ds ih =>
        cases r with
        | cons h r => exact .cons (A := []) (.dat h) (ih r)
    exact gen _ r
  have hn : p ∉ A := fun m => by
    obtain ⟨u, hu⟩ := c.there p m
    rw [hu] at hp
    cases hp
  refine ⟨E.anc.put hG (.inr h0) _, ⟨p :: ([] ++ A), .cons (A := [p]) (.own (.lst upd_same (ra r)) (fun a m => by
      rw [List.mem_singleton.mp m]
      exact .inr h0) (.inl rfl)) (c.ex (Ex.refl G) fun a m u e => by
      rw [upd_ne (ne_of_none e hp)]
      exact e), ?_, fun a m => ?_⟩, E.len, fun i j q e => ?_⟩
  · exact List.nodup_cons.mpr ⟨hn, n⟩
  · rcases List.mem_cons.mp m with rfl | m
    · exact hG
    · exact f a m
  · obtain ⟨v, w, h1, h2, h3⟩ := E.ali i j q e
    exact ⟨v, w, h1, h2, h3.ex (Ex.new hp)⟩
/-- what is owned here becomes data -/
theorem En.frz {v : V} {o : OT} (E : En K B G H σ ρ ((v, .own 0 o) :: ex)) : ∃ G', Ex G G' ∧ En K B G' H σ ρ ((v, .val o.toD) :: ex) := by
  obtain ⟨A, c, n, f⟩ := E.own
  cases c with
  | @cons _ _ A1 _ _ A2 c r =>
    cases c with
    | own h l _ =>
      have n1 := List.nodup_append.mp n
      have hA : ∀ a ∈ A1, G a = none ∧ B.H0 a = none := fun a m => ⟨f a (List.mem_append_left _ m), (l a m).resolve_left (by rw [B.m0]; exact fun z => nomatch z)⟩
      have eG : Ex G fun a => if a ∈ A1 then H a else G a := fun a u e => by
        show (if a ∈ A1 then H a else G a) = _
        by_cases ha : a ∈ A1
        · rw [(hA a ha).1] at e
          cases e
        · rw [if_neg ha]
          exact e
      refine ⟨_, eG, E.anc.frz hA, ⟨[] ++ A2, .cons (.val (h.rp eG fun a m u e => by
          show (if a ∈ A1 then H a else G a) = _
          rw [if_pos m]
          exact e)) (r.ex eG fun _ _ _ e => e), n1.2.1, fun a m => ?_⟩, E.len, E.ali⟩
      have ha : a ∉ A1 := fun z => n1.2.2 a z a m rfl
      show (if a ∈ A1 then H a else G a) = _
      rw [if_neg ha]
      exact f a (List.mem_append_right _ m)
/-- the top temp goes into slot i -/
theorem En.set {v : V} {s : Slot} (E : En K B G H σ ρ [(v, s)]) {i : Nat} (hi : i < ρ.length) (hs : ∀ j p, s ≠ .ali j p) (ha : noAli i ρ = true) : En K B G H (σ.set i (some v)) (ρ.set i s) [] := by
  obtain ⟨A, c, n, f⟩ := E.own
  cases c with
  | @cons _ _ A1 _ _ A2 c r =>
    obtain ⟨A', C, h1, h2, h3⟩ := Cells.set r c hi
    have sub : (A1 ++ C).Sublist (A1 ++ A2) := h3.append_left A1
    refine ⟨E.anc, ⟨A', h1, h2.nodup_iff.mpr (sub.nodup n), fun a m => f a (sub.subset (h2.mem_iff.mp m))⟩, by rw [List.length_set, List.length_set]; exact E.len, fun k j p e => ?_⟩
    by_cases hk : i = k
    · subst hk
      rw [List.getElem?_set_self hi] at e
      cases e
      exact absurd rfl (hs j p)
    · rw [List.getElem?_set_ne hk] at e
      obtain ⟨v', w, q1, q2, q3⟩ := E.ali k j p e
      have hj := noAli_get ha e
      exact ⟨v', w, by rw [List.getElem?_set_ne hk]; exact q1, by rw [List.getElem?_set_ne (Ne.symm hj)]; exact q2, q3⟩
theorem En.forgot (E : En K B G H σ ρ []) (bs : List Bool) : En K B G H σ (forgot ρ bs) [] := by
  obtain ⟨A, c, n, f⟩ := E.own
  obtain ⟨A', h1, h2⟩ := Cells.forgot bs c
  refine ⟨E.anc, ⟨A', h1, h2.nodup n, fun a m => f a (h2.subset m)⟩, by rw [forgot_len]; exact E.len, fun i j p e => ?_⟩
  rcases forgot_get ρ bs i _ e with z | z
  · cases z
  · exact E.ali i j p z
end

/-! ### cells taken out and put back -/
section
variable {K : PySem.W.Frag} {B : Base} {G G' H H' : Hp}
theorem Cells.take1 {σ : L2.St} {ρ : List Slot} {A : List Addr} (h : Cells K B G H σ ρ A) : ∀ {i : Nat} {l : Nat} {o : OT}, ρ[i]? = some (.own l o) →
    ∃ v A1 A2, σ[i]? = some (some v) ∧ Own K G H v o A1 ∧ ((∀ a ∈ A1, a ∈ B.Mo l ∨ B.H0 a = none) ∧ (l = 0 ∨ B.pv l = some v)) ∧ Cells K B G H σ (ρ.set i .non) A2 ∧ A.Perm (A1 ++ A2) := by
  induction h with
  | nil => exact fun e => nomatch e
  | @cons x0 s0 A0 σ ρ A' c0 r ih =>
    intro i l o e
    cases i with
    | zero =>
      simp at e
      subst e
      cases c0 with
      | own hO hl hv => exact ⟨_, A0, [] ++ A', rfl, hO, ⟨hl, hv⟩, .cons (.non) r, List.Perm.refl _⟩
    | succ i =>
      obtain ⟨v, A1, A2, h1, h2, h3, h4, h5⟩ := ih (i := i) (l := l) (o := o) (by simpa using e)
      refine ⟨v, A1, A0 ++ A2, by simpa using h1, h2, h3, .cons c0 h4, ?_⟩
      have e1 : (A0 ++ A').Perm (A0 ++ (A1 ++ A2)) := h5.append_left _
      have e2 : (A0 ++ (A1 ++ A2)).Perm (A1 ++ (A0 ++ A2)) := by
        rw [← List.append_assoc, ← List.append_assoc]
        exact List.perm_append_comm.append_right A2
      exact e1.trans e2
theorem Cells.put1 {σ : L2.St} {ρ : List Slot} {A : List Addr} (h : Cells K B G H σ ρ A) : ∀ {i : Nat} {l : Nat} {o : OT} {v : V} {A1 : List Addr}, ρ[i]? = some .non → σ[i]? = some (some v) → Own K G H v o A1 → ((∀ a ∈ A1, a ∈ B.Mo l ∨ B.H0 a = none) ∧ (l = 0 ∨ B.pv l = some v)) →
    ∃ A2, Cells K B G H σ (ρ.set i (.own l o)) A2 ∧ A2.Perm (A1 ++ A) := by
  induction h with
  | nil => exact fun e => nomatch e
  | @cons x0 s0 A0 σ ρ A' c0 r ih =>
    intro i l o v A1 e e2 hO hl
    cases i with
    | zero =>
      simp at e
      subst e
      simp at e2
      subst e2
      cases c0
      exact ⟨A1 ++ A', .cons (.own hO hl.1 hl.2) r, by
        rw [List.nil_append]⟩
    | succ i =>
      obtain ⟨A2, h4, h5⟩ := ih (i := i) (l := l) (by simpa using e) (by simpa using e2) hO hl
      refine ⟨A0 ++ A2, .cons c0 h4, ?_⟩
      have e1 : (A0 ++ A2).Perm (A0 ++ (A1 ++ A')) := h5.append_left _
      have e2 : (A0 ++ (A1 ++ A')).Perm (A1 ++ (A0 ++ A')) := by
        rw [← List.append_assoc, ← List.append_assoc]
        exact List.perm_append_comm.append_right A'
      exact e1.trans e2
end
end DL

/-! DL3: the judgements; expressions -/
namespace DL
open PySem PySem.Spec L2

section
variable {X : Cx} {B : Base}
theorem PE_imp {e : Expr} {t t' : TE} (h : PE X e t) (k : ∀ σ H Q, t' σ H Q → t σ H Q) : PE X e t' := ⟨fun pins s σ H Q I q => h.run pins s σ H Q I (k σ H Q q)⟩
theorem PT_imp {e : Expr} {t t' : TT} (h : PT X e t) (k : ∀ σ H Q, t' σ H Q → t σ H Q) : PT X e t' := ⟨fun pins s σ H Q I q => h.run pins s σ H Q I (k σ H Q q)⟩
theorem PW_imp {e : Expr} {t t' : TT} (h : PW X e t) (k : ∀ σ H Q, t' σ H Q → t σ H Q) : PW X e t' := ⟨fun wh pins s σ H Q I q => h.run wh pins s σ H Q I (k σ H Q q)⟩
theorem PA_imp {e : List Expr} {t t' : TA} (h : PA X e t) (k : ∀ σ H Q, t' σ H Q → t σ H Q) : PA X e t' := ⟨fun pos pins s σ H Q I q => h.run pos pins s σ H Q I (k σ H Q q)⟩
theorem PS_imp {e : Stmt} {t t' : TS} (h : PS X e t) (k : ∀ D σ H, t' D σ H → t D σ H) : PS X e t' := ⟨fun pins s σ H D I q => h.run pins s σ H D I (k D σ H q)⟩
theorem PSs_imp {e : List Stmt} {t t' : TS} (h : PSs X e t) (k : ∀ D σ H, t' D σ H → t D σ H) : PSs X e t' := ⟨fun pins s σ H D I q => h.run pins s σ H D I (k D σ H q)⟩
end

/-- an expression: its mirror, the slot of its value, the slots behind it -/
def tJ (K : PySem.W.Frag) (B : Base) (ρ : List Slot) {β : Type} (m : R β) (sl : β → Slot) (ρ' : β → List Slot) : TE := fun σ H Q =>
  ∃ G, En K B G H σ ρ [] ∧ m.post (fun b => ∀ v G' H', Ex G G' → En K B G' H' σ (ρ' b) [(v, sl b)] → Q v H') B.rs
def JE (X : Cx) (B : Base) (ρ : List Slot) (e : Expr) {β : Type} (m : R β) (sl : β → Slot) (ρ' : β → List Slot) : Prop := PE X e (tJ X.K B ρ m sl ρ')
/-- one that changes nothing, fails never, and gives data -/
abbrev JP (X : Cx) (B : Base) (ρ : List Slot) (e : Expr) (d : D) : Prop := JE X B ρ e (.ok ()) (fun _ => .val d) (fun _ => ρ)
def tJT (K : PySem.W.Frag) (B : Base) (ρ : List Slot) {β : Type} (m : R β) (bn : β → Bool) (ρ' : β → List Slot) : TT := fun σ H Q =>
  ∃ G, En K B G H σ ρ [] ∧ m.post (fun b => ∀ G' H', Ex G G' → En K B G' H' σ (ρ' b) [] → Q (bn b) H') B.rs
def JT (X : Cx) (B : Base) (ρ : List Slot) (e : Expr) {β : Type} (m : R β) (bn : β → Bool) (ρ' : β → List Slot) : Prop := PT X e (tJT X.K B ρ m bn ρ')
def JW (X : Cx) (B : Base) (ρ : List Slot) (e : Expr) {β : Type} (m : R β) (bn : β → Bool) (ρ' : β → List Slot) : Prop := PW X e (tJT X.K B ρ m bn ρ')
abbrev TP0 (X : Cx) (B : Base) (ρ : List Slot) (e : Expr) (b : Bool) : Prop := JT X B ρ e (.ok ()) (fun _ => b) (fun _ => ρ)
/-- arguments: data, or an owned slot -/
inductive Ar where
  | val (d : D)
  | slot (i : Nat)
inductive ArOk (K : PySem.W.Frag) (G : Hp) (σ : L2.St) : List V → List Ar → Prop
  | nil : ArOk K G σ [] []
  | val {v : V} {d : D} {vs : List V} {as : List Ar} : Rp K G v d → ArOk K G σ vs as → ArOk K G σ (v :: vs) (.val d :: as)
  | slot {v : V} {i : Nat} {vs : List V} {as : List Ar} : σ[i]? = some (some v) → ArOk K G σ vs as → ArOk K G σ (v :: vs) (.slot i :: as)
theorem ArOk.ex {K : PySem.W.Frag} {G G' : Hp} {σ : L2.St} {vs : List V} {as : List Ar} (h : ArOk K G σ vs as) (e : Ex G G') : ArOk K G' σ vs as := by
  induction h with
  | nil => exact .nil
  | val h _ ih => exact .val (h.ex e) ih
  | slot h _ ih => exact .slot h ih
def tJA (K : PySem.W.Frag) (B : Base) (ρ : List Slot) {β : Type} (m : R β) (as : β → List Ar) (ρ' : β → List Slot) : TA := fun σ H Q =>
  ∃ G, En K B G H σ ρ [] ∧ m.post (fun b => ∀ vs G' H', Ex G G' → En K B G' H' σ (ρ' b) [] → ArOk K G' σ vs (as b) → Q vs H') B.rs
def JA (X : Cx) (B : Base) (ρ : List Slot) (es : List Expr) {β : Type} (m : R β) (as : β → List Ar) (ρ' : β → List Slot) : Prop := PA X es (tJA X.K B ρ m as ρ')

section
variable {X : Cx} {B : Base} {ρ : List Slot} {a b e : Expr} {pos : Pos}
theorem post_ok {α : Type} {x : α} {φ : α → Prop} {ψ : Exn → Prop} : (R.ok x).post φ ψ ↔ φ x := Iff.rfl

/-! ### names, constants -/
theorem jp_of {t : TE} {d : D} (h : PE X e t) (k : ∀ σ G H Q, En X.K B G H σ ρ [] → (∀ v G' H', Ex G G' → En X.K B G' H' σ ρ [(v, .val d)] → Q v H') → t σ H Q) : JP X B ρ e d :=
  PE_imp h fun σ H Q ⟨G, E, q⟩ => k σ G H Q E q
theorem jp_var (i : Nat) {x : Str} {d : D} (h : ρ[i]? = some (.val d) := by rfl) (hN : X.N[i]? = some x := by rfl) (hv : Vis X.env.scope x := by first | exact Or.inl rfl | exact Or.inr (Or.inl rfl) | exact Or.inr (Or.inr rfl))
    (hd : (x == ("__debug__" : Str)) = false := by decide) (hcd : (x == ("__classdict__" : Str)) = false := by decide) : JP X B ρ (.Name x pos) d :=
  jp_of (pv i hN hv hd hcd) fun σ G H Q E q => by
    obtain ⟨v, h1, h2⟩ := E.get h
    exact ⟨v, h1, q v G H (Ex.refl G) (E.push h2)⟩
theorem jp_int {i : Int} {j : Nat} : JP X B ρ (.Constant (.int i) j pos) (.int i) := jp_of pe_int fun σ G H Q E q => q _ G H (Ex.refl G) (E.push (.int i))
theorem jp_bl {b : Bool} {j : Nat} : JP X B ρ (.Constant (.bool b) j pos) (.bool b) := jp_of pe_bl fun σ G H Q E q => q _ G H (Ex.refl G) (E.push (.bl b))
theorem jp_non {j : Nat} : JP X B ρ (.Constant .none j pos) .none := jp_of pe_non fun σ G H Q E q => q _ G H (Ex.refl G) (E.push .non)
theorem jp_str {x : Str} {j : Nat} : JP X B ρ (.Constant (.str x) j pos) (.str x) := jp_of pe_str fun σ G H Q E q => q _ G H (Ex.refl G) (E.push (.str x))
/-- the result of an own expression, as data -/
theorem je_frz {β : Type} {m : R β} {o : β → OT} {ρ' : β → List Slot} (h : JE X B ρ e m (fun b => .own 0 (o b)) ρ') : JE X B ρ e m (fun b => .val (o b).toD) ρ' :=
  PE_imp h fun σ H Q ⟨G, E, q⟩ => ⟨G, E, R.post_mono q fun b k v G' H' x E' => by
    obtain ⟨G2, x2, E2⟩ := E'.frz
    exact k v G2 H' (x.trans x2) E2⟩
/-- the same mirror by another name -/
theorem je_eq {β : Type} {m m' : R β} {sl : β → Slot} {ρ' : β → List Slot} (h : JE X B ρ e m sl ρ') (k : m' = m) : JE X B ρ e m' sl ρ' := by
  rw [k]
  exact h

/-! ### operators by data -/
/-- what a two-place operation makes of data -/
def OpD (K : PySem.W.Frag) (B : Base) (r : R2) (x y : D) {γ : Type} (mr : R γ) (s : γ → Slot) : Prop :=
  ∀ G H σ ρ vx vy Q, En K B G H σ ρ [] → Rp K G vx x → Rp K G vy y → mr.post (fun z => ∀ v G' H', Ex G G' → En K B G' H' σ ρ [(v, s z)] → Q v H') B.rs → r vx vy H Q
theorem od_val {K : PySem.W.Frag} {r : R2} {x y z : D} {c : Prop} [Decidable c] {w : V} (h : c → ∀ G H vx vy Q, Ex G H → Rp K G vx x → Rp K G vy y → Q w H → r vx vy H Q) (hw : ∀ G, Rp K G w z) : OpD K B r x y (R.guard c) (fun _ => .val z) :=
  fun G H σ ρ vx vy Q E hx hy q => by
    obtain ⟨hc, q⟩ := R.post_guard q
    exact h hc G H vx vy Q E.sub hx hy (q w G H (Ex.refl G) (E.push (hw G)))
theorem od_val0 {K : PySem.W.Frag} {r : R2} {x y z : D} {w : V} (h : ∀ G H vx vy Q, Ex G H → Rp K G vx x → Rp K G vy y → Q w H → r vx vy H Q) (hw : ∀ G, Rp K G w z) : OpD K B r x y (.ok ()) (fun _ => .val z) :=
  fun G H σ ρ vx vy Q E hx hy q => h G H vx vy Q E.sub hx hy (q w G H (Ex.refl G) (E.push (hw G)))
def op2 {α β γ : Type} (ma : R α) (mb : α → R β) (mr : α → β → R γ) : R (α × β × γ) := ma.bind fun x => (mb x).bind fun y => (mr x y).bind fun z => .ok (x, y, z)
theorem je_op2 {r : R2} (ht : ∀ ta tb, PE X a ta → PE X b tb → PE X e (tOp r ta tb)) {α β γ : Type} {ma : R α} {mb : α → R β} {xa : α → D} {xb : α → β → D} {ρa : α → List Slot} {ρb : α → β → List Slot} {mr : α → β → R γ} {s : α → β → γ → Slot}
    (ha : JE X B ρ a ma (fun x => .val (xa x)) ρa) (hb : ∀ x, JE X B (ρa x) b (mb x) (fun y => .val (xb x y)) (ρb x)) (hr : ∀ x y, OpD X.K B r (xa x) (xb x y) (mr x y) (s x y)) :
    JE X B ρ e (op2 ma mb mr) (fun p => s p.1 p.2.1 p.2.2) (fun p => ρb p.1 p.2.1) := by
  have hb' : PE X b (fun σ H Q => ∃ x, tJ X.K B (ρa x) (mb x) (fun y => .val (xb x y)) (ρb x) σ H Q) := ⟨fun pins s σ H Q I ⟨x, q⟩ => (hb x).run pins s σ H Q I q⟩
  refine PE_imp (ht _ _ ha hb') fun σ H Q ⟨G, E, q⟩ => ?_
  refine ⟨G, E, R.post_mono (R.post_bind.mp q) fun x q1 vx G1 H1 x1 E1 => ?_⟩
  refine ⟨x, G1, E1.pop, R.post_mono (R.post_bind.mp q1) fun y q2 vy G2 H2 x2 E2 => ?_⟩
  exact hr x y G2 H2 σ (ρb x y) vx vy Q E2.pop (E1.top.ex x2) E2.top (R.post_mono (R.post_bind.mp q2) fun z q3 v G3 H3 x3 E3 => q3 v G3 H3 (x1.trans (x2.trans x3)) E3)
/-- both pure -/
theorem je_op {r : R2} (ht : ∀ ta tb, PE X a ta → PE X b tb → PE X e (tOp r ta tb)) {x y : D} {γ : Type} {mr : R γ} {s : γ → Slot} (ha : JP X B ρ a x) (hb : JP X B ρ b y) (hr : OpD X.K B r x y mr s) : JE X B ρ e mr s (fun _ => ρ) := by
  refine PE_imp (ht _ _ ha hb) fun σ H Q ⟨G, E, q⟩ => ?_
  refine ⟨G, E, fun vx G1 H1 x1 E1 => ?_⟩
  refine ⟨G1, E1.pop, fun vy G2 H2 x2 E2 => ?_⟩
  exact hr G2 H2 σ ρ vx vy Q E2.pop (E1.top.ex x2) E2.top (R.post_mono q fun z q v G3 H3 x3 E3 => q v G3 H3 (x1.trans (x2.trans x3)) E3)

/-! ### int operators -/
/-- what C's division does by itself -/
def divOk (i j : Int) : Prop := j ≠ 0 ∧ Builtin.divisionGoesByPylong i j = false
instance {i j : Int} : Decidable (divOk i j) := by unfold divOk; infer_instance
def powOk (i j : Int) : Prop := 0 ≤ j ∧ j ≤ 1000000 ∧ i.natAbs < 2 ^ 64
instance {i j : Int} : Decidable (powOk i j) := by unfold powOk; infer_instance
instance {i j : Int} : Decidable (CPow i j) := by unfold CPow; infer_instance
instance {i j : Int} : Decidable (CMulX i j) := by unfold CMulX; infer_instance
theorem op_fdivZ : OpR X (binaryOp .FloorDiv) (rI divOk fun i j => .int (i.fdiv j)) := opI fun i j _ _ _ _ _ hc q => PyProof.Rows.floordiv_int hc.1 q (.inl hc.2)
section
variable {K : PySem.W.Frag} {i j : Int}
theorem od_I0 {g : Int → Int → V} {z : D} (hz : ∀ G, Rp K G (g i j) z) : OpD K B (rI0 g) (.int i) (.int j) (.ok ()) (fun _ => .val z) :=
  od_val0 (fun G H vx vy Q _ hx hy q => ⟨i, j, hx.int_inv, hy.int_inv, q⟩) hz
theorem od_I {C : Int → Int → Prop} [Decidable (C i j)] {g : Int → Int → V} {z : D} (hz : ∀ G, Rp K G (g i j) z) : OpD K B (rI C g) (.int i) (.int j) (R.guard (C i j)) (fun _ => .val z) :=
  od_val (fun c G H vx vy Q _ hx hy q => ⟨i, j, hx.int_inv, hy.int_inv, c, q⟩) hz
theorem od_add : OpD K B (rI0 fun i j => .int (i + j)) (.int i) (.int j) (.ok ()) (fun _ => .val (.int (i + j))) := od_I0 fun _ => .int _
theorem od_sub : OpD K B (rI0 fun i j => .int (i - j)) (.int i) (.int j) (.ok ()) (fun _ => .val (.int (i - j))) := od_I0 fun _ => .int _
theorem od_mul : OpD K B (rI CMulX fun i j => .int (i * j)) (.int i) (.int j) (R.guard (CMulX i j)) (fun _ => .val (.int (i * j))) := od_I fun _ => .int _
theorem od_fdiv : OpD K B (rI divOk fun i j => .int (i.fdiv j)) (.int i) (.int j) (R.guard (divOk i j)) (fun _ => .val (.int (i.fdiv j))) := od_I fun _ => .int _
theorem od_mod : OpD K B (rI (fun _ j => j ≠ 0) fun i j => .int (i.fmod j)) (.int i) (.int j) (R.guard (j ≠ 0)) (fun _ => .val (.int (i.fmod j))) := od_I (C := fun _ j => j ≠ 0) fun _ => .int _
theorem od_pow : OpD K B (rI CPow fun i j => .int (i ^ j.toNat)) (.int i) (.int j) (R.guard (CPow i j)) (fun _ => .val (.int (i ^ j.toNat))) := od_I (C := CPow) (fun _ => .int _)
theorem od_lt : OpD K B (rI0 fun i j => .bl (decide (i < j))) (.int i) (.int j) (.ok ()) (fun _ => .val (.bool (decide (i < j)))) := od_I0 fun _ => .bl _
theorem od_le : OpD K B (rI0 fun i j => .bl (decide (i ≤ j))) (.int i) (.int j) (.ok ()) (fun _ => .val (.bool (decide (i ≤ j)))) := od_I0 fun _ => .bl _
theorem od_gt : OpD K B (rI0 fun i j => .bl (decide (j < i))) (.int i) (.int j) (.ok ()) (fun _ => .val (.bool (decide (j < i)))) := od_I0 fun _ => .bl _
theorem od_ge : OpD K B (rI0 fun i j => .bl (decide (j ≤ i))) (.int i) (.int j) (.ok ()) (fun _ => .val (.bool (decide (j ≤ i)))) := od_I0 fun _ => .bl _
/-- == of ints, of bools, of texts -/
theorem od_eqI : OpD K B rEq (.int i) (.int j) (.ok ()) (fun _ => .val (.bool (decide (i = j)))) := od_val0 (w := .bl (decide (i = j))) (fun G H vx vy Q _ hx hy q => by
  rw [hx.int_inv, hy.int_inv]
  refine ⟨rfl, ?_⟩
  rw [show decide (V.int i = V.int j) = decide (i = j) from decide_eq_decide.mpr ⟨fun h => V.int.inj h, fun h => by rw [h]⟩]
  exact q) fun _ => .bl _
theorem od_neI : OpD K B rNe (.int i) (.int j) (.ok ()) (fun _ => .val (.bool (!decide (i = j)))) := od_val0 (w := .bl (!decide (i = j))) (fun G H vx vy Q _ hx hy q => by
  rw [hx.int_inv, hy.int_inv]
  refine ⟨rfl, ?_⟩
  rw [show decide (V.int i = V.int j) = decide (i = j) from decide_eq_decide.mpr ⟨fun h => V.int.inj h, fun h => by rw [h]⟩]
  exact q) fun _ => .bl _
end
theorem jp_neg {i : Int} (ha : JP X B ρ a (.int i)) : JP X B ρ (.UnaryOp .USub a pos) (.int (-i)) :=
  jp_of (pe_un un_neg ha) fun σ G H Q E q => ⟨G, E, fun v G1 H1 x1 E1 => ⟨i, E1.top.int_inv, q _ G1 H1 x1 (E1.pop.push (.int _))⟩⟩
theorem je_neg {β : Type} {m : R β} {i : β → Int} {ρ' : β → List Slot} (ha : JE X B ρ a m (fun b => .val (.int (i b))) ρ') : JE X B ρ (.UnaryOp .USub a pos) m (fun b => .val (.int (-(i b)))) ρ' :=
  PE_imp (pe_un un_neg ha) fun σ H Q ⟨G, E, q⟩ => ⟨G, E, R.post_mono q fun b k v G1 H1 x1 E1 => ⟨i b, E1.top.int_inv, k _ G1 H1 x1 (E1.pop.push (.int _))⟩⟩

/-! ### tests -/
theorem jt_val {β : Type} {m : R β} {bn : β → Bool} {ρ' : β → List Slot} (h : JE X B ρ e m (fun b => .val (.bool (bn b))) ρ') (he : ∀ whole, isTrue e X.env whole = (do let v ← whole; standAt e.pos; holding [v] (truthy v)) := by intro _; rfl) : JT X B ρ e m bn ρ' :=
  PT_imp (pt_val h he) fun σ H Q ⟨G, E, q⟩ => ⟨G, E, R.post_mono q fun b k v G1 H1 x1 E1 => ⟨bn b, E1.top.bl_inv, k G1 H1 x1 E1.pop⟩⟩
theorem jt_not {β : Type} {m : R β} {bn : β → Bool} {ρ' : β → List Slot} (h : JT X B ρ a m bn ρ') : JT X B ρ (.UnaryOp .Not a pos) m (fun b => !bn b) ρ' :=
  PT_imp (pt_not h) fun σ H Q ⟨G, E, q⟩ => ⟨G, E, q⟩
theorem jt_w {β : Type} {m : R β} {bn : β → Bool} {ρ' : β → List Slot} (h : JW X B ρ e m bn ρ') : JT X B ρ e m bn ρ' := PW.pt h
variable {rest : List Expr}
theorem jw_and1 {β : Type} {m : R β} {bn : β → Bool} {ρ' : β → List Slot} (h : JT X B ρ a m bn ρ') : JW X B ρ (.BoolOp .And [a] pos) m bn ρ' := pw_and1 h
theorem jw_or1 {β : Type} {m : R β} {bn : β → Bool} {ρ' : β → List Slot} (h : JT X B ρ a m bn ρ') : JW X B ρ (.BoolOp .Or [a] pos) m bn ρ' := pw_or1 h
/-- pure ones -/
theorem tw_and {x y : Bool} (ha : TP0 X B ρ a x) (hb : JW X B ρ (.BoolOp .And (b :: rest) pos) (.ok ()) (fun _ => y) (fun _ => ρ)) : JW X B ρ (.BoolOp .And (a :: b :: rest) pos) (.ok ()) (fun _ => x && y) (fun _ => ρ) :=
  PW_imp (pw_and ha hb) fun σ H Q ⟨G, E, q⟩ => ⟨G, E, fun G1 H1 x1 E1 => by
    cases x with
    | true => exact ⟨G1, E1, fun G2 H2 x2 E2 => q G2 H2 (x1.trans x2) E2⟩
    | false => exact q G1 H1 x1 E1⟩
theorem tw_or {x y : Bool} (ha : TP0 X B ρ a x) (hb : JW X B ρ (.BoolOp .Or (b :: rest) pos) (.ok ()) (fun _ => y) (fun _ => ρ)) : JW X B ρ (.BoolOp .Or (a :: b :: rest) pos) (.ok ()) (fun _ => x || y) (fun _ => ρ) :=
  PW_imp (pw_or ha hb) fun σ H Q ⟨G, E, q⟩ => ⟨G, E, fun G1 H1 x1 E1 => by
    cases x with
    | false => exact ⟨G1, E1, fun G2 H2 x2 E2 => q G2 H2 (x1.trans x2) E2⟩
    | true => exact q G1 H1 x1 E1⟩
/-- the second part only where it is asked; nothing stored changes -/
def and2 {α : Type} (ma : R α) (xa : α → Bool) (mb : R Bool) : R Bool := ma.bind fun x => if xa x = true then mb else .ok false
def or2 {α : Type} (ma : R α) (xa : α → Bool) (mb : R Bool) : R Bool := ma.bind fun x => if xa x = true then .ok true else mb
theorem jw_and {α : Type} {ma : R α} {xa : α → Bool} {mb : R Bool} (ha : JT X B ρ a ma xa (fun _ => ρ)) (hb : JW X B ρ (.BoolOp .And (b :: rest) pos) mb (fun y => y) (fun _ => ρ)) : JW X B ρ (.BoolOp .And (a :: b :: rest) pos) (and2 ma xa mb) (fun y => y) (fun _ => ρ) :=
  PW_imp (pw_and ha hb) fun σ H Q ⟨G, E, q⟩ => ⟨G, E, R.post_mono (R.post_bind.mp q) fun x k G1 H1 x1 E1 => by
    cases hx : xa x with
    | true =>
      rw [if_pos hx] at k
      exact ⟨G1, E1, R.post_mono k fun b k G2 H2 x2 E2 => k G2 H2 (x1.trans x2) E2⟩
    | false =>
      rw [if_neg (by rw [hx]; decide)] at k
      exact k G1 H1 x1 E1⟩
theorem jw_or {α : Type} {ma : R α} {xa : α → Bool} {mb : R Bool} (ha : JT X B ρ a ma xa (fun _ => ρ)) (hb : JW X B ρ (.BoolOp .Or (b :: rest) pos) mb (fun y => y) (fun _ => ρ)) : JW X B ρ (.BoolOp .Or (a :: b :: rest) pos) (or2 ma xa mb) (fun y => y) (fun _ => ρ) :=
  PW_imp (pw_or ha hb) fun σ H Q ⟨G, E, q⟩ => ⟨G, E, R.post_mono (R.post_bind.mp q) fun x k G1 H1 x1 E1 => by
    cases hx : xa x with
    | false =>
      rw [if_neg (by rw [hx]; decide)] at k
      exact ⟨G1, E1, R.post_mono k fun b k G2 H2 x2 E2 => k G2 H2 (x1.trans x2) E2⟩
    | true =>
      rw [if_pos hx] at k
      exact k G1 H1 x1 E1⟩
/-- a test's outcome as the mirror's own result -/
theorem jt_map {β : Type} {m : R β} {bn : β → Bool} (h : JT X B ρ e m bn (fun _ => ρ)) : JT X B ρ e (m.bind fun b => .ok (bn b)) (fun y => y) (fun _ => ρ) :=
  PT_imp h fun σ H Q ⟨G, E, q⟩ => ⟨G, E, R.post_mono (R.post_bind.mp q) fun b k => k⟩
/-- and, or, not as values -/
theorem jp_one {op : PySem.BoolOp} {β : Type} {m : R β} {sl : β → Slot} {ρ' : β → List Slot} (h : JE X B ρ a m sl ρ') : JE X B ρ (.BoolOp op [a] pos) m sl ρ' := pe_one h
theorem jp_and {x y : Bool} (ha : JP X B ρ a (.bool x)) (hb : JP X B ρ (.BoolOp .And (b :: rest) pos) (.bool y)) : JP X B ρ (.BoolOp .And (a :: b :: rest) pos) (.bool (x && y)) :=
  jp_of (pe_and ha hb) fun σ G H Q E q => ⟨G, E, fun v G1 H1 x1 E1 => ⟨x, E1.top.bl_inv, by
    cases x with
    | true => exact ⟨G1, E1.pop, fun v G2 H2 x2 E2 => q v G2 H2 (x1.trans x2) E2⟩
    | false => exact q _ G1 H1 x1 (E1.pop.push (.bl false))⟩⟩
theorem jp_or {x y : Bool} (ha : JP X B ρ a (.bool x)) (hb : JP X B ρ (.BoolOp .Or (b :: rest) pos) (.bool y)) : JP X B ρ (.BoolOp .Or (a :: b :: rest) pos) (.bool (x || y)) :=
  jp_of (pe_or ha hb) fun σ G H Q E q => ⟨G, E, fun v G1 H1 x1 E1 => ⟨x, E1.top.bl_inv, by
    cases x with
    | false => exact ⟨G1, E1.pop, fun v G2 H2 x2 E2 => q v G2 H2 (x1.trans x2) E2⟩
    | true => exact q _ G1 H1 x1 (E1.pop.push (.bl true))⟩⟩
theorem je_and {α : Type} {ma : R α} {xa : α → Bool} {mb : R Bool} (ha : JE X B ρ a ma (fun x => .val (.bool (xa x))) (fun _ => ρ)) (hb : JE X B ρ (.BoolOp .And (b :: rest) pos) mb (fun y => .val (.bool y)) (fun _ => ρ)) : JE X B ρ (.BoolOp .And (a :: b :: rest) pos) (and2 ma xa mb) (fun y => .val (.bool y)) (fun _ => ρ) :=
  PE_imp (pe_and ha hb) fun σ H Q ⟨G, E, q⟩ => ⟨G, E, R.post_mono (R.post_bind.mp q) fun x k v G1 H1 x1 E1 => ⟨xa x, E1.top.bl_inv, by
    cases hx : xa x with
    | true =>
      rw [if_pos hx] at k
      exact ⟨G1, E1.pop, R.post_mono k fun b k v G2 H2 x2 E2 => k v G2 H2 (x1.trans x2) E2⟩
    | false =>
      rw [if_neg (by rw [hx]; decide)] at k
      exact k _ G1 H1 x1 (E1.pop.push (.bl false))⟩⟩
theorem je_or {α : Type} {ma : R α} {xa : α → Bool} {mb : R Bool} (ha : JE X B ρ a ma (fun x => .val (.bool (xa x))) (fun _ => ρ)) (hb : JE X B ρ (.BoolOp .Or (b :: rest) pos) mb (fun y => .val (.bool y)) (fun _ => ρ)) : JE X B ρ (.BoolOp .Or (a :: b :: rest) pos) (or2 ma xa mb) (fun y => .val (.bool y)) (fun _ => ρ) :=
  PE_imp (pe_or ha hb) fun σ H Q ⟨G, E, q⟩ => ⟨G, E, R.post_mono (R.post_bind.mp q) fun x k v G1 H1 x1 E1 => ⟨xa x, E1.top.bl_inv, by
    cases hx : xa x with
    | false =>
      rw [if_neg (by rw [hx]; decide)] at k
      exact ⟨G1, E1.pop, R.post_mono k fun b k v G2 H2 x2 E2 => k v G2 H2 (x1.trans x2) E2⟩
    | true =>
      rw [if_pos hx] at k
      exact k _ G1 H1 x1 (E1.pop.push (.bl true))⟩⟩
theorem je_map {β γ : Type} {m : R β} {sl : β → Slot} {sl' : γ → Slot} {f : β → γ} (h : JE X B ρ e m sl (fun _ => ρ)) (k : ∀ b, sl b = sl' (f b)) : JE X B ρ e (m.bind fun b => .ok (f b)) sl' (fun _ => ρ) :=
  PE_imp h fun σ H Q ⟨G, E, q⟩ => ⟨G, E, R.post_mono (R.post_bind.mp q) fun b q1 v G' H' x E' => q1 v G' H' x (by rw [← k b]; exact E')⟩
theorem je_not {β : Type} {m : R β} {bn : β → Bool} {ρ' : β → List Slot} (ha : JE X B ρ a m (fun b => .val (.bool (bn b))) ρ') : JE X B ρ (.UnaryOp .Not a pos) m (fun b => .val (.bool (!bn b))) ρ' :=
  PE_imp (pe_not ha) fun σ H Q ⟨G, E, q⟩ => ⟨G, E, R.post_mono q fun b k v G1 H1 x1 E1 => ⟨bn b, E1.top.bl_inv, k _ G1 H1 x1 (E1.pop.push (.bl _))⟩⟩
end
end DL

/-! DL4: calls of defs -/
namespace DL
open PySem PySem.Spec L2

def insAt : Nat → List Slot → List Ar → List Slot
  | _, _, [] => []
  | n, ρ, .val d :: as => .val d :: insAt (n + 1) ρ as
  | n, ρ, .slot i :: as => (match ρ[i]? with | some (.own _ o) => .own (n + 1) o | _ => .non) :: insAt (n + 1) (ρ.set i .non) as
def movedAt : List Slot → List Ar → List Slot
  | ρ, [] => ρ
  | ρ, .val _ :: as => movedAt ρ as
  | ρ, .slot i :: as => movedAt (ρ.set i .non) as
def relab : Slot → Option Slot → Slot
  | .own _ o, some (.own l _) => .own l o
  | _, _ => .non
def backAt (ρ0 : List Slot) : List Slot → List Ar → List Slot → List Slot
  | ρ, [], _ => ρ
  | ρ, _, [] => ρ
  | ρ, .val _ :: as, _ :: os => backAt ρ0 ρ as os
  | ρ, .slot i :: as, s :: os => backAt ρ0 (ρ.set i (relab s ρ0[i]?)) as os
def isOwn : Option Slot → Bool
  | some (.own _ _) => true
  | _ => false
def goodIn : List Slot → List Ar → Bool
  | _, [] => true
  | ρ, .val _ :: as => goodIn ρ as
  | ρ, .slot i :: as => isOwn ρ[i]? && goodIn (ρ.set i .non) as
def isOwnL (n : Nat) : Slot → Bool
  | .own l _ => l == n
  | _ => false
def goodOut : Nat → List Ar → List Slot → Bool
  | _, [], [] => true
  | n, .val _ :: as, _ :: os => goodOut (n + 1) as os
  | n, .slot _ :: as, s :: os => isOwnL (n + 1) s && goodOut (n + 1) as os
  | _, _, _ => false
def noSlots : List Ar → Bool
  | [] => true
  | .val _ :: as => noSlots as
  | .slot _ :: _ => false
def noAlis : List Slot → Bool
  | [] => true
  | .ali _ _ :: _ => false
  | _ :: r => noAlis r
theorem noAlis_get : ∀ {ρ : List Slot}, noAlis ρ = true → ∀ {i j : Nat} {p : List Nat}, ρ[i]? ≠ some (.ali j p)
  | [], _, _, _, _ => fun e => nomatch e
  | s :: ρ, h, 0, j, p => fun e => by
    simp at e
    subst e
    simp [noAlis] at h
  | s :: ρ, h, i + 1, j, p => fun e => by
    have h' : noAlis ρ = true := by
      cases s <;> simp [noAlis] at h <;> exact h
    exact noAlis_get h' (i := i) (j := j) (p := p) (by simpa using e)
section
variable {K : PySem.W.Frag} {B B' : Base} {G G' H H' : Hp}
theorem isOwn_inv {s : Option Slot} (h : isOwn s = true) : ∃ l o, s = some (.own l o) := by
  match s, h with
  | some (.own l o), _ => exact ⟨l, o, rfl⟩
theorem isOwnL_inv {n : Nat} {s : Slot} (h : isOwnL n s = true) : ∃ o, s = .own n o := by
  match s, h with
  | .own l o, h =>
    simp [isOwnL] at h
    subst h
    exact ⟨o, rfl⟩
/-- the arguments' cells, each with its places; the rest -/
theorem Cells.args {σ : L2.St} : ∀ {as : List Ar} {vs : List V} {ρ : List Slot} {A : List Addr} (n : Nat), Cells K B G H σ ρ A → ArOk K G σ vs as → goodIn ρ as = true →
    ∃ (As : List (List Addr)) (Ar' : List Addr), As.length = as.length ∧ (∀ B' : Base, (∀ k, B'.Mo (n + 1 + k) = As.getD k []) → (∀ k, B'.pv (n + 1 + k) = vs[k]?) → Cells K B' G H (vs.map some) (insAt n ρ as) As.flatten) ∧ Cells K B G H σ (movedAt ρ as) Ar' ∧ A.Perm (As.flatten ++ Ar') ∧
      ∀ (k i : Nat), as[k]? = some (.slot i) → ∃ l o, ρ[i]? = some (.own l o) ∧ (∀ a ∈ As.getD k [], a ∈ B.Mo l ∨ B.H0 a = none) ∧ ∀ v, σ[i]? = some (some v) → l = 0 ∨ B.pv l = some v
  | [], _, ρ, A, n, h, .nil, _ => ⟨[], A, rfl, fun _ _ _ => .nil, h, List.Perm.refl _, fun _ _ e => by simp at e⟩
  | .val d :: as, v :: vs, ρ, A, n, h, .val r q, g => by
    obtain ⟨As, A', h1, h2, h3, h4, h5⟩ := Cells.args (n + 1) h q (by simpa [goodIn] using g)
    refine ⟨[] :: As, A', by simp [h1], fun B' hB hP => ?_, h3, by simpa using h4, fun k i e => ?_⟩
    · exact .cons (A := []) (.val r) (h2 B' (fun k => by
        have := hB (k + 1)
        rw [show n + 1 + (k + 1) = n + 1 + 1 + k by omega] at this
        simpa using this) (fun k => by
        have := hP (k + 1)
        rw [show n + 1 + (k + 1) = n + 1 + 1 + k by omega] at this
        simpa using this))
    · cases k with
      | zero => simp at e
      | succ k =>
        obtain ⟨l, o, e1, e2⟩ := h5 k i (by simpa using e)
        exact ⟨l, o, e1, by simpa using e2.1, e2.2⟩
  | .slot j :: as, v :: vs, ρ, A, n, h, .slot e0 q, g => by
    simp [goodIn] at g
    obtain ⟨l, o, ho⟩ := isOwn_inv g.1
    obtain ⟨v', A1, A2, e1, hO, ⟨hl, hv⟩, c2, p⟩ := h.take1 ho
    have ev : v = v' := by
      have z := e0.symm.trans e1
      injection z with z
      injection z
    subst ev
    obtain ⟨As, A', h1, h2, h3, h4, h5⟩ := Cells.args (n + 1) c2 q g.2
    refine ⟨A1 :: As, A', by simp [h1], fun B' hB hP => ?_, h3, ?_, fun k i e => ?_⟩
    · have hins : insAt n ρ (.slot j :: as) = .own (n + 1) o :: insAt (n + 1) (ρ.set j .non) as := by
        show (match ρ[j]? with | some (.own _ o) => Slot.own (n + 1) o | _ => .non) :: _ = _
        rw [ho]
      rw [hins]
      refine .cons (A := A1) (.own hO (fun a m => .inl ?_) (.inr ?_)) (h2 B' (fun k => ?_) fun k => ?_)
      · have := hB 0
        simp at this
        rw [this]
        exact m
      · have := hP 0
        simpa using this
      · have := hB (k + 1)
        rw [show n + 1 + (k + 1) = n + 1 + 1 + k by omega] at this
        simpa using this
      · have := hP (k + 1)
        rw [show n + 1 + (k + 1) = n + 1 + 1 + k by omega] at this
        simpa using this
    · have := p.trans (h4.append_left A1)
      rw [← List.append_assoc] at this
      exact this
    · cases k with
      | zero =>
        simp at e
        subst e
        exact ⟨l, o, ho, by simpa using hl, fun w ew => by
          have z := e1.symm.trans ew
          injection z with z
          injection z with z
          rw [← z]
          exact hv⟩
      | succ k =>
        obtain ⟨l', o', q1, q2⟩ := h5 k i (by simpa using e)
        have hij : j ≠ i := fun z => by
          subst z
          by_cases hlt : j < ρ.length
          · rw [List.getElem?_set_self hlt] at q1
            cases q1
          · rw [List.getElem?_eq_none (by simpa using hlt)] at q1
            cases q1
        rw [List.getElem?_set_ne hij] at q1
        exact ⟨l', o', q1, by simpa using q2.1, q2.2⟩
theorem Cells.region {σ : L2.St} {ρ : List Slot} {A : List Addr} (h : Cells K B G H σ ρ A) : ∀ a ∈ A, (∃ l, a ∈ B.Mo l) ∨ B.H0 a = none := by
  induction h with
  | nil => exact fun _ m => nomatch m
  | cons c r ih =>
    intro a m
    rcases List.mem_append.mp m with m | m
    · cases c with
      | non => exact nomatch m
      | val _ => exact nomatch m
      | own _ hl _ => exact (hl a m).imp (fun z => ⟨_, z⟩) id
      | ali => exact nomatch m
    · exact ih a m
def slotsOf : List Ar → List Nat
  | [] => []
  | .val _ :: as => slotsOf as
  | .slot i :: as => i :: slotsOf as
theorem goodIn_nodup : ∀ {as : List Ar} {ρ : List Slot}, goodIn ρ as = true → (slotsOf as).Nodup ∧ ∀ i ∈ slotsOf as, isOwn ρ[i]? = true
  | [], _, _ => ⟨List.nodup_nil, fun _ m => nomatch m⟩
  | .val _ :: as, ρ, h => goodIn_nodup (as := as) (by simpa [goodIn] using h)
  | .slot j :: as, ρ, h => by
    simp [goodIn] at h
    obtain ⟨h1, h2⟩ := goodIn_nodup h.2
    have hj : ∀ i ∈ slotsOf as, i ≠ j := fun i m z => by
      subst z
      have := h2 i m
      by_cases hlt : i < ρ.length
      · rw [List.getElem?_set_self hlt] at this
        cases this
      · rw [List.getElem?_eq_none (by simpa using hlt)] at this
        cases this
    refine ⟨List.nodup_cons.mpr ⟨fun m => hj j m rfl, h1⟩, fun i m => ?_⟩
    rcases List.mem_cons.mp m with rfl | m
    · exact h.1
    · have := h2 i m
      rw [List.getElem?_set_ne (Ne.symm (hj i m))] at this
      exact this
theorem movedAt_len : ∀ (as : List Ar) (ρ : List Slot), (movedAt ρ as).length = ρ.length
  | [], _ => rfl
  | .val _ :: as, ρ => movedAt_len as ρ
  | .slot i :: as, ρ => by
    show (movedAt (ρ.set i .non) as).length = _
    rw [movedAt_len as, List.length_set]
theorem movedAt_get : ∀ {as : List Ar} {ρ : List Slot} {i : Nat}, i ∈ slotsOf as → i < ρ.length → (movedAt ρ as)[i]? = some .non
  | .val _ :: as, ρ, i, m, h => movedAt_get (as := as) (ρ := ρ) (by simpa [slotsOf] using m) h
  | .slot j :: as, ρ, i, m, h => by
    show (movedAt (ρ.set j .non) as)[i]? = _
    by_cases hi : i ∈ slotsOf as
    · exact movedAt_get hi (by simpa using h)
    · have e : i = j := by
        rcases List.mem_cons.mp m with e | m
        · exact e
        · exact absurd m hi
      subst e
      have keep : ∀ (as : List Ar) (ρ : List Slot), i ∉ slotsOf as → (movedAt ρ as)[i]? = ρ[i]? := by
        intro as
        induction as with
        | nil => intro ρ _; rfl
        | cons a as ih =>
          intro ρ hn
          cases a with
          | val d => exact ih ρ (by simpa [slotsOf] using hn)
          | slot k =>
            have hk : i ≠ k ∧ i ∉ slotsOf as := by simpa [slotsOf] using hn
            show (movedAt (ρ.set k .non) as)[i]? = _
            rw [ih _ hk.2, List.getElem?_set_ne (Ne.symm hk.1)]
      rw [keep as _ hi, List.getElem?_set_self h]
/-- the arguments' cells put back -/
theorem Cells.back {σ : L2.St} {G0 : Hp} (ρ0 : List Slot) : ∀ {as : List Ar} {vs : List V} {os ρ : List Slot} {A A' : List Addr} (n : Nat), ArOk K G0 σ vs as → Cells K B' G' H' (vs.map some) os A' → Cells K B G' H' σ ρ A → goodOut n as os = true →
    (slotsOf as).Nodup → (∀ i ∈ slotsOf as, ρ[i]? = some .non) → (∀ (k i : Nat), as[k]? = some (.slot i) → ∃ l o, ρ0[i]? = some (.own l o) ∧ (∀ a, (a ∈ B'.Mo (n + 1 + k) ∨ B'.H0 a = none) → a ∈ B.Mo l ∨ B.H0 a = none) ∧ ∀ v, σ[i]? = some (some v) → l = 0 ∨ B.pv l = some v) →
    ∃ A2 C, Cells K B G' H' σ (backAt ρ0 ρ as os) A2 ∧ A2.Perm (C ++ A) ∧ C.Sublist A'
  | [], _, os, ρ, A, A', n, .nil, _, h, _, _, _, _ => ⟨A, [], by rw [backAt]; exact h, List.Perm.refl _, List.nil_sublist _⟩
  | .val d :: as, v :: vs, os, ρ, A, A', n, .val r q, c, h, g, nd, hn, hl => by
    cases c with
    | @cons _ s A1 _ os A2 c1 cr =>
      obtain ⟨A3, C, h1, h2, h3⟩ := Cells.back ρ0 (n + 1) q cr h (by simpa [goodOut] using g) (by simpa [slotsOf] using nd) (by simpa [slotsOf] using hn) (fun k i e => by
        obtain ⟨l, o, e1, e2⟩ := hl (k + 1) i (by simpa using e)
        rw [show n + 1 + (k + 1) = n + 1 + 1 + k by omega] at e2
        exact ⟨l, o, e1, e2⟩)
      exact ⟨A3, C, by rw [backAt]; exact h1, h2, h3.trans (List.sublist_append_right _ _)⟩
  | .slot j :: as, v :: vs, os, ρ, A, A', n, .slot e0 q, c, h, g, nd, hn, hl => by
    cases c with
    | @cons _ s A1 _ os A2 c1 cr =>
      have g' : isOwnL (n + 1) s = true ∧ goodOut (n + 1) as os = true := by simpa [goodOut] using g
      obtain ⟨o, rfl⟩ := isOwnL_inv g'.1
      cases c1 with
      | own hO hr _ =>
        obtain ⟨l, o0, e1, e2, e3⟩ := hl 0 j rfl
        have hj : ρ[j]? = some .non := hn j (by simp [slotsOf])
        obtain ⟨A4, c4, p4⟩ := h.put1 (l := l) hj e0 hO ⟨fun a m => e2 a (by simpa using hr a m), e3 _ e0⟩
        have nd' : j ∉ slotsOf as ∧ (slotsOf as).Nodup := by simpa [slotsOf] using nd
        obtain ⟨A3, C, h1, h2, h3⟩ := Cells.back ρ0 (n + 1) q cr c4 g'.2 nd'.2 (fun i m => by
          have hij : j ≠ i := fun z => nd'.1 (z ▸ m)
          rw [List.getElem?_set_ne hij]
          exact hn i (by simp [slotsOf, m])) (fun k i e => by
          obtain ⟨l, o, e1, e2⟩ := hl (k + 1) i (by simpa using e)
          rw [show n + 1 + (k + 1) = n + 1 + 1 + k by omega] at e2
          exact ⟨l, o, e1, e2⟩)
        refine ⟨A3, A1 ++ C, ?_, ?_, h3.append_left A1⟩
        · rw [backAt, e1]
          exact h1
        · have p5 := h2.trans (p4.append_left C)
          refine p5.trans ?_
          rw [← List.append_assoc]
          exact List.perm_append_comm.append_right A
theorem backAt_len (ρ0 : List Slot) : ∀ (as : List Ar) (os ρ : List Slot), (backAt ρ0 ρ as os).length = ρ.length
  | [], _, _ => by rw [backAt]
  | .val _ :: _, [], _ => by rw [backAt]; exact fun h => nomatch h
  | .slot _ :: _, [], _ => by rw [backAt]; exact fun h => nomatch h
  | .val _ :: as, _ :: os, ρ => by
    rw [backAt]
    exact backAt_len ρ0 as os ρ
  | .slot i :: as, s :: os, ρ => by
    rw [backAt, backAt_len ρ0 as os, List.length_set]
end
/-- a def's promise by its mirror: how its arguments stand, its mirror, how its result and its owned arguments stand -/
def baseOf (H G : Hp) (As : List (List Addr)) (vs : List V) (rs : Exn → Prop) : Base := ⟨H, G, fun l => match l with | 0 => [] | n + 1 => As.getD n [], rfl, fun l => match l with | 0 => none | n + 1 => vs[n]?, rs⟩
def spM (K : PySem.W.Frag) {α β : Type} (ins : α → List Slot) (m : α → R β) (sl : β → Slot) (outs : β → List Slot) : Sp := fun vs H Q _ =>
  ∃ (a : α) (G : Hp) (As : List (List Addr)), En K (baseOf H G As vs fun _ => False) G H (vs.map some) (ins a) [] ∧
    (m a).post (fun b => ∀ v G' H', En K (baseOf H G As vs fun _ => False) G' H' (vs.map some) (outs b) [(v, sl b)] → Q v H') fun _ => False
/-- a result: data, or a new owned thing -/
def resOk : Slot → Bool
  | .val _ => true
  | .own 0 _ => true
  | _ => false
/-- no alias is met -/
def aliOk (ρ : List Slot) (as : List Ar) : Bool := noSlots as || noAlis ρ
theorem noSlots_As {K : PySem.W.Frag} {G : Hp} {σ : L2.St} : ∀ {as : List Ar}, noSlots as = true → slotsOf as = []
  | [], _ => rfl
  | .val _ :: as, h => noSlots_As (K := K) (G := G) (σ := σ) (as := as) h
theorem insAt_noAli : ∀ {as : List Ar} {n : Nat} {ρ : List Slot} {i j : Nat} {p : List Nat}, (insAt n ρ as)[i]? ≠ some (.ali j p)
  | [], n, ρ, i, j, p => fun e => nomatch e
  | .val d :: as, n, ρ, 0, j, p => fun e => by simp [insAt] at e
  | .val d :: as, n, ρ, i + 1, j, p => fun e => insAt_noAli (as := as) (n := n + 1) (ρ := ρ) (i := i) (j := j) (p := p) (by simpa [insAt] using e)
  | .slot k :: as, n, ρ, 0, j, p => fun e => by
    simp [insAt] at e
    split at e <;> cases e
  | .slot k :: as, n, ρ, i + 1, j, p => fun e => insAt_noAli (as := as) (n := n + 1) (ρ := ρ.set k .non) (i := i) (j := j) (p := p) (by simpa [insAt] using e)
theorem movedAt_noSlots : ∀ {as : List Ar} {ρ : List Slot}, noSlots as = true → movedAt ρ as = ρ
  | [], _, _ => rfl
  | .val _ :: as, ρ, h => movedAt_noSlots (as := as) h
theorem backAt_noSlots {ρ0 : List Slot} : ∀ {as : List Ar} {os ρ : List Slot}, noSlots as = true → backAt ρ0 ρ as os = ρ
  | [], _, _, _ => by rw [backAt]
  | .val _ :: as, [], _, _ => by rw [backAt]; exact fun h => nomatch h
  | .val _ :: as, _ :: os, ρ, h => by
    rw [backAt]
    exact backAt_noSlots (as := as) h
theorem backAt_noAlis {ρ0 : List Slot} : ∀ {as : List Ar} {os ρ : List Slot}, (∀ {i j : Nat} {p : List Nat}, ρ[i]? ≠ some (.ali j p)) → ∀ {i j : Nat} {p : List Nat}, (backAt ρ0 ρ as os)[i]? ≠ some (.ali j p)
  | [], _, _, h => by
    rw [backAt]
    exact h
  | .val _ :: _, [], _, h => by
    rw [backAt]
    exact h
    exact fun h => nomatch h
  | .slot _ :: _, [], _, h => by
    rw [backAt]
    exact h
    exact fun h => nomatch h
  | .val _ :: as, _ :: os, ρ, h => by
    rw [backAt]
    exact backAt_noAlis h
  | .slot k :: as, s :: os, ρ, h => by
    rw [backAt]
    refine backAt_noAlis fun {i j p} e => ?_
    by_cases hk : k = i
    · subst hk
      by_cases hlt : k < ρ.length
      · rw [List.getElem?_set_self hlt] at e
        have e : relab s ρ0[k]? = .ali j p := Option.some.inj e
        cases s <;> simp [relab] at e
        split at e <;> cases e
      · rw [List.getElem?_eq_none (by simpa using hlt)] at e
        cases e
    · rw [List.getElem?_set_ne hk] at e
      exact h e
theorem movedAt_noAlis : ∀ {as : List Ar} {ρ : List Slot}, (∀ {i j : Nat} {p : List Nat}, ρ[i]? ≠ some (.ali j p)) → ∀ {i j : Nat} {p : List Nat}, (movedAt ρ as)[i]? ≠ some (.ali j p)
  | [], _, h => h
  | .val _ :: as, ρ, h => movedAt_noAlis (as := as) h
  | .slot k :: as, ρ, h => movedAt_noAlis (as := as) (ρ := ρ.set k .non) fun {i j p} e => by
    by_cases hk : k = i
    · subst hk
      by_cases hlt : k < ρ.length
      · rw [List.getElem?_set_self hlt] at e
        cases e
      · rw [List.getElem?_eq_none (by simpa using hlt)] at e
        cases e
    · rw [List.getElem?_set_ne hk] at e
      exact h e
section
variable {K : PySem.W.Frag} {B : Base} {G H : Hp} {σ : L2.St} {ρ : List Slot} {as : List Ar} {vs : List V}
/-- THE CALL: what a caller must show, and what it has behind -/
theorem call_sp {α β : Type} {ins : α → List Slot} {m : α → R β} {sl : β → Slot} {outs : β → List Slot} {Q : VK} {E : XK} (a : α) (En0 : En K B G H σ ρ []) (ok : ArOk K G σ vs as) (hi : goodIn ρ as = true) (hins : insAt 0 ρ as = ins a)
    (ho : ∀ b, goodOut 0 as (outs b) = true) (hal : aliOk ρ as = true) (hres : ∀ b, resOk (sl b) = true) (hr : ∀ e, ¬ B.rs e)
    (q : (m a).post (fun b => ∀ v G' H', Ex G G' → En K B G' H' σ (backAt ρ (movedAt ρ as) as (outs b)) [(v, sl b)] → Q v H') B.rs) : spM K ins m sl outs vs H Q E := by
  obtain ⟨A, c, nd, f⟩ := En0.own
  obtain ⟨As, Ar', h1, h2, h3, h4, h5⟩ := Cells.args (as := as) 0 (show Cells K B G H σ ρ A from c) ok hi
  have nd2 := List.nodup_append.mp (h4.nodup_iff.mp nd)
  have fA : ∀ x ∈ As.flatten, G x = none := fun x m => f x (h4.mem_iff.mpr (List.mem_append_left _ m))
  have fR : ∀ x ∈ Ar', G x = none := fun x m => f x (h4.mem_iff.mpr (List.mem_append_right _ m))
  have mo : ∀ k, (baseOf H G As vs fun _ => False).Mo (0 + 1 + k) = As.getD k [] := fun k => by
    show (match 0 + 1 + k with | 0 => [] | n + 1 => As.getD n []) = _
    rw [show 0 + 1 + k = k + 1 by omega]
  have moIn : ∀ l x, x ∈ (baseOf H G As vs fun _ => False).Mo l → x ∈ As.flatten := fun l x m => by
    cases l with
    | zero => exact nomatch m
    | succ n =>
      have m : x ∈ As.getD n [] := m
      rw [List.getD_eq_getElem?_getD] at m
      cases e : As[n]? with
      | none =>
        rw [e] at m
        exact nomatch m
      | some L =>
        rw [e] at m
        exact List.mem_flatten.mpr ⟨L, List.mem_of_getElem? e, m⟩
  have cA := h2 (baseOf H G As vs fun _ => False) mo fun k => by
    show (match 0 + 1 + k with | 0 => none | n + 1 => vs[n]?) = _
    rw [show 0 + 1 + k = k + 1 by omega]
  have thA : ∀ x ∈ As.flatten, ∃ u, H x = some u := cA.there
  have thR : ∀ x ∈ Ar', ∃ u, H x = some u := h3.there
  refine ⟨a, G, As, ⟨⟨fun x o _ e => e, fun x l mx => ?_, Ex.refl G, fun x _ e => e, En0.sub⟩, ⟨_, by
      rw [← hins]
      exact cA, nd2.1, fA⟩, ?_, fun i j p e => ?_⟩, ?_⟩
  · obtain ⟨u, hu⟩ := thA x (moIn l x mx)
    rw [hu]
    exact fun z => nomatch z
  · rw [cA.len, hins]
  · rw [← hins] at e
    exact absurd e insAt_noAli
  · cases hm : m a with
    | bad =>
      rw [hm] at q
      exact q.elim
    | err e =>
      rw [hm] at q
      exact (hr e q).elim
    | ok b =>
      rw [hm] at q
      intro v G' H' E'
      have hG : Ex G G' := E'.anc.gsub
      refine q v G' H' hG ?_
      obtain ⟨A', c', n', f'⟩ := E'.own
      cases c' with
      | @cons _ _ A1 _ _ A2 cv cr =>
        have n1 := List.nodup_append.mp n'
        have keepH : ∀ x o, x ∉ As.flatten → H x = some o → H' x = some o := fun x o hx e => E'.anc.keep x o (fun l z => hx (moIn l x z)) e
        have reg : ∀ x ∈ A1 ++ A2, x ∈ As.flatten ∨ H x = none := fun x mx => by
          have := Cells.region (Cells.cons cv cr) x mx
          rcases this with ⟨l, z⟩ | z
          · exact .inl (moIn l x z)
          · exact .inr z
        have cR : Cells K B G' H' σ (movedAt ρ as) Ar' := h3.ex hG fun x mx u e => keepH x u (fun z => nd2.2.2 x z x mx rfl) e
        obtain ⟨gn1, gn2⟩ := goodIn_nodup hi
        obtain ⟨A3, C, b1, b2, b3⟩ := Cells.back (B := B) ρ (n := 0) ok cr cR (ho b) gn1 (fun i mi => movedAt_get mi (by
            have := gn2 i mi
            obtain ⟨l, o, e⟩ := isOwn_inv this
            exact (List.getElem?_eq_some_iff.mp e).1)) (fun k i e => by
            obtain ⟨l, o, e1, e2, e3⟩ := h5 k i e
            refine ⟨l, o, e1, fun x hx => ?_, e3⟩
            rcases hx with hx | hx
            · rw [mo] at hx
              exact e2 x hx
            · exact .inr (En0.fresh hx))
        have subC : (A1 ++ C).Sublist (A1 ++ A2) := b3.append_left A1
        have ndC : (A1 ++ C).Nodup := subC.nodup n'
        have dis : ∀ x ∈ A1 ++ A2, x ∉ Ar' := fun x mx mr => by
          rcases reg x mx with z | z
          · exact nd2.2.2 x z x mr rfl
          · obtain ⟨u, hu⟩ := thR x mr
            rw [hu] at z
            cases z
        have pA : (A1 ++ A3).Perm ((A1 ++ C) ++ Ar') := by
          rw [List.append_assoc]
          exact b2.append_left A1
        have cvB : Cell K B G' H' (some v) (sl b) A1 := by
          have cv2 : Cell K (baseOf H G As vs fun _ => False) G' H' (some v) (sl b) A1 := cv
          have hb := hres b
          revert cv2 hb
          generalize sl b = s
          intro cv2 hb
          cases cv2 with
          | non => exact .non
          | val h => exact .val h
          | @own _ l o _ hO hl _ =>
            cases l with
            | succ n => cases hb
            | zero =>
              refine .own hO (fun x mx => .inr (En0.fresh ?_)) (.inl rfl)
              rcases hl x mx with z | z
              · exact nomatch z
              · exact z
          | ali => exact .ali
        have lenEq : (backAt ρ (movedAt ρ as) as (outs b)).length = ρ.length := by rw [backAt_len, movedAt_len]
        have anc : Anc B G' H' := by
          refine ⟨fun x o hx e => ?_, fun x l hx => ?_, En0.anc.gsub.trans hG, fun x e1 e2 => ?_, E'.anc.sub⟩
          · have e1 := En0.anc.keep x o hx e
            refine keepH x o (fun z => ?_) e1
            rcases Cells.region (show Cells K B G H σ ρ A from c) x (h4.mem_iff.mpr (List.mem_append_left _ z)) with ⟨l, y⟩ | y
            · exact hx l y
            · rw [y] at e
              cases e
          · have e1 := En0.anc.there x l hx
            by_cases hxA : x ∈ As.flatten
            · obtain ⟨L, hL, mL⟩ := List.mem_flatten.mp hxA
              obtain ⟨k, hk⟩ := List.getElem?_of_mem hL
              refine E'.anc.there x (k + 1) ?_
              show x ∈ As.getD k []
              rw [List.getD_eq_getElem?_getD, hk]
              exact mL
            · cases e : H x with
              | none => exact absurd e e1
              | some o =>
                rw [keepH x o hxA e]
                exact fun z => nomatch z
          · refine E'.anc.gnew x ?_ (En0.anc.gnew x e1 e2)
            intro z
            exact e1 (En0.fresh z)
        refine ⟨anc, ⟨A1 ++ A3, .cons cvB b1, pA.nodup_iff.mpr (List.nodup_append.mpr ⟨ndC, nd2.2.1, fun x mx y my e => dis x (subC.subset mx) (e ▸ my)⟩), fun x mx => ?_⟩, by rw [lenEq]; exact En0.len, fun i j p e => ?_⟩
        · rcases List.mem_append.mp (pA.mem_iff.mp mx) with mx | mx
          · exact f' x (subC.subset mx)
          · refine E'.anc.gnew x ?_ (fR x mx)
            obtain ⟨u, hu⟩ := thR x mx
            show H x ≠ none
            rw [hu]
            exact fun z => nomatch z
        · cases hs : noSlots as with
          | false =>
            have hn : noAlis ρ = true := by
              unfold aliOk at hal
              rw [hs] at hal
              simpa using hal
            exact absurd e (backAt_noAlis (movedAt_noAlis (noAlis_get hn)))
          | true =>
            rw [backAt_noSlots hs, movedAt_noSlots hs] at e
            obtain ⟨v', w, q1, q2, q3⟩ := En0.ali i j p e
            refine ⟨v', w, q1, q2, q3.ex fun x o e => keepH x o (fun z => ?_) e⟩
            have hk : ∀ {as : List Ar} {As : List (List Addr)}, noSlots as = true → As.length = as.length → (∀ k : Nat, k < As.length → As.getD k [] = []) → As.flatten = [] := fun {as As} _ hl hk => by
              rw [List.flatten_eq_nil_iff]
              intro L hL
              obtain ⟨k, hk'⟩ := List.getElem?_of_mem hL
              have := hk k (List.getElem?_eq_some_iff.mp hk').1
              rw [List.getD_eq_getElem?_getD, hk'] at this
              exact this
            have vals : ∀ {as : List Ar} {vs : List V} {n : Nat} {ρ : List Slot} {A : List Addr} {B' : Base}, noSlots as = true → Cells K B' G H (vs.map some) (insAt n ρ as) A → A = [] := by
              intro as
              induction as with
              | nil =>
                intro vs n ρ A B' _ c
                cases vs with
                | nil =>
                  cases c
                  rfl
                | cons v vs => cases c
              | cons a as ih =>
                intro vs n ρ A B' hs c
                cases a with
                | slot i => cases hs
                | val d =>
                  cases vs with
                  | nil => cases c
                  | cons v vs =>
                    cases c with
                    | cons c r =>
                      cases c
                      exact ih hs r
            have := vals hs cA
            rw [this] at z
            exact nomatch z
end
/-! ### arguments -/
section
variable {X : Cx} {B : Base} {ρ : List Slot} {e : Expr} {es : List Expr} {pos : Pos}
theorem ja_nil : JA X B ρ [] (.ok ()) (fun _ => []) (fun _ => ρ) := PA_imp pa_nil fun σ H Q ⟨G, E, q⟩ => q [] G H (Ex.refl G) E .nil
theorem ja_p {d : D} {β : Type} {m : R β} {as : β → List Ar} {ρ' : β → List Slot} (h : JP X B ρ e d) (t : JA X B ρ es m as ρ') (hst : starEach (e :: es) X.env = (false, eval e X.env) :: starEach es X.env := by rfl) : JA X B ρ (e :: es) m (fun b => .val d :: as b) ρ' :=
  PA_imp (pa_cons h t hst) fun σ H Q ⟨G, E, q⟩ => ⟨G, E, fun v G1 H1 x1 E1 => ⟨G1, E1.pop, R.post_mono q fun b k vs G2 H2 x2 E2 ok => k _ G2 H2 (x1.trans x2) E2 (.val (E1.top.ex x2) ok)⟩⟩
theorem ja_e {α β : Type} {ma : R α} {xa : α → D} {ρa : α → List Slot} {mb : α → R β} {as : α → β → List Ar} {ρ' : α → β → List Slot} (h : JE X B ρ e ma (fun x => .val (xa x)) ρa) (t : ∀ x, JA X B (ρa x) es (mb x) (as x) (ρ' x)) (hst : starEach (e :: es) X.env = (false, eval e X.env) :: starEach es X.env := by rfl) :
    JA X B ρ (e :: es) (ma.bind fun x => (mb x).bind fun y => .ok (x, y)) (fun p => .val (xa p.1) :: as p.1 p.2) (fun p => ρ' p.1 p.2) := by
  have t' : PA X es (fun σ H Q => ∃ x, tJA X.K B (ρa x) (mb x) (as x) (ρ' x) σ H Q) := ⟨fun pos pins s σ H Q I ⟨x, q⟩ => (t x).run pos pins s σ H Q I q⟩
  exact PA_imp (pa_cons h t' hst) fun σ H Q ⟨G, E, q⟩ => ⟨G, E, R.post_mono (R.post_bind.mp q) fun x k v G1 H1 x1 E1 => ⟨x, G1, E1.pop, R.post_mono (R.post_bind.mp k) fun y k vs G2 H2 x2 E2 ok => k _ G2 H2 (x1.trans x2) E2 (.val (E1.top.ex x2) ok)⟩⟩
/-- an owned slot handed on -/
theorem ja_s (i : Nat) {x : Str} {β : Type} {m : R β} {as : β → List Ar} {ρ' : β → List Slot} (t : JA X B ρ es m as ρ') (h : isOwn ρ[i]? = true := by rfl) (hN : X.N[i]? = some x := by rfl) (hv : Vis X.env.scope x := by first | exact Or.inl rfl | exact Or.inr (Or.inl rfl) | exact Or.inr (Or.inr rfl))
    (hd : (x == ("__debug__" : Str)) = false := by decide) (hcd : (x == ("__classdict__" : Str)) = false := by decide) : JA X B ρ (.Name x pos :: es) m (fun b => .slot i :: as b) ρ' :=
  PA_imp (pa_cons (pv i hN hv hd hcd) t) fun σ H Q ⟨G, E, q⟩ => by
    obtain ⟨l, o, e⟩ := isOwn_inv h
    obtain ⟨A, c, _, _⟩ := E.own
    obtain ⟨v, _, _, e1, _⟩ := Cells.take1 (show Cells X.K B G H σ ρ A from c) e
    exact ⟨v, e1, G, E, R.post_mono q fun b k vs G2 H2 x2 E2 ok => k _ G2 H2 x2 E2 (.slot e1 ok)⟩
/-- data arguments -/
def arDs : List Ar → List D
  | [] => []
  | .val d :: as => d :: arDs as
  | .slot _ :: as => .none :: arDs as
theorem ArOk.ds {K : PySem.W.Frag} {G : Hp} {σ : L2.St} {vs : List V} {as : List Ar} (h : ArOk K G σ vs as) (hs : noSlots as = true) : RpAll K G vs (arDs as) := by
  induction h with
  | nil => exact .nil
  | val r _ ih => exact .cons r (ih hs)
  | slot _ _ _ => cases hs
/-! ### displays -/
theorem je_tup {x1 : Nat} {β : Type} {m : R β} {as : β → List Ar} {ρ' : β → List Slot} (h : JA X B ρ es m as ρ') (hs : ∀ b, noSlots (as b) = true := by intro _; rfl) (hl : ∀ b, (arDs (as b)).length ≤ 1000 := by intro _; exact of_decide_eq_true rfl) : JE X B ρ (.Tuple es x1 pos) m (fun b => .val (.tuple (arDs (as b)))) ρ' :=
  PE_imp (pe_tup h) fun σ H Q ⟨G, E, q⟩ => ⟨G, E, R.post_mono q fun b k vs G1 H1 x1 E1 ok => by
    have r := ok.ds (hs b)
    refine ⟨?_, fun p hp => k _ (upd G1 p (.tup vs)) _ (x1.trans (Ex.new (E1.sub.back hp))) ((E1.new hp _).push (.tup (.inl (.inl upd_same)) ?_))⟩
    · rw [r.len]
      exact Nat.le_of_lt (small1000 (hl b))
    · exact RpAll.ex (Ex.new (E1.sub.back hp)) r⟩
theorem je_lst {β : Type} {m : R β} {as : β → List Ar} {ρ' : β → List Slot} (h : JA X B ρ es m as ρ') (hs : ∀ b, noSlots (as b) = true := by intro _; rfl) (hl : ∀ b, (arDs (as b)).length ≤ 1000 := by intro _; exact of_decide_eq_true rfl) : JE X B ρ (.List es pos) m (fun b => .own 0 (.lst ((arDs (as b)).map OT.dat))) ρ' :=
  PE_imp (pe_lst h) fun σ H Q ⟨G, E, q⟩ => ⟨G, E, R.post_mono q fun b k vs G1 H1 x1 E1 ok => by
    have r := ok.ds (hs b)
    refine ⟨?_, fun p hp => k _ G1 _ x1 (E1.newL hp r)⟩
    rw [r.len]
    exact Nat.le_of_lt (small1000 (hl b))⟩
/-! ### calls -/
section
variable {CX : CXT} {k : Nat} {f : Addr} {fd : FuncData} {ps : List Str} {EE : XK} {x : Str} {p : Pos}
theorem je_call {α β γ : Type} {ins : α → List Slot} {mf : α → R β} {sl : β → Slot} {outs : β → List Slot} (F : FnG X.prog X.w X.K X.mg X.base CX k f fd ps (spM X.K ins mf sl outs)) (hr : RoomG k X.A) (hg : Gl X x) (hm : X.mg x = some (.ref f)) (hk : PySem.W.keepIn X.K (.ref f) = true)
    (hb : Binds X.K fd ps []) (hx : Passes CX X EE) {ma : R γ} {as : γ → List Ar} {ρa : γ → List Slot} (arg : γ → α) (ha : JA X B ρ (e :: es) ma as ρa) (hne : ∀ e, ¬ B.rs e) (hi : ∀ c, goodIn (ρa c) (as c) = true := by intro _; rfl) (hins : ∀ c, insAt 0 (ρa c) (as c) = ins (arg c) := by intro _; rfl)
    (ho : ∀ c b, goodOut 0 (as c) (outs b) = true := by intro _ _; rfl) (hal : ∀ c, aliOk (ρa c) (as c) = true := by intro _; rfl) (hres : ∀ b, resOk (sl b) = true := by intro _; rfl)
    (hdb : (x == ("__debug__" : Str)) = false := by decide) (he : starEach (e :: es) X.env = (false, eval e X.env) :: starEach es X.env := by rfl) (hpl : (backTo pos (starEach es X.env)).any (·.1) = false := by rfl) :
    JE X B ρ (.Call (.Name x p) (e :: es) [] pos) (ma.bind fun c => (mf (arg c)).bind fun b => .ok (c, b)) (fun y => sl y.2) (fun y => backAt (ρa y.1) (movedAt (ρa y.1) (as y.1)) (as y.1) (outs y.2)) :=
  PE_imp (pe_callG F hr hg hm hk hb hx ha hdb he hpl) fun σ H Q ⟨G, E, q⟩ => ⟨G, E, R.post_mono (R.post_bind.mp q) fun c k vs G1 H1 x1 E1 ok => by
    show spM X.K ins mf sl outs (vs ++ []) H1 Q EE
    rw [List.append_nil]
    exact call_sp (arg c) E1 ok (hi c) (hins c) (ho c) (hal c) hres hne (R.post_mono (R.post_bind.mp k) fun b k v G2 H2 x2 E2 => k v G2 H2 (x1.trans x2) E2)⟩
/-- its arguments pure -/
theorem je_callP {α β : Type} {ins : α → List Slot} {mf : α → R β} {sl : β → Slot} {outs : β → List Slot} (F : FnG X.prog X.w X.K X.mg X.base CX k f fd ps (spM X.K ins mf sl outs)) (hr : RoomG k X.A) (hg : Gl X x) (hm : X.mg x = some (.ref f)) (hk : PySem.W.keepIn X.K (.ref f) = true)
    (hb : Binds X.K fd ps []) (hx : Passes CX X EE) {as : List Ar} (arg : α) (ha : JA X B ρ (e :: es) (.ok ()) (fun _ => as) (fun _ => ρ)) (hne : ∀ e, ¬ B.rs e) (hi : goodIn ρ as = true := by rfl) (hins : insAt 0 ρ as = ins arg := by rfl)
    (ho : ∀ b, goodOut 0 as (outs b) = true := by intro _; rfl) (hal : aliOk ρ as = true := by rfl) (hres : ∀ b, resOk (sl b) = true := by intro _; rfl)
    (hdb : (x == ("__debug__" : Str)) = false := by decide) (he : starEach (e :: es) X.env = (false, eval e X.env) :: starEach es X.env := by rfl) (hpl : (backTo pos (starEach es X.env)).any (·.1) = false := by rfl) :
    JE X B ρ (.Call (.Name x p) (e :: es) [] pos) (mf arg) sl (fun y => backAt ρ (movedAt ρ as) as (outs y)) :=
  PE_imp (pe_callG F hr hg hm hk hb hx ha hdb he hpl) fun σ H Q ⟨G, E, q⟩ => ⟨G, E, fun vs G1 H1 x1 E1 ok => by
    show spM X.K ins mf sl outs (vs ++ []) H1 Q EE
    rw [List.append_nil]
    exact call_sp arg E1 ok hi hins ho hal hres hne (R.post_mono q fun b k v G2 H2 x2 E2 => k v G2 H2 (x1.trans x2) E2)⟩
end
end
end DL

/-! DL5: statements, loops -/
namespace DL
open PySem PySem.Spec L2

inductive Fl (N L T : Type) where
  | nx (n : N)
  | ct (l : L)
  | bk (l : L)
  | rt (t : T)
/-- how the ways out stand -/
structure Fin (N L T : Type) where
  n : N → List Slot
  c : L → List Slot
  k : L → List Slot
  s : T → Slot
  t : T → List Slot
def flP (K : PySem.W.Frag) (B : Base) (G : Hp) (D : Ends) {N L T : Type} (F : Fin N L T) : Fl N L T → Prop
  | .nx n => ∀ σ' G' H', Ex G G' → En K B G' H' σ' (F.n n) [] → D.nx σ' H'
  | .ct l => ∀ σ' G' H', Ex G G' → En K B G' H' σ' (F.c l) [] → D.ct σ' H'
  | .bk l => ∀ σ' G' H', Ex G G' → En K B G' H' σ' (F.k l) [] → D.bk σ' H'
  | .rt t => ∀ v σ' G' H', Ex G G' → En K B G' H' σ' (F.t t) [(v, F.s t)] → D.rt v H'
def tJS (K : PySem.W.Frag) (B : Base) (ρ : List Slot) {N L T : Type} (m : R (Fl N L T)) (F : Fin N L T) : TS := fun D σ H =>
  ∃ G, En K B G H σ ρ [] ∧ m.post (flP K B G D F) B.rs
def JS (X : Cx) (B : Base) (ρ : List Slot) (st : Stmt) {N L T : Type} (m : R (Fl N L T)) (F : Fin N L T) : Prop := PS X st (tJS X.K B ρ m F)
def JSs (X : Cx) (B : Base) (ρ : List Slot) (sts : List Stmt) {N L T : Type} (m : R (Fl N L T)) (F : Fin N L T) : Prop := PSs X sts (tJS X.K B ρ m F)
/-- a statement that just goes on -/
def tJ1 (K : PySem.W.Frag) (B : Base) (ρ : List Slot) {β : Type} (m : R β) (ρ' : β → List Slot) : TS := fun D σ H =>
  ∃ G, En K B G H σ ρ [] ∧ m.post (fun b => ∀ σ' G' H', Ex G G' → En K B G' H' σ' (ρ' b) [] → D.nx σ' H') B.rs
def J1 (X : Cx) (B : Base) (ρ : List Slot) (st : Stmt) {β : Type} (m : R β) (ρ' : β → List Slot) : Prop := PS X st (tJ1 X.K B ρ m ρ')
def bindF {N1 N L T : Type} (m : R (Fl N1 L T)) (k : N1 → R (Fl N L T)) : R (Fl N L T) := m.bind fun
  | .nx n => k n
  | .ct l => .ok (.ct l)
  | .bk l => .ok (.bk l)
  | .rt t => .ok (.rt t)
theorem flP_ex {K : PySem.W.Frag} {B : Base} {G G1 : Hp} {D : Ends} {N L T : Type} {F : Fin N L T} {f : Fl N L T} (h : flP K B G D F f) (e : Ex G G1) : flP K B G1 D F f := by
  cases f with
  | nx n => exact fun σ' G' H' x E => h σ' G' H' (e.trans x) E
  | ct n => exact fun σ' G' H' x E => h σ' G' H' (e.trans x) E
  | bk n => exact fun σ' G' H' x E => h σ' G' H' (e.trans x) E
  | rt n => exact fun v σ' G' H' x E => h v σ' G' H' (e.trans x) E
section
variable {X : Cx} {B : Base} {ρ : List Slot} {st : Stmt} {rest : List Stmt} {N N1 L T β : Type} {F : Fin N L T} {pos : Pos} {e : Expr}
theorem js_nil (bs : List Bool) (n : N) (h : forgot ρ bs = F.n n := by rfl) : JSs X B ρ [] (.ok (.nx n)) F :=
  PSs_imp pss_nil fun D σ H ⟨G, E, q⟩ => q σ G H (Ex.refl G) (by
    rw [← h]
    exact E.forgot bs)
theorem js_one {m : R (Fl N L T)} (h : JS X B ρ st m F) : JSs X B ρ [st] m F := pss_one h
theorem js_cons1 {m : R β} {ρ' : β → List Slot} {k : β → R (Fl N L T)} (h : J1 X B ρ st m ρ') (r : ∀ b, JSs X B (ρ' b) rest (k b) F) : JSs X B ρ (st :: rest) (m.bind k) F := by
  have r' : PSs X rest (fun D σ H => ∃ b, tJS X.K B (ρ' b) (k b) F D σ H) := ⟨fun pins s σ H D I ⟨b, q⟩ => (r b).run pins s σ H D I q⟩
  exact PSs_imp (pss_cons h r') fun D σ H ⟨G, E, q⟩ => ⟨G, E, R.post_mono (R.post_bind.mp q) fun b q1 σ' G' H' x E' => ⟨b, G', E', R.post_mono q1 fun f q2 => flP_ex q2 x⟩⟩
theorem js_cons {m : R (Fl N1 L T)} {ρ1 : N1 → List Slot} {k : N1 → R (Fl N L T)} (h : JS X B ρ st m ⟨ρ1, F.c, F.k, F.s, F.t⟩) (r : ∀ n, JSs X B (ρ1 n) rest (k n) F) : JSs X B ρ (st :: rest) (bindF m k) F := by
  have r' : PSs X rest (fun D σ H => ∃ b, tJS X.K B (ρ1 b) (k b) F D σ H) := ⟨fun pins s σ H D I ⟨b, q⟩ => (r b).run pins s σ H D I q⟩
  exact PSs_imp (pss_cons h r') fun D σ H ⟨G, E, q⟩ => ⟨G, E, R.post_mono (R.post_bind.mp q) fun f q1 => by
    cases f with
    | nx n => exact fun σ' G' H' x E' => ⟨n, G', E', R.post_mono q1 fun f q2 => flP_ex q2 x⟩
    | ct n => exact q1
    | bk n => exact q1
    | rt n => exact q1⟩
theorem js_ret {m : R β} {sl : β → Slot} {ρ' : β → List Slot} (f : β → T) (bs : List Bool) (h : JE X B ρ e m sl ρ') (hs : ∀ b, F.s (f b) = sl b := by intro _; rfl) (ht : ∀ b, forgot (ρ' b) bs = F.t (f b) := by intro _; rfl) : JS X B ρ (.Return (some e) pos) (m.bind fun b => .ok (.rt (f b))) F :=
  PS_imp (ps_ret h) fun D σ H ⟨G, E, q⟩ => ⟨G, E, R.post_mono (R.post_bind.mp q) fun b q1 v G' H' x E' => q1 v σ G' H' x (by
    rw [hs b, ← ht b]
    obtain ⟨A, c, nd, f'⟩ := E'.own
    cases c with
    | @cons _ _ A1 _ _ A2 c1 cr =>
      obtain ⟨A3, h1, h2⟩ := Cells.forgot bs (show Cells X.K B G' H' σ (ρ' b) A2 from cr)
      have sub : (A1 ++ A3).Sublist (A1 ++ A2) := h2.append_left A1
      refine ⟨E'.anc, ⟨A1 ++ A3, .cons c1 h1, sub.nodup nd, fun a m => f' a (sub.subset m)⟩, by rw [forgot_len]; exact E'.len, fun i j p e => ?_⟩
      rcases forgot_get (ρ' b) bs i _ e with z | z
      · cases z
      · exact E'.ali i j p z)⟩
theorem js_if {c : Expr} {a b : List Stmt} {mc : R β} {bn : β → Bool} {ρ' : β → List Slot} {ma mb : β → R (Fl N L T)} (h : JT X B ρ c mc bn ρ') (ha : ∀ x, JSs X B (ρ' x) a (ma x) F) (hb : ∀ x, JSs X B (ρ' x) b (mb x) F) :
    JS X B ρ (.If c a b pos) (mc.bind fun x => if bn x = true then ma x else mb x) F := by
  have ha' : PSs X a (fun D σ H => ∃ x, tJS X.K B (ρ' x) (ma x) F D σ H) := ⟨fun pins s σ H D I ⟨x, q⟩ => (ha x).run pins s σ H D I q⟩
  have hb' : PSs X b (fun D σ H => ∃ x, tJS X.K B (ρ' x) (mb x) F D σ H) := ⟨fun pins s σ H D I ⟨x, q⟩ => (hb x).run pins s σ H D I q⟩
  refine PS_imp (ps_if h ha' hb') fun D σ H ⟨G, E, q⟩ => ⟨G, E, R.post_mono (R.post_bind.mp q) fun x q1 G' H' y E' => ?_⟩
  cases hx : bn x with
  | true =>
    rw [if_pos hx] at q1
    exact ⟨x, G', E', R.post_mono q1 fun f q2 => flP_ex q2 y⟩
  | false =>
    rw [if_neg (by rw [hx]; decide)] at q1
    exact ⟨x, G', E', R.post_mono q1 fun f q2 => flP_ex q2 y⟩
/-- the test pure -/
theorem js_ifP {c : Expr} {a b : List Stmt} {t : Bool} {ma mb : R (Fl N L T)} (h : TP0 X B ρ c t) (ha : JSs X B ρ a ma F) (hb : JSs X B ρ b mb F) : JS X B ρ (.If c a b pos) (if t = true then ma else mb) F :=
  js_if (mc := .ok ()) (bn := fun _ => t) (ma := fun _ => ma) (mb := fun _ => mb) h (fun _ => ha) fun _ => hb
theorem js_break {F : Fin N L T} (bs : List Bool) (l : L) (h : forgot ρ bs = F.k l := by rfl) : JS X B ρ (.Break pos) (.ok (.bk l)) F :=
  PS_imp ps_break fun D σ H ⟨G, E, q⟩ => q σ G H (Ex.refl G) (by
    rw [← h]
    exact E.forgot bs)
theorem js_continue {F : Fin N L T} (bs : List Bool) (l : L) (h : forgot ρ bs = F.c l := by rfl) : JS X B ρ (.Continue pos) (.ok (.ct l)) F :=
  PS_imp ps_continue fun D σ H ⟨G, E, q⟩ => q σ G H (Ex.refl G) (by
    rw [← h]
    exact E.forgot bs)
theorem j1_pass : J1 X B ρ (.Pass pos) (.ok ()) (fun _ => ρ) := PS_imp ps_pass fun D σ H ⟨G, E, q⟩ => q σ G H (Ex.refl G) E
theorem j1_expr {m : R β} {sl : β → Slot} {ρ' : β → List Slot} (h : JE X B ρ e m sl ρ') (hs : swapsWith e none pos.line X.env = pure false := by rfl) : J1 X B ρ (.Expr e pos) m ρ' :=
  PS_imp (ps_expr h hs) fun D σ H ⟨G, E, q⟩ => ⟨G, E, R.post_mono q fun b q1 v G' H' x E' => q1 σ G' H' x E'.pop⟩
/-- x = e -/
theorem j1_set (i : Nat) {x : Str} {pos' : Pos} {m : R β} {sl : β → Slot} {ρ' : β → List Slot} (hN : X.N.Nodup) (h : JE X B ρ e m sl ρ') (hi : X.N[i]? = some x := by rfl) (hx : Loc X.env.scope x := by first | exact Or.inl rfl | exact Or.inr rfl)
    (hlt : ∀ b, i < (ρ' b).length := by intro _; exact of_decide_eq_true rfl) (hal : ∀ b, noAli i (ρ' b) = true := by intro _; rfl) (hres : ∀ b, resOk (sl b) = true := by intro _; rfl)
    (hs : swapsWith e (some (.Name x pos')) pos.line X.env = pure false := by rfl) (hf : X.fn x = true ∨ X.env.scope.names.lookup x = some .local := by first | exact .inl rfl | exact .inr rfl) : J1 X B ρ (.Assign [.Name x pos'] e pos) m (fun b => (ρ' b).set i (sl b)) :=
  PS_imp (ps_set (i := i) hN hi hx h (hs := hs) (hf := hf)) fun D σ H ⟨G, E, q⟩ => ⟨G, E, R.post_mono q fun b q1 v G' H' x E' => q1 (σ.set i (some v)) G' H' x (E'.set (hlt b) (fun j p z => by
    have := hres b
    rw [z] at this
    cases this) (hal b))⟩
end
end DL

/-! DL6: targets, loops -/
namespace DL
open PySem PySem.Spec L2

section
variable {K : PySem.W.Frag} {B : Base} {G G' H H' : Hp} {σ : L2.St} {ρ : List Slot} {ex : List (V × Slot)}
/-- an owned list of data, changed to another one of data -/
theorem own_dats : ∀ {vs : List V} {ds : List D}, RpAll K G vs ds → OwnAll K G H vs (ds.map OT.dat) []
  | _, _, .nil => .nil
  | _, _, .cons h r => .cons (A := []) (A' := []) (.dat h) (own_dats r)
theorem own_dats_inv : ∀ {vs : List V} {ds : List D} {A : List Addr}, OwnAll K G H vs (ds.map OT.dat) A → A = [] ∧ RpAll K G vs ds
  | _, [], _, h => by
    cases h
    exact ⟨rfl, .nil⟩
  | _, d :: ds, _, h => by
    cases h with
    | cons h r =>
      cases h with
      | dat h =>
        obtain ⟨e, r⟩ := own_dats_inv r
        exact ⟨by rw [e]; rfl, .cons h r⟩
theorem En.ownD (E : En K B G H σ ρ ex) {i l : Nat} {ds : List D} (h : ρ[i]? = some (.own l (.lst (ds.map OT.dat)))) (hal : noAlis ρ = true) : ∃ p vs, σ[i]? = some (some (.ref p)) ∧ H p = some (.lst vs) ∧ RpAll K G vs ds ∧
    ∀ G' H1 ex' vs' ds', En K B G' H1 σ ρ ex' → Ex G G' → H1 p = some (.lst vs) → RpAll K G' vs' ds' → En K B G' (upd H1 p (.lst vs')) σ (ρ.set i (.own l (.lst (ds'.map OT.dat)))) ex' := by
  obtain ⟨A, c, n, f⟩ := E.own
  have gen : ∀ {G H : Hp} {ex : List (V × Slot)} {A : List Addr}, Cells K B G H (ex.map (fun p => some p.1) ++ σ) (ex.map (·.2) ++ ρ) A → ∃ p vs A1 A2, σ[i]? = some (some (.ref p)) ∧ H p = some (.lst vs) ∧ RpAll K G vs ds ∧ A1 = [p] ∧ ((p ∈ B.Mo l ∨ B.H0 p = none) ∧ (l = 0 ∨ B.pv l = some (.ref p))) ∧
      Cells K B G H (ex.map (fun p => some p.1) ++ σ) ((ex.map (·.2) ++ ρ).set (ex.length + i) .non) A2 ∧ A.Perm (A1 ++ A2) := fun {G H ex A} c => by
    obtain ⟨v, A1, A2, e1, hO, ⟨hl, hv⟩, c2, p⟩ := c.take1 (i := ex.length + i) (l := l) (o := .lst (ds.map OT.dat)) (by
      rw [List.getElem?_append_right (by simp), List.length_map]
      simpa using h)
    rw [List.getElem?_append_right (by simp), List.length_map] at e1
    cases hO with
    | @lst a vs _ A3 ha hall =>
      obtain ⟨e3, r⟩ := own_dats_inv hall
      subst e3
      exact ⟨a, vs, [a], A2, by simpa using e1, ha, r, rfl, ⟨hl a (by simp), hv⟩, c2, p⟩
  obtain ⟨p, vs, A1, A2, e1, e2, e3, e4, e5, c2, pm⟩ := gen c
  refine ⟨p, vs, e1, e2, e3, fun G' H1 ex' vs' ds' E' hG hp r' => ?_⟩
  obtain ⟨A', c', n', f'⟩ := E'.own
  obtain ⟨q, ws, B1, B2, g1, g2, g3, g4, g5, d2, pm'⟩ := gen c'
  have epq : q = p := by
    have z := g1.symm.trans e1
    injection z with z
    injection z with z
    injection z
  subst epq
  subst g4
  have nq := pm'.nodup_iff.mp n'
  have nq2 : q ∉ B2 := (List.nodup_cons.mp nq).1
  have fq : G' q = none := f' q (pm'.mem_iff.mpr (by simp))
  have d3 : Cells K B G' (upd H1 q (.lst vs')) (ex'.map (fun p => some p.1) ++ σ) ((ex'.map (·.2) ++ ρ).set (ex'.length + i) .non) B2 := d2.ex (Ex.refl _) fun a m u e => by
    rw [upd_ne (fun z => nq2 (by rw [← z]; exact m))]
    exact e
  have hi : i < ρ.length := (List.getElem?_eq_some_iff.mp h).1
  obtain ⟨A3, c3, p3⟩ := d3.put1 (i := ex'.length + i) (l := l) (o := .lst (ds'.map OT.dat)) (v := .ref q) (A1 := [q]) (by
      rw [List.getElem?_set_self (by simp; omega)]) (by
      rw [List.getElem?_append_right (by simp), List.length_map]
      simpa using g1) (.lst upd_same (own_dats r')) ⟨fun a m => by
      rw [List.mem_singleton.mp m]
      exact g5.1, g5.2⟩
  rw [List.set_set, List.set_append_right _ _ (by simp), List.length_map, Nat.add_sub_cancel_left] at c3
  refine ⟨E'.anc.put fq (g5.1.imp (fun z => ⟨l, z⟩) id) _, ⟨A3, c3, p3.nodup_iff.mpr nq, fun a m => ?_⟩, by rw [List.length_set]; exact E'.len, fun k j pa e => ?_⟩
  · exact f' a (pm'.mem_iff.mpr (p3.mem_iff.mp m))
  · have hk : i ≠ k := fun z => by
      subst z
      rw [List.getElem?_set_self hi] at e
      cases e
    rw [List.getElem?_set_ne hk] at e
    exact absurd e (noAlis_get hal)
end
/-! ### targets -/
def tJG (K : PySem.W.Frag) (B : Base) (ρ : List Slot) (d : D) {γ : Type} (m : R γ) (ρ' : γ → List Slot) : TG := fun v σ H Q =>
  ∃ G, En K B G H σ ρ [] ∧ Rp K G v d ∧ m.post (fun c => ∀ σ' G' H', Ex G G' → En K B G' H' σ' (ρ' c) [] → Q σ' H') B.rs
def JG (X : Cx) (B : Base) (ρ : List Slot) (tg : Expr) (d : D) {γ : Type} (m : R γ) (ρ' : γ → List Slot) : Prop := PG X tg (tJG X.K B ρ d m ρ')
def tJGs (K : PySem.W.Frag) (B : Base) (ρ : List Slot) (ds : List D) {γ : Type} (m : R γ) (ρ' : γ → List Slot) : TGs := fun vs σ H Q =>
  ∃ G, En K B G H σ ρ [] ∧ RpAll K G vs ds ∧ m.post (fun c => ∀ σ' G' H', Ex G G' → En K B G' H' σ' (ρ' c) [] → Q σ' H') B.rs
def JGs (X : Cx) (B : Base) (ρ : List Slot) (ts : List Expr) (ds : List D) {γ : Type} (m : R γ) (ρ' : γ → List Slot) : Prop := PGs X ts (tJGs X.K B ρ ds m ρ')
section
variable {X : Cx} {B : Base} {ρ : List Slot} {pos : Pos} {e a b : Expr}
theorem PG_imp {e : Expr} {t t' : TG} (h : PG X e t) (k : ∀ v σ H Q, t' v σ H Q → t v σ H Q) : PG X e t' := ⟨fun pins s σ H v u Q I r q => h.run pins s σ H v u Q I r (k v σ H Q q)⟩
theorem PGs_imp {e : List Expr} {t t' : TGs} (h : PGs X e t) (k : ∀ v σ H Q, t' v σ H Q → t v σ H Q) : PGs X e t' := ⟨fun pins s σ H v u Q I r q => h.run pins s σ H v u Q I r (k v σ H Q q)⟩
theorem jg_name (i : Nat) {x : Str} {d : D} (hN : X.N.Nodup) (hi : X.N[i]? = some x := by rfl) (hx : Loc X.env.scope x := by first | exact Or.inl rfl | exact Or.inr rfl) (hf : X.fn x = true ∨ X.env.scope.names.lookup x = some .local := by first | exact .inl rfl | exact .inr rfl)
    (hlt : i < ρ.length := by exact of_decide_eq_true rfl) (hal : noAli i ρ = true := by rfl) : JG X B ρ (.Name x pos) d (.ok ()) (fun _ => ρ.set i (.val d)) :=
  PG_imp (pg_name (i := i) hN hi hx hf) fun v σ H Q ⟨G, E, r, q⟩ => q (σ.set i (some v)) G H (Ex.refl G) ((E.push r).set hlt (fun _ _ z => nomatch z) hal)
theorem jgs_nil : JGs X B ρ [] [] (.ok ()) (fun _ => ρ) := PGs_imp pgs_nil fun vs σ H Q ⟨G, E, r, q⟩ => by
  cases r
  exact ⟨rfl, q σ G H (Ex.refl G) E⟩
theorem jgs_cons {es : List Expr} {d : D} {ds : List D} {γ δ : Type} {m : R γ} {ρ1 : γ → List Slot} {m2 : γ → R δ} {ρ2 : γ → δ → List Slot} (h : JG X B ρ e d m ρ1) (t : ∀ c, JGs X B (ρ1 c) es ds (m2 c) (ρ2 c))
    (hs : (assignEach (e :: es) X.env).map (·.2) = assign e X.env :: (assignEach es X.env).map (·.2) := by rfl) : JGs X B ρ (e :: es) (d :: ds) (m.bind fun c => (m2 c).bind fun c2 => .ok (c, c2)) (fun p => ρ2 p.1 p.2) := by
  have t' : PGs X es (fun vs σ H Q => ∃ c, tJGs X.K B (ρ1 c) ds (m2 c) (ρ2 c) vs σ H Q) := ⟨fun pins s σ H vs us Q I r ⟨c, q⟩ => (t c).run pins s σ H vs us Q I r q⟩
  refine PGs_imp (pgs_cons h t' hs) fun vs σ H Q ⟨G, E, r, q⟩ => ?_
  cases r with
  | cons r rr => exact ⟨_, _, rfl, G, E, r, R.post_mono (R.post_bind.mp q) fun c q1 σ' G' H' x E' => ⟨c, G', E', rr.ex x, R.post_mono (R.post_bind.mp q1) fun c2 q2 σ2 G2 H2 x2 E2 => q2 σ2 G2 H2 (x.trans x2) E2⟩⟩
/-- the first target a name -/
theorem jgs_p {es : List Expr} {d : D} {ds : List D} {δ : Type} {ρ1 : List Slot} {m2 : R δ} {ρ2 : δ → List Slot} (h : JG X B ρ e d (.ok ()) (fun _ => ρ1)) (t : JGs X B ρ1 es ds m2 ρ2)
    (hs : (assignEach (e :: es) X.env).map (·.2) = assign e X.env :: (assignEach es X.env).map (·.2) := by rfl) : JGs X B ρ (e :: es) (d :: ds) m2 ρ2 := by
  refine PGs_imp (pgs_cons h t hs) fun vs σ H Q ⟨G, E, r, q⟩ => ?_
  cases r with
  | cons r rr => exact ⟨_, _, rfl, G, E, r, fun σ' G' H' x E' => ⟨G', E', rr.ex x, R.post_mono q fun c2 q2 σ2 G2 H2 x2 E2 => q2 σ2 G2 H2 (x.trans x2) E2⟩⟩
theorem jg_tup {es : List Expr} {k : Nat} {ds : List D} {γ : Type} {m : R γ} {ρ' : γ → List Slot} (hc : X.calm = true) (h : JGs X B ρ es ds m ρ') (hn : (assignEach es X.env).length = ds.length := by rfl) (hst : (assignEach es X.env).findIdx? (·.1) = none := by rfl) : JG X B ρ (.Tuple es k pos) (.tuple ds) m ρ' :=
  PG_imp (pg_tup (n := ds.length) hc h hn hst) fun v σ H Q ⟨G, E, r, q⟩ => by
    obtain ⟨a, xs, rfl, hS, hr⟩ := r.tup_inv
    exact ⟨a, xs, rfl, E.sub.t hS, hr.len, G, E, hr, q⟩
/-- targets = e -/
theorem j1_asg {tg : Expr} {β γ : Type} {m : R β} {d : β → D} {ρ' : β → List Slot} {m2 : β → R γ} {ρ2 : β → γ → List Slot} (h : JE X B ρ e m (fun b => .val (d b)) ρ') (g : ∀ b, JG X B (ρ' b) tg (d b) (m2 b) (ρ2 b))
    (hs : swapsWithSole [tg] e pos.line X.env = pure false := by rfl) (hw : swappedStores [tg] e X.env = pure none := by rfl) (h1 : (assignEach [tg] X.env).map (·.2) = [assign tg X.env] := by rfl) : J1 X B ρ (.Assign [tg] e pos) (m.bind fun b => (m2 b).bind fun c => .ok (b, c)) (fun p => ρ2 p.1 p.2) := by
  have g' : PG X tg (fun v σ H Q => ∃ b, tJG X.K B (ρ' b) (d b) (m2 b) (ρ2 b) v σ H Q) := ⟨fun pins s σ H v u Q I r ⟨b, q⟩ => (g b).run pins s σ H v u Q I r q⟩
  exact PS_imp (ps_asg h g' hs hw h1) fun D σ H ⟨G, E, q⟩ => ⟨G, E, R.post_mono (R.post_bind.mp q) fun b q1 v G' H' x E' => ⟨b, G', E'.pop, E'.top, R.post_mono (R.post_bind.mp q1) fun c q2 σ2 G2 H2 x2 E2 => q2 σ2 G2 H2 (x.trans x2) E2⟩⟩

/-- all targets names -/
theorem j1_asgN {tg : Expr} {β : Type} {m : R β} {d : β → D} {ρ' : β → List Slot} {ρ2 : β → List Slot} (h : JE X B ρ e m (fun b => .val (d b)) ρ') (g : ∀ b, JG X B (ρ' b) tg (d b) (.ok ()) (fun _ => ρ2 b))
    (hs : swapsWithSole [tg] e pos.line X.env = pure false := by rfl) (hw : swappedStores [tg] e X.env = pure none := by rfl) (h1 : (assignEach [tg] X.env).map (·.2) = [assign tg X.env] := by rfl) : J1 X B ρ (.Assign [tg] e pos) m ρ2 := by
  have g' : PG X tg (fun v σ H Q => ∃ b, tJG X.K B (ρ' b) (d b) (.ok ()) (fun _ => ρ2 b) v σ H Q) := ⟨fun pins s σ H v u Q I r ⟨b, q⟩ => (g b).run pins s σ H v u Q I r q⟩
  exact PS_imp (ps_asg h g' hs hw h1) fun D σ H ⟨G, E, q⟩ => ⟨G, E, R.post_mono q fun b q1 v G' H' x E' => ⟨b, G', E'.pop, E'.top, fun σ2 G2 H2 x2 E2 => q1 σ2 G2 H2 (x.trans x2) E2⟩⟩
/-- a, b = x, y: plain local names -/
theorem j1_par (i j : Nat) {x y : Str} {px py pt : Pos} {kt k2 : Nat} {pt2 : Pos} {β : Type} {m : R β} {as : β → List Ar} {ρ' : β → List Slot} {d1 d2 : β → D} (hc : X.calm = true) (hN : X.N.Nodup) (ha : JA X B ρ [a, b] m as ρ') (hd : ∀ c, as c = [.val (d1 c), .val (d2 c)] := by intro _; rfl)
    (hi : X.N[i]? = some x := by rfl) (hj : X.N[j]? = some y := by rfl) (hij : i ≠ j := by decide)
    (hx : X.env.scope.names.lookup x = some .local := by rfl) (hy : X.env.scope.names.lookup y = some .local := by rfl) (hw : swappedStores [.Tuple [.Name x px, .Name y py] kt pt] (.Tuple [a, b] k2 pt2) X.env = pure (some [x, y]) := by rfl)
    (hs : swapsWithSole [.Tuple [.Name x px, .Name y py] kt pt] (.Tuple [a, b] k2 pt2) pos.line X.env = pure false := by rfl) (hli : ∀ c, i < (ρ' c).length := by intro _; exact of_decide_eq_true rfl) (hlj : ∀ c, j < (ρ' c).length := by intro _; exact of_decide_eq_true rfl)
    (hai : ∀ c, noAli i (ρ' c) = true := by intro _; rfl) (haj : ∀ c, noAli j ((ρ' c).set i (.val (d1 c))) = true := by intro _; rfl) :
    J1 X B ρ (.Assign [.Tuple [.Name x px, .Name y py] kt pt] (.Tuple [a, b] k2 pt2) pos) m (fun c => ((ρ' c).set i (.val (d1 c))).set j (.val (d2 c))) :=
  PS_imp (ps_par hc hN hi hj hij hx hy ha hw hs) fun D σ H ⟨G, E, q⟩ => ⟨G, E, R.post_mono q fun c q1 vs G' H' z E' ok => by
    rw [hd c] at ok
    cases ok with
    | val r1 ok =>
      cases ok with
      | val r2 ok =>
        cases ok
        refine ⟨_, _, rfl, q1 _ G' H' z ?_⟩
        have E1 := (E'.push r1).set (hli c) (fun _ _ z => nomatch z) (hai c)
        exact (E1.push r2).set (by rw [List.length_set]; exact hlj c) (fun _ _ z => nomatch z) (haj c)⟩
/-- o[k] = .., o an owned list of data -/
theorem jg_sub (i : Nat) {x : Str} {px : Pos} {l : Nat} {α : Type} {en : α → D} {xs : List α} {y : α} {k : Int} {o2 : Expr} (h : ρ[i]? = some (.own l (.lst ((xs.map en).map OT.dat))) := by rfl) (hk : JP X B ρ o2 (.int k)) (hal : noAlis ρ = true := by rfl) (hN : X.N[i]? = some x := by rfl)
    (hv : Vis X.env.scope x := by first | exact Or.inl rfl | exact Or.inr (Or.inl rfl) | exact Or.inr (Or.inr rfl)) (hd : (x == ("__debug__" : Str)) = false := by decide) (hcd : (x == ("__classdict__" : Str)) = false := by decide)
    (ha : ∀ v, assign (.Subscript (.Name x px) o2 pos) X.env v = (do
      let ov ← holding [v] (eval (.Name x px) X.env)
      let iv ← holding [v, ov] (eval o2 X.env)
      standAt pos
      holding [v, ov, iv] (setItem ov iv v)
      release [v, ov, iv] []) := by intro _; rfl) :
    JG X B ρ (.Subscript (.Name x px) o2 pos) (en y) (R.some (ixN xs.length k)) (fun j => ρ.set i (.own l (.lst (((xs.set j y).map en).map OT.dat)))) :=
  PG_imp (pg_sub (pv i hN hv hd hcd) hk set_list ha) fun v σ H Q ⟨G, E, r, q⟩ => by
    obtain ⟨p, vs, e1, e2, e3, e4⟩ := E.ownD h hal
    obtain ⟨j, hj, q⟩ := R.post_some q
    refine ⟨.ref p, e1, G, E, fun w G1 H1 x1 E1 => ?_⟩
    have hn := E1.top.int_inv
    obtain ⟨p', vs', g1, g2, g3, g4⟩ := E1.pop.ownD h hal
    have ep : p' = p := by
      have z := g1.symm.trans e1
      injection z with z
      injection z with z
      injection z
    subst ep
    have hl : vs'.length = xs.length := by
      rw [g3.len, List.length_map]
    refine ⟨p', vs', k, j, rfl, hn, g2, by rw [hl]; exact hj, q σ G1 _ x1 ?_⟩
    have rs : ∀ {vs : List V} {ds : List D} (j : Nat), RpAll X.K G1 vs ds → RpAll X.K G1 (vs.set j v) (ds.set j (en y)) := by
      intro vs ds j h
      induction ds generalizing vs j with
      | nil =>
        cases h
        exact .nil
      | cons d ds ih =>
        cases h with
        | cons h1 h2 =>
          cases j with
          | zero => exact .cons (r.ex x1) h2
          | succ j => exact .cons h1 (ih j h2)
    have := g4 G1 H1 [] (vs'.set j v) ((xs.map en).set j (en y)) E1.pop (Ex.refl _) g2 (rs j g3)
    rw [← List.map_set] at this
    exact this
end
/-! ### loops -/
def forR {α S L T : Type} (f : α → S → R (Fl S S T)) : List α → S → R (Fl S L T)
  | [], s => .ok (.nx s)
  | x :: xs, s => (f x s).bind fun
    | .nx s' => forR f xs s'
    | .ct s' => forR f xs s'
    | .bk s' => .ok (.nx s')
    | .rt t => .ok (.rt t)
/-- an iterator that yields data -/
structure Yld (K : PySem.W.Frag) (J : It) (G : Hp) (ds : List D) : Prop where
  go : ∀ i H, i < ds.length → Ex G H → J.go i H
  stop : ∀ i H, ds.length ≤ i → Ex G H → J.stop i H
  yld : ∀ (B : Base) i G1 H1 σ ρ x H', Ex G G1 → En K B G1 H1 σ ρ [] → J.yld i H1 x H' → ∀ d, ds[i]? = some d → ∃ G2, Ex G1 G2 ∧ En K B G2 H' σ ρ [] ∧ Rp K G2 x d
def tJI (K : PySem.W.Frag) (B : Base) (ρ : List Slot) {β : Type} (m : R β) (ds : β → List D) (ρ' : β → List Slot) : TI := fun σ H Q =>
  ∃ G, En K B G H σ ρ [] ∧ m.post (fun b => ∀ J G' H', Ex G G' → En K B G' H' σ (ρ' b) [] → Yld K J G' (ds b) → Q J H') B.rs
def JI (X : Cx) (B : Base) (ρ : List Slot) (tg it : Expr) {β : Type} (m : R β) (ds : β → List D) (ρ' : β → List Slot) : Prop := PI X tg it (tJI X.K B ρ m ds ρ')
section
variable {X : Cx} {B : Base} {ρ : List Slot} {pos : Pos} {e a b tg it : Expr}
theorem PI_imp {t t' : TI} (h : PI X tg it t) (k : ∀ σ H Q, t' σ H Q → t σ H Q) : PI X tg it t' := ⟨fun pins s σ H Q I q => h.run pins s σ H Q I (k σ H Q q)⟩
theorem js_for {α β S L T : Type} {m : R β} {xs : β → List α} {en : α → D} {ρ' : β → List Slot} {s0 : β → S} (ρS : S → List Slot) (ρB : α → S → List Slot) {f : α → S → R (Fl S S T)} {F : Fin S L T} {body : List Stmt} (hp : PassesOwn (model X.prog X.w) X.A X.env X.xe) (hc : X.calm = true)
    (hi : JI X B ρ tg it m (fun b => (xs b).map en) ρ') (bs : List Bool) (hw : ∀ b, forgot (ρ' b) bs = ρS (s0 b)) (hg : ∀ x s, JG X B (ρS s) tg (en x) (.ok ()) (fun _ => ρB x s))
    (hb : ∀ x s, JSs X B (ρB x s) body (f x s) ⟨ρS, ρS, ρS, F.s, F.t⟩) (hn : F.n = ρS := by rfl) (hs : ∀ v, foldedSetIterable it X.env v = pure v := by intro _; rfl) : JS X B ρ (.For tg it body [] pos) (m.bind fun b => forR f (xs b) (s0 b)) F := by
  have hg' : PG X tg (fun v σ H Q => ∃ x s, tJG X.K B (ρS s) (en x) (.ok ()) (fun _ => ρB x s) v σ H Q) := ⟨fun pins s σ H v u Q I r ⟨x, s', q⟩ => (hg x s').run pins s σ H v u Q I r q⟩
  have hb' : PSs X body (fun D σ H => ∃ x s, tJS X.K B (ρB x s) (f x s) ⟨ρS, ρS, ρS, F.s, F.t⟩ D σ H) := ⟨fun pins s σ H D I ⟨x, s', q⟩ => (hb x s').run pins s σ H D I q⟩
  refine PS_imp (ps_for hp hc hi hg' hb' hs) fun D σ H ⟨G, E, q⟩ => ⟨G, E, R.post_mono (R.post_bind.mp q) fun b q1 J G' H' xG E' Y => ?_⟩
  have hlen : ((xs b).map en).length = (xs b).length := List.length_map _
  let W : Nat → L2.St → Hp → Prop := fun i σ' H1 => ∃ G1 s, Ex G' G1 ∧ En X.K B G1 H1 σ' (ρS s) [] ∧ (forR f ((xs b).drop i) s).post (flP X.K B G1 D F) B.rs
  refine ⟨fun i mm σ' H1 => mm = (xs b).length - i ∧ i ≤ (xs b).length ∧ W i σ' H1, ⟨_, rfl, Nat.zero_le _, G', s0 b, Ex.refl _, by rw [← hw b]; exact E'.forgot bs, R.post_mono q1 fun fl h => flP_ex h xG⟩, ?_⟩
  rintro i mm σ1 H1 ⟨rfl, hi1, G1, s, x1, E1, q2⟩
  have nxt : ∀ G2 s', Ex G' G2 → i < (xs b).length → (forR f ((xs b).drop (i + 1)) s').post (flP X.K B G2 D F) B.rs → ∀ σ' G3 H', Ex G2 G3 → En X.K B G3 H' σ' (ρS s') [] → W (i + 1) σ' H' := fun G2 s' y hlt h σ' G3 H' z E3 => ⟨G3, s', y.trans z, E3, R.post_mono h fun fl h => flP_ex h z⟩
  by_cases hlt : i < (xs b).length
  · refine .inr ⟨Y.go i H1 (by rw [hlen]; exact hlt) (x1.trans E1.sub), fun σ' H' => W (i + 1) σ' H', fun σ' H' w => ⟨_, ?_, rfl, hlt, w⟩, fun v H2 hy => ?_⟩
    · omega
    · have hd : ((xs b).map en)[i]? = some (en (xs b)[i]) := by rw [List.getElem?_map, List.getElem?_eq_getElem hlt]; rfl
      obtain ⟨G2, x2, E2, r2⟩ := Y.yld B i G1 H1 σ1 (ρS s) v H2 x1 E1 hy _ hd
      rw [List.drop_eq_getElem_cons hlt] at q2
      refine ⟨(xs b)[i], s, G2, E2, r2, fun σ' G3 H3 x3 E3 => ⟨(xs b)[i], s, G3, E3, R.post_mono (R.post_bind.mp q2) fun fl q3 => ?_⟩⟩
      have x13 := x2.trans x3
      have up : ∀ {m' : R (Fl S L T)}, m'.post (flP X.K B G1 D F) B.rs → m'.post (flP X.K B G3 D F) B.rs := fun h => R.post_mono h fun fl h => flP_ex h x13
      cases fl with
      | nx s' => exact nxt G3 s' (x1.trans x13) hlt (up q3)
      | ct s' => exact nxt G3 s' (x1.trans x13) hlt (up q3)
      | bk s' =>
        intro σ4 G4 H4 x4 E4
        have q3 : flP X.K B G1 D F (.nx s') := q3
        refine q3 σ4 G4 H4 (x13.trans x4) ?_
        rw [hn]
        exact E4
      | rt t =>
        intro v σ4 G4 H4 x4 E4
        have q3 : flP X.K B G1 D F (.rt t) := q3
        exact q3 v σ4 G4 H4 (x13.trans x4) E4
  · refine .inl ⟨Y.stop i H1 (by rw [hlen]; omega) (x1.trans E1.sub), ?_⟩
    rw [List.drop_eq_nil_of_le (by omega)] at q2
    have q2 : flP X.K B G1 D F (.nx s) := q2
    refine q2 σ1 G1 H1 (Ex.refl _) ?_
    rw [hn]
    exact E1
/-! what is walked -/
theorem yld_tup {K : PySem.W.Frag} {G : Hp} {a : Addr} {xs : List V} {ds : List D} (h : SqT K G a xs) (hr : RpAll K G xs ds) : Yld K (Itt K a) G ds where
  go := fun i H hi e => ⟨xs, xs[i]'(by rw [hr.len]; exact hi), e.t h, List.getElem?_eq_getElem _⟩
  stop := fun i H hi e => ⟨xs, e.t h, by rw [hr.len]; exact hi⟩
  yld := fun B i G1 H1 σ ρ x H' e E hy d hd => by
    obtain ⟨rfl, f⟩ := hy
    have := f xs ((e.trans E.sub).t h)
    obtain ⟨v, h1, h2⟩ := hr.get hd
    rw [this] at h1
    cases h1
    exact ⟨G1, Ex.refl _, E, h2.ex e⟩
theorem ji_list {β : Type} {m : R β} {ds : β → List D} {ρ' : β → List Slot} (h : JE X B ρ it m (fun b => .val (.list (ds b))) ρ') : JI X B ρ tg it m ds ρ' :=
  PI_imp (pi_list h) fun σ H Q ⟨G, E, q⟩ => ⟨G, E, R.post_mono q fun b q1 v G' H' x E' => by
    obtain ⟨a, xs, rfl, hS, hr⟩ := E'.top.lst_inv
    have hS' : SqL X.K G' a xs := .inl hS
    refine ⟨a, rfl, ⟨xs, E'.sub.l hS'⟩, q1 _ G' H' x E'.pop ⟨fun i H hi e => ⟨xs, xs[i]'(by rw [hr.len]; exact hi), e.l hS', List.getElem?_eq_getElem _⟩, fun i H hi e => ⟨xs, e.l hS', by rw [hr.len]; exact hi⟩, fun B i G1 H1 σ ρ x H' e E hy d hd => ?_⟩⟩
    obtain ⟨rfl, f⟩ := hy
    have := f xs ((e.trans E.sub).l hS')
    obtain ⟨v, h1, h2⟩ := hr.get hd
    rw [this] at h1
    cases h1
    exact ⟨G1, Ex.refl _, E, h2.ex e⟩⟩
theorem ji_tup {β : Type} {m : R β} {ds : β → List D} {ρ' : β → List Slot} (h : JE X B ρ it m (fun b => .val (.tuple (ds b))) ρ') : JI X B ρ tg it m ds ρ' :=
  PI_imp (pi_tup h) fun σ H Q ⟨G, E, q⟩ => ⟨G, E, R.post_mono q fun b q1 v G' H' x E' => by
    obtain ⟨a, xs, rfl, hS, hr⟩ := E'.top.tup_inv
    exact ⟨a, rfl, ⟨xs, E'.sub.t hS⟩, q1 _ G' H' x E'.pop (yld_tup hS hr)⟩⟩
/-- the ints lo, lo + 1, .. -/
def rng (lo hi : Int) : List Int := (List.range (hi - lo).toNat).map fun (k : Nat) => lo + (k : Int)
theorem yld_rng {K : PySem.W.Frag} {G : Hp} {lo : Int} {n : Nat} : Yld K (Itr lo n) G (((List.range n).map fun (k : Nat) => lo + (k : Int)).map D.int) where
  go := fun i H hi e => by
    have : i < n := by simpa using hi
    exact this
  stop := fun i H hi e => by
    have : n ≤ i := by simpa using hi
    exact this
  yld := fun B i G1 H1 σ ρ x H' e E hy d hd => by
    obtain ⟨rfl, rfl⟩ := hy
    have hi : i < n := by
      have := (List.getElem?_eq_some_iff.mp hd).1
      simpa using this
    rw [List.map_map, List.getElem?_map, List.getElem?_range hi] at hd
    cases hd
    exact ⟨G1, Ex.refl _, E, .int _⟩
def rngOk (i : Int) : Prop := -(2 ^ 62) ≤ i ∧ i < 2 ^ 62
instance {i : Int} : Decidable (rngOk i) := by unfold rngOk; infer_instance
theorem ji_rng1 {p : Pos} {β : Type} {m : R β} {as : β → List Ar} (i : β → Int) {ρ' : β → List Slot} (hm : X.mg "range" = none) (h : JA X B ρ [a] m as ρ') (ha : ∀ b, as b = [.val (.int (i b))] := by intro _; rfl) (hg : Gl X "range" := by rfl) (hs : starEach [a] X.env = [(false, eval a X.env)] := by rfl) :
    JI X B ρ tg (.Call (.Name "range" p) [a] [] pos) (m.bind fun b => (R.guard (rngOk (i b))).bind fun _ => .ok b) (fun b => (rng 0 (i b)).map D.int) ρ' :=
  PI_imp (pi_range1 hg hm h hs) fun σ H Q ⟨G, E, q⟩ => ⟨G, E, R.post_mono (R.post_bind.mp q) fun b q1 vs G' H' x E' ok => by
    obtain ⟨hc, q2⟩ := R.post_guard (R.post_bind.mp q1)
    rw [ha b] at ok
    cases ok with
    | val r ok =>
      cases ok
      refine ⟨i b, by rw [r.int_inv], hc.1, hc.2, q2 _ G' H' x E' ?_⟩
      show Yld X.K _ G' ((rng 0 (i b)).map D.int)
      unfold rng
      rw [Int.sub_zero]
      exact yld_rng⟩
theorem ji_rng2 {p : Pos} {β : Type} {m : R β} {as : β → List Ar} (i j : β → Int) {ρ' : β → List Slot} (hm : X.mg "range" = none) (h : JA X B ρ [a, b] m as ρ') (ha : ∀ b, as b = [.val (.int (i b)), .val (.int (j b))] := by intro _; rfl) (hg : Gl X "range" := by rfl)
    (hs : starEach [a, b] X.env = [(false, eval a X.env), (false, eval b X.env)] := by rfl) (hs2 : starEach [b] X.env = [(false, eval b X.env)] := by rfl) :
    JI X B ρ tg (.Call (.Name "range" p) [a, b] [] pos) (m.bind fun b => (R.guard (rngOk (i b) ∧ rngOk (j b))).bind fun _ => .ok b) (fun b => (rng (i b) (j b)).map D.int) ρ' :=
  PI_imp (pi_range2 hg hm h hs hs2) fun σ H Q ⟨G, E, q⟩ => ⟨G, E, R.post_mono (R.post_bind.mp q) fun b q1 vs G' H' x E' ok => by
    obtain ⟨hc, q2⟩ := R.post_guard (R.post_bind.mp q1)
    rw [ha b] at ok
    cases ok with
    | val r ok =>
      cases ok with
      | val r2 ok =>
        cases ok
        exact ⟨i b, j b, by rw [r.int_inv, r2.int_inv], ⟨hc.1.1, hc.1.2, hc.2.1, hc.2.2⟩, q2 _ G' H' x E' yld_rng⟩⟩
/-! ### while -/
/-- so many turns -/
def whN {S L T : Type} (c : S → R Bool) (f : S → R (Fl S S T)) : Nat → S → R (Fl S L T)
  | 0, _ => .bad
  | n + 1, s => (c s).bind fun b => if b = true then (f s).bind fun
      | .nx s' => whN c f n s'
      | .ct s' => whN c f n s'
      | .bk s' => .ok (.nx s')
      | .rt t => .ok (.rt t)
    else .ok (.nx s)
open Classical in
/-- as many turns as it takes -/
noncomputable def whR {S L T : Type} (c : S → R Bool) (f : S → R (Fl S S T)) (s : S) : R (Fl S L T) :=
  if h : ∃ n, whN (L := L) c f n s ≠ .bad then whN c f h.choose s else .bad
theorem whN_mono {S L T : Type} {c : S → R Bool} {f : S → R (Fl S S T)} : ∀ {n : Nat} {s : S}, whN (L := L) c f n s ≠ .bad → ∀ m, n ≤ m → whN (L := L) c f m s = whN c f n s
  | 0, s, h, _, _ => absurd rfl h
  | n + 1, s, h, 0, hm => absurd hm (Nat.not_succ_le_zero _)
  | n + 1, s, h, m + 1, hm => by
    have hm' : n ≤ m := Nat.le_of_succ_le_succ hm
    rw [whN] at h ⊢
    rw [whN]
    cases hc : c s with
    | bad => rfl
    | err e => rfl
    | ok b =>
      rw [hc] at h
      cases b with
      | false => rfl
      | true =>
        simp only [R.bind, if_true] at h ⊢
        cases hf : f s with
        | bad => rfl
        | err e => rfl
        | ok fl =>
          rw [hf] at h
          cases fl with
          | nx s' => exact whN_mono h m hm'
          | ct s' => exact whN_mono h m hm'
          | bk s' => rfl
          | rt t => rfl
theorem whR_of {S L T : Type} {c : S → R Bool} {f : S → R (Fl S S T)} {n : Nat} {s : S} (h : whN (L := L) c f n s ≠ .bad) : whR (L := L) c f s = whN c f n s := by
  have hx : ∃ n, whN (L := L) c f n s ≠ .bad := ⟨n, h⟩
  unfold whR
  rw [dif_pos hx]
  rcases Nat.le_total n hx.choose with l | l
  · exact whN_mono h _ l
  · exact (whN_mono hx.choose_spec _ l).symm
theorem js_while {S L T : Type} (ρS : S → List Slot) {c : S → R Bool} {f : S → R (Fl S S T)} {F : Fin S L T} {body : List Stmt} (hp : PassesOwn (model X.prog X.w) X.A X.env X.xe) (s0 : S) (bs : List Bool) (hw : forgot ρ bs = ρS s0)
    (hc : ∀ s, JT X B (ρS s) e (c s) (fun b => b) (fun _ => ρS s)) (hb : ∀ s, JSs X B (ρS s) body (f s) ⟨ρS, ρS, ρS, F.s, F.t⟩) (hn : F.n = ρS := by rfl) : JS X B ρ (.While e body [] pos) (whR c f s0) F := by
  have hc' : PT X e (fun σ H Q => ∃ s, tJT X.K B (ρS s) (c s) (fun b => b) (fun _ => ρS s) σ H Q) := ⟨fun pins s σ H Q I ⟨x, q⟩ => (hc x).run pins s σ H Q I q⟩
  have hb' : PSs X body (fun D σ H => ∃ s, tJS X.K B (ρS s) (f s) ⟨ρS, ρS, ρS, F.s, F.t⟩ D σ H) := ⟨fun pins s σ H D I ⟨x, q⟩ => (hb x).run pins s σ H D I q⟩
  refine PS_imp (ps_while hp hc' hb') fun D σ H ⟨G, E, q⟩ => ?_
  have hne : ∃ n, (whN c f n s0 : R (Fl S L T)) ≠ .bad := by
    apply Classical.byContradiction
    intro z
    unfold whR at q
    rw [dif_neg z] at q
    exact q
  obtain ⟨n, hn0⟩ := hne
  rw [whR_of hn0] at q
  refine ⟨fun m σ' H' => ∃ G' s, Ex G G' ∧ En X.K B G' H' σ' (ρS s) [] ∧ (whN c f m s).post (flP X.K B G' D F) B.rs, ⟨n, G, s0, Ex.refl _, by rw [← hw]; exact E.forgot bs, q⟩, ?_⟩
  rintro m σ' H' ⟨G1, s, x1, E1, q1⟩
  cases m with
  | zero => exact q1.elim
  | succ m =>
    rw [whN] at q1
    refine ⟨s, G1, E1, R.post_mono (R.post_bind.mp q1) fun b q2 G2 H2 x2 E2 => ?_⟩
    cases b with
    | false =>
      have q2 : flP X.K B G1 D F (.nx s) := q2
      refine q2 σ' G2 H2 x2 ?_
      rw [hn]
      exact E2
    | true =>
      rw [if_pos rfl] at q2 ⊢
      refine ⟨fun σ3 H3 => ∃ G' s, Ex G G' ∧ En X.K B G' H3 σ3 (ρS s) [] ∧ (whN c f m s).post (flP X.K B G' D F) B.rs, fun σ3 H3 w => ⟨m, Nat.lt_succ_self m, w⟩, s, G2, E2, R.post_mono (R.post_bind.mp q2) fun fl q3 => ?_⟩
      have nxt : ∀ s', (whN c f m s').post (flP X.K B G1 D F) B.rs → ∀ σ' G3 H', Ex G2 G3 → En X.K B G3 H' σ' (ρS s') [] → ∃ G' s, Ex G G' ∧ En X.K B G' H' σ' (ρS s) [] ∧ (whN c f m s).post (flP X.K B G' D F) B.rs :=
        fun s' h σ' G3 H' z E3 => ⟨G3, s', x1.trans (x2.trans z), E3, R.post_mono h fun fl h => flP_ex h (x2.trans z)⟩
      cases fl with
      | nx s' => exact nxt s' q3
      | ct s' => exact nxt s' q3
      | bk s' =>
        intro σ4 G4 H4 x4 E4
        have q3 : flP X.K B G1 D F (.nx s') := q3
        refine q3 σ4 G4 H4 (x2.trans x4) ?_
        rw [hn]
        exact E4
      | rt t =>
        intro v σ4 G4 H4 x4 E4
        have q3 : flP X.K B G1 D F (.rt t) := q3
        exact q3 v σ4 G4 H4 (x2.trans x4) E4
end
end DL

/-! DL7: built-ins, subscripts, slices; a def -/
namespace DL
open PySem PySem.Spec L2

/-! ### built-ins by data -/
def CbD (K : PySem.W.Frag) (B : Base) (ρ : List Slot) (r : List V → Hp → VK → Prop) (as : List Ar) {γ : Type} (mr : R γ) (s : γ → Slot) : Prop :=
  ∀ G H σ vs Q, En K B G H σ ρ [] → ArOk K G σ vs as → mr.post (fun z => ∀ v G' H', Ex G G' → En K B G' H' σ ρ [(v, s z)] → Q v H') B.rs → r vs H Q
section
variable {X : Cx} {B : Base} {ρ : List Slot} {e a b : Expr} {es : List Expr} {pos : Pos}
theorem je_cb {E0 : Expr} {r : List V → Hp → VK → Prop} (hp : ∀ t, PA X es t → PE X E0 (tCB r t)) {as : List Ar} {γ : Type} {mr : R γ} {s : γ → Slot} (ha : JA X B ρ es (.ok ()) (fun _ => as) (fun _ => ρ)) (hr : CbD X.K B ρ r as mr s) : JE X B ρ E0 mr s (fun _ => ρ) :=
  PE_imp (hp _ ha) fun σ H Q ⟨G, E, q⟩ => ⟨G, E, fun vs G1 H1 x1 E1 ok => hr G1 H1 σ vs Q E1 ok (R.post_mono q fun z k v G2 H2 x2 E2 => k v G2 H2 (x1.trans x2) E2)⟩
theorem je_cb2 {E0 : Expr} {r : List V → Hp → VK → Prop} (hp : ∀ t, PA X es t → PE X E0 (tCB r t)) {β γ : Type} {ma : R β} {as : β → List Ar} {ρa : β → List Slot} {mr : β → R γ} {s : β → γ → Slot} (ha : JA X B ρ es ma as ρa) (hr : ∀ x, CbD X.K B (ρa x) r (as x) (mr x) (s x)) :
    JE X B ρ E0 (ma.bind fun x => (mr x).bind fun z => .ok (x, z)) (fun p => s p.1 p.2) (fun p => ρa p.1) :=
  PE_imp (hp _ ha) fun σ H Q ⟨G, E, q⟩ => ⟨G, E, R.post_mono (R.post_bind.mp q) fun x q1 vs G1 H1 x1 E1 ok => hr x G1 H1 σ vs Q E1 ok (R.post_mono (R.post_bind.mp q1) fun z k v G2 H2 x2 E2 => k v G2 H2 (x1.trans x2) E2)⟩
theorem cb_val {r : List V → Hp → VK → Prop} {K : PySem.W.Frag} {as : List Ar} {c : Prop} [Decidable c] {z : D} {w : V} (h : c → ∀ G H σ vs Q, Ex G H → ArOk K G σ vs as → Q w H → r vs H Q) (hw : ∀ G, Rp K G w z) : CbD K B ρ r as (R.guard c) (fun _ => .val z) :=
  fun G H σ vs Q E ok q => by
    obtain ⟨hc, q⟩ := R.post_guard q
    exact h hc G H σ vs Q E.sub ok (q w G H (Ex.refl G) (E.push (hw G)))
theorem cb_val0 {r : List V → Hp → VK → Prop} {K : PySem.W.Frag} {as : List Ar} {z : D} {w : V} (h : ∀ G H σ vs Q, Ex G H → ArOk K G σ vs as → Q w H → r vs H Q) (hw : ∀ G, Rp K G w z) : CbD K B ρ r as (.ok ()) (fun _ => .val z) :=
  fun G H σ vs Q E ok q => h G H σ vs Q E.sub ok (q w G H (Ex.refl G) (E.push (hw G)))
theorem ArOk.one {K : PySem.W.Frag} {G : Hp} {σ : L2.St} {vs : List V} {d : D} (h : ArOk K G σ vs [.val d]) : ∃ v, vs = [v] ∧ Rp K G v d := by
  cases h with
  | val r h =>
    cases h
    exact ⟨_, rfl, r⟩
theorem ArOk.two {K : PySem.W.Frag} {G : Hp} {σ : L2.St} {vs : List V} {d d' : D} (h : ArOk K G σ vs [.val d, .val d']) : ∃ v w, vs = [v, w] ∧ Rp K G v d ∧ Rp K G w d' := by
  cases h with
  | val r h =>
    obtain ⟨w, rfl, r'⟩ := h.one
    exact ⟨_, _, rfl, r, r'⟩
section
variable {K : PySem.W.Frag}
theorem cb_abs {i : Int} : CbD K B ρ (fun xs H Q => ∃ i, xs = [.int i] ∧ Q (.int (if i < 0 then -i else i)) H) [.val (.int i)] (.ok ()) (fun _ => .val (.int (if i < 0 then -i else i))) :=
  cb_val0 (fun G H σ vs Q _ ok q => by
    obtain ⟨v, rfl, r⟩ := ok.one
    exact ⟨i, by rw [r.int_inv], q⟩) fun _ => .int _
theorem cb_max {i j : Int} : CbD K B ρ (fun xs H Q => ∃ i j, xs = [.int i, .int j] ∧ Q (.int (if j > i then j else i)) H) [.val (.int i), .val (.int j)] (.ok ()) (fun _ => .val (.int (max i j))) :=
  cb_val0 (w := .int (max i j)) (fun G H σ vs Q _ ok q => by
    obtain ⟨v, w, rfl, r, r2⟩ := ok.two
    refine ⟨i, j, by rw [r.int_inv, r2.int_inv], ?_⟩
    rw [show (if j > i then j else i) = max i j by omega]
    exact q) fun _ => .int _
theorem cb_min {i j : Int} : CbD K B ρ (fun xs H Q => ∃ i j, xs = [.int i, .int j] ∧ Q (.int (if j < i then j else i)) H) [.val (.int i), .val (.int j)] (.ok ()) (fun _ => .val (.int (min i j))) :=
  cb_val0 (w := .int (min i j)) (fun G H σ vs Q _ ok q => by
    obtain ⟨v, w, rfl, r, r2⟩ := ok.two
    refine ⟨i, j, by rw [r.int_inv, r2.int_inv], ?_⟩
    rw [show (if j < i then j else i) = min i j by omega]
    exact q) fun _ => .int _
theorem cb_intB {k : Bool} : CbD K B ρ (fun xs H Q => (∃ i, xs = [.int i] ∧ Q (.int i) H) ∨ ∃ k, xs = [.bl k] ∧ Q (.int (if k then 1 else 0)) H) [.val (.bool k)] (.ok ()) (fun _ => .val (.int (if k = true then 1 else 0))) :=
  cb_val0 (fun G H σ vs Q _ ok q => by
    obtain ⟨v, rfl, r⟩ := ok.one
    exact .inr ⟨k, by rw [r.bl_inv], q⟩) fun _ => .int _
theorem cb_lenL {ds : List D} : CbD K B ρ (fun xs H Q => ∃ p ys, xs = [.ref p] ∧ (SqL K H p ys ∨ SqT K H p ys) ∧ Q (.int ys.length) H) [.val (.list ds)] (.ok ()) (fun _ => .val (.int ds.length)) :=
  cb_val0 (fun G H σ vs Q e ok q => by
    obtain ⟨v, rfl, r⟩ := ok.one
    obtain ⟨a, xs, rfl, hS, hr⟩ := r.lst_inv
    exact ⟨a, xs, rfl, .inl (.inl (e.rd hS)), by rw [hr.len]; exact q⟩) fun _ => .int _
theorem cb_lenT {ds : List D} : CbD K B ρ (fun xs H Q => ∃ p ys, xs = [.ref p] ∧ (SqL K H p ys ∨ SqT K H p ys) ∧ Q (.int ys.length) H) [.val (.tuple ds)] (.ok ()) (fun _ => .val (.int ds.length)) :=
  cb_val0 (fun G H σ vs Q e ok q => by
    obtain ⟨v, rfl, r⟩ := ok.one
    obtain ⟨a, xs, rfl, hS, hr⟩ := r.tup_inv
    exact ⟨a, xs, rfl, .inr (e.t hS), by rw [hr.len]; exact q⟩) fun _ => .int _
theorem Rp.scr_inv {K : PySem.W.Frag} {G : Hp} {v : V} {ns : List Int} (h : Rp K G v (.scr ns)) : ∃ a, v = .ref a ∧ SqL K G a (ns.map V.int) := by
  cases h with
  | scr h => exact ⟨_, rfl, h⟩
theorem cb_lenS {ns : List Int} : CbD K B ρ (fun xs H Q => ∃ p ys, xs = [.ref p] ∧ (SqL K H p ys ∨ SqT K H p ys) ∧ Q (.int ys.length) H) [.val (.scr ns)] (.ok ()) (fun _ => .val (.int ns.length)) :=
  cb_val0 (fun G H σ vs Q e ok q => by
    obtain ⟨v, rfl, r⟩ := ok.one
    obtain ⟨a, rfl, hS⟩ := r.scr_inv
    exact ⟨a, _, rfl, .inl (e.l hS), by rw [List.length_map]; exact q⟩) fun _ => .int _
instance {i j : Int} : Decidable (CDivP i j) := by unfold CDivP; infer_instance
theorem cb_divmod {i j : Int} : CbD K B ρ (fun xs H Q => ∃ i j, xs = [.int i, .int j] ∧ CDivP i j ∧ ∀ p, H p = none → Q (.ref p) (upd H p (.tup [.int (i / j), .int (i % j)]))) [.val (.int i), .val (.int j)] (R.guard (CDivP i j)) (fun _ => .val (.tuple [.int (i / j), .int (i % j)])) :=
  fun G H σ vs Q E ok q => by
    obtain ⟨hc, q⟩ := R.post_guard q
    obtain ⟨v, w, rfl, r, r2⟩ := ok.two
    refine ⟨i, j, by rw [r.int_inv, r2.int_inv], hc, fun p hp => q _ (upd G p _) _ (Ex.new (E.sub.back hp)) ((E.new hp _).push (.tup (.inl (.inl upd_same)) (.cons (.int _) (.cons (.int _) .nil))))⟩
end
/-! ### isinstance -/
def tyN : D → String
  | .none => "NoneType"
  | .bool _ => "bool"
  | .int _ => "int"
  | .str _ => "str"
  | .list _ => "list"
  | .tuple _ => "tuple"
  | .dict _ => "dict"
  | .scr _ => "list"
  | .row _ => "tuple"
def isInt : D → Bool
  | .int _ => true
  | .bool _ => true
  | _ => false
def isBool : D → Bool
  | .bool _ => true
  | _ => false
def isTup : D → Bool
  | .tuple _ => true
  | .row _ => true
  | _ => false
def isLst : D → Bool
  | .list _ => true
  | .scr _ => true
  | _ => false
def isStr : D → Bool
  | .str _ => true
  | _ => false
theorem isi_int (d : D) : kitB (tyN d) "int" = some (isInt d) := match d with
  | .none => (show kitB "NoneType" "int" = some false by decide +kernel)
  | .bool _ => (show kitB "bool" "int" = some true by decide +kernel)
  | .int _ => (show kitB "int" "int" = some true by decide +kernel)
  | .str _ => (show kitB "str" "int" = some false by decide +kernel)
  | .list _ => (show kitB "list" "int" = some false by decide +kernel)
  | .tuple _ => (show kitB "tuple" "int" = some false by decide +kernel)
  | .dict _ => (show kitB "dict" "int" = some false by decide +kernel)
  | .scr _ => (show kitB "list" "int" = some false by decide +kernel)
  | .row _ => (show kitB "tuple" "int" = some false by decide +kernel)
theorem isi_bool (d : D) : kitB (tyN d) "bool" = some (isBool d) := match d with
  | .none => (show kitB "NoneType" "bool" = some false by decide +kernel)
  | .bool _ => (show kitB "bool" "bool" = some true by decide +kernel)
  | .int _ => (show kitB "int" "bool" = some false by decide +kernel)
  | .str _ => (show kitB "str" "bool" = some false by decide +kernel)
  | .list _ => (show kitB "list" "bool" = some false by decide +kernel)
  | .tuple _ => (show kitB "tuple" "bool" = some false by decide +kernel)
  | .dict _ => (show kitB "dict" "bool" = some false by decide +kernel)
  | .scr _ => (show kitB "list" "bool" = some false by decide +kernel)
  | .row _ => (show kitB "tuple" "bool" = some false by decide +kernel)
theorem isi_tuple (d : D) : kitB (tyN d) "tuple" = some (isTup d) := match d with
  | .none => (show kitB "NoneType" "tuple" = some false by decide +kernel)
  | .bool _ => (show kitB "bool" "tuple" = some false by decide +kernel)
  | .int _ => (show kitB "int" "tuple" = some false by decide +kernel)
  | .str _ => (show kitB "str" "tuple" = some false by decide +kernel)
  | .list _ => (show kitB "list" "tuple" = some false by decide +kernel)
  | .tuple _ => (show kitB "tuple" "tuple" = some true by decide +kernel)
  | .dict _ => (show kitB "dict" "tuple" = some false by decide +kernel)
  | .scr _ => (show kitB "list" "tuple" = some false by decide +kernel)
  | .row _ => (show kitB "tuple" "tuple" = some true by decide +kernel)
theorem isi_list (d : D) : kitB (tyN d) "list" = some (isLst d) := match d with
  | .none => (show kitB "NoneType" "list" = some false by decide +kernel)
  | .bool _ => (show kitB "bool" "list" = some false by decide +kernel)
  | .int _ => (show kitB "int" "list" = some false by decide +kernel)
  | .str _ => (show kitB "str" "list" = some false by decide +kernel)
  | .list _ => (show kitB "list" "list" = some true by decide +kernel)
  | .tuple _ => (show kitB "tuple" "list" = some false by decide +kernel)
  | .dict _ => (show kitB "dict" "list" = some false by decide +kernel)
  | .scr _ => (show kitB "list" "list" = some true by decide +kernel)
  | .row _ => (show kitB "tuple" "list" = some false by decide +kernel)
theorem isi_str (d : D) : kitB (tyN d) "str" = some (isStr d) := match d with
  | .none => (show kitB "NoneType" "str" = some false by decide +kernel)
  | .bool _ => (show kitB "bool" "str" = some false by decide +kernel)
  | .int _ => (show kitB "int" "str" = some false by decide +kernel)
  | .str _ => (show kitB "str" "str" = some true by decide +kernel)
  | .list _ => (show kitB "list" "str" = some false by decide +kernel)
  | .tuple _ => (show kitB "tuple" "str" = some false by decide +kernel)
  | .dict _ => (show kitB "dict" "str" = some false by decide +kernel)
  | .scr _ => (show kitB "list" "str" = some false by decide +kernel)
  | .row _ => (show kitB "tuple" "str" = some false by decide +kernel)
theorem Rp.ty {K : PySem.W.Frag} {G H : Hp} {v : V} {d : D} (h : Rp K G v d) (e : Ex G H) : TyX K H v (.type (tyN d)) := by
  cases h with
  | non => exact .base .non
  | bl b => exact .base (.bl b)
  | int b => exact .base (.int b)
  | str b => exact .base (.str b)
  | lst h r =>
    rcases e.rd h with h | ⟨o, h⟩
    · exact .base (.lst h)
    · exact .base (.frz h)
  | tup h r =>
    rcases e.t h with (h | ⟨o, h⟩) | ⟨o, its, n, h1, h2, _⟩
    · exact .base (.tup h)
    · exact .fTuple h
    · exact .kTuple h1 h2
  | scr h =>
    rcases h with h | ⟨o, its, n, h1, h2, _⟩
    · rcases e.rd h with h | ⟨o, h⟩
      · exact .base (.lst h)
      · exact .base (.frz h)
    · exact .kList h1 h2
  | dK h r => exact .base (.dK (e _ _ h))
  | dT h r => exact .base (.dT (e _ _ h))
  | row h d r => exact .fTuple (e _ _ h)
theorem je_isi {T : String} {f : D → Bool} (hf : ∀ d, kitB (tyN d) T = some (f d)) {x : Str} {p p2 : Pos} {β : Type} {m : R β} {d : β → D} {ρ' : β → List Slot} (h : JE X B ρ a m (fun b => .val (d b)) ρ') (hmi : X.mg "isinstance" = none) (hm : X.mg x = none) (hv : bootBuiltins x = some (.type T))
    (hgi : Gl X "isinstance" := by rfl) (hg : Gl X x := by rfl) (hn : x ≠ "__name__" := by decide) (hd : (x == ("__debug__" : Str)) = false := by decide)
    (h1 : starEach [a, .Name x p2] X.env = (false, eval a X.env) :: starEach [.Name x p2] X.env := by rfl) (h2 : starEach [.Name x p2] X.env = (false, eval (.Name x p2) X.env) :: starEach [] X.env := by rfl) (h3 : (backTo pos (starEach [.Name x p2] X.env)).any (·.1) = false := by rfl) :
    JE X B ρ (.Call (.Name "isinstance" p) [a, .Name x p2] [] pos) m (fun b => .val (.bool (f (d b)))) ρ' :=
  PE_imp (pe_callB call_isi hgi hmi (by decide +kernel) (pa_cons h (pa_cons (pe_bltn hg hm hv (v := .ty T) rfl hn hd) pa_nil h2) h1) (by decide) (by decide) h1 h3) fun σ H Q ⟨G, E, q⟩ => ⟨G, E, R.post_mono q fun b k v G1 H1 x1 E1 =>
    ⟨v, .ty T, .type (tyN (d b)), .type T, f (d b), rfl, .ty T, E1.top.ty E1.sub, kit_ty (hf _), k _ G1 H1 x1 (E1.pop.push (.bl _))⟩⟩
/-! ### subscripts -/
section
variable {K : PySem.W.Frag}
theorem od_ixT {ds : List D} {i : Int} : OpD K B (rIxT K) (.tuple ds) (.int i) (R.some (atI ds i)) (fun d => .val d) := fun G H σ ρ vx vy Q E hx hy q => by
  obtain ⟨d, hd, q⟩ := R.post_some q
  obtain ⟨a, xs, rfl, hS, hr⟩ := hx.tup_inv
  obtain ⟨j, hj, hd⟩ := Option.bind_eq_some_iff.mp hd
  obtain ⟨v, hv, rv⟩ := hr.get hd
  refine ⟨a, xs, i, v, rfl, hy.int_inv, E.sub.t hS, ?_, q v G H (Ex.refl G) (E.push rv)⟩
  unfold atI
  rw [hr.len, hj]
  exact hv
theorem od_ixL {ds : List D} {i : Int} : OpD K B (rIxL K) (.list ds) (.int i) (R.some (atI ds i)) (fun d => .val d) := fun G H σ ρ vx vy Q E hx hy q => by
  obtain ⟨d, hd, q⟩ := R.post_some q
  obtain ⟨a, xs, rfl, hS, hr⟩ := hx.lst_inv
  obtain ⟨j, hj, hd⟩ := Option.bind_eq_some_iff.mp hd
  obtain ⟨v, hv, rv⟩ := hr.get hd
  refine ⟨a, xs, i, v, rfl, hy.int_inv, .inl (E.sub.rd hS), ?_, q v G H (Ex.refl G) (E.push rv)⟩
  unfold atI
  rw [hr.len, hj]
  exact hv
theorem atI_map {α β : Type} (f : α → β) (xs : List α) (i : Int) : atI (xs.map f) i = (atI xs i).map f := by
  unfold atI
  rw [List.length_map]
  cases ixN xs.length i with
  | none => rfl
  | some j => simp
theorem od_map {r : R2} {x y : D} {α : Type} {o : Option α} {f : α → D} (h : OpD K B r x y (R.some (o.map f)) (fun d => .val d)) : OpD K B r x y (R.some o) (fun a => .val (f a)) := fun G H σ ρ vx vy Q E hx hy q => by
  obtain ⟨d, hd, q⟩ := R.post_some q
  refine h G H σ ρ vx vy Q E hx hy ?_
  rw [hd]
  exact q
/-- one kind of items -/
theorem od_ixTm {α : Type} {f : α → D} {xs : List α} {i : Int} : OpD K B (rIxT K) (.tuple (xs.map f)) (.int i) (R.some (atI xs i)) (fun a => .val (f a)) := od_map (by rw [← atI_map]; exact od_ixT)
theorem od_ixLm {α : Type} {f : α → D} {xs : List α} {i : Int} : OpD K B (rIxL K) (.list (xs.map f)) (.int i) (R.some (atI xs i)) (fun a => .val (f a)) := od_map (by rw [← atI_map]; exact od_ixL)
/-- a place known -/
theorem od_ixTs {ds : List D} {i : Int} {d : D} (h : atI ds i = some d) : OpD K B (rIxT K) (.tuple ds) (.int i) (.ok ()) (fun _ => .val d) := fun G H σ ρ vx vy Q E hx hy q => od_ixT G H σ ρ vx vy Q E hx hy (by rw [h]; exact q)
theorem od_ixLs {ds : List D} {i : Int} {d : D} (h : atI ds i = some d) : OpD K B (rIxL K) (.list ds) (.int i) (.ok ()) (fun _ => .val d) := fun G H σ ρ vx vy Q E hx hy q => od_ixL G H σ ρ vx vy Q E hx hy (by rw [h]; exact q)
end
/-- o[k], o an owned list of data -/
theorem je_ixO (i : Nat) {x : Str} {px : Pos} {l : Nat} {α : Type} {en : α → D} {xs : List α} {k : Int} (h : ρ[i]? = some (.own l (.lst ((xs.map en).map OT.dat))) := by rfl) (hk : JP X B ρ b (.int k)) (hal : noAlis ρ = true := by rfl) (hN : X.N[i]? = some x := by rfl)
    (hv : Vis X.env.scope x := by first | exact Or.inl rfl | exact Or.inr (Or.inl rfl) | exact Or.inr (Or.inr rfl)) (hd : (x == ("__debug__" : Str)) = false := by decide) (hcd : (x == ("__classdict__" : Str)) = false := by decide) (hs : PlainIx b := by exact fun _ _ => rfl) :
    JE X B ρ (.Subscript (.Name x px) b pos) (R.some (atI xs k)) (fun y => .val (en y)) (fun _ => ρ) :=
  PE_imp (pe_ix ix_list (pv i hN hv hd hcd) hk hs) fun σ H Q ⟨G, E, q⟩ => by
    obtain ⟨p, vs, e1, e2, e3, e4⟩ := E.ownD h hal
    obtain ⟨y, hy, q⟩ := R.post_some q
    refine ⟨.ref p, e1, G, E, fun w G1 H1 x1 E1 => ?_⟩
    have hn := E1.top.int_inv
    obtain ⟨p', vs', g1, g2, g3, g4⟩ := E1.pop.ownD h hal
    have ep : p' = p := by
      have z := g1.symm.trans e1
      injection z with z
      injection z with z
      injection z
    subst ep
    have hy' : atI (xs.map en) k = some (en y) := by rw [atI_map, hy]; rfl
    obtain ⟨j, hj, hd⟩ := Option.bind_eq_some_iff.mp hy'
    obtain ⟨v, hv, rv⟩ := g3.get hd
    refine ⟨p', vs', k, v, rfl, hn, .inl (.inl g2), ?_, q v G1 H1 x1 (E1.pop.push rv)⟩
    unfold atI
    rw [g3.len, hj]
    exact hv
/-! ### slices -/
def tJO (K : PySem.W.Frag) (B : Base) (ρ : List Slot) (o : Option Int) : TO := fun σ H Q => ∃ G, En K B G H σ ρ [] ∧ ∀ G' H', Ex G G' → En K B G' H' σ ρ [] → Q o H'
def JO (X : Cx) (B : Base) (ρ : List Slot) (e : Option Expr) (o : Option Int) : Prop := PO X e (tJO X.K B ρ o)
theorem PO_imp {e : Option Expr} {t t' : TO} (h : PO X e t) (k : ∀ σ H Q, t' σ H Q → t σ H Q) : PO X e t' := ⟨fun pins s σ H Q I q => h.run pins s σ H Q I (k σ H Q q)⟩
theorem jo_none : JO X B ρ none none := PO_imp po_none fun σ H Q ⟨G, E, q⟩ => q G H (Ex.refl G) E
theorem jo_some {i : Int} (h : JP X B ρ e (.int i)) : JO X B ρ (some e) (some i) := PO_imp (po_some h) fun σ H Q ⟨G, E, q⟩ => ⟨G, E, fun v G1 H1 x1 E1 => ⟨i, E1.top.int_inv, q G1 H1 x1 E1.pop⟩⟩
/-- a slice of a list -/
def cut {α : Type} (xs : List α) (lo hi : Option Int) : List α := (xs.drop (HT.sIx xs.length 0 lo)).take (HT.sIx xs.length xs.length hi - HT.sIx xs.length 0 lo)
theorem cut_map {α β : Type} (f : α → β) (xs : List α) (lo hi : Option Int) : cut (xs.map f) lo hi = (cut xs lo hi).map f := by
  unfold cut
  rw [List.length_map, List.map_take, List.map_drop]
theorem cut_rp {K : PySem.W.Frag} {G : Hp} {xs : List V} {ds : List D} {lo hi : Option Int} (h : RpAll K G xs ds) : RpAll K G (cutV xs lo hi) (cut ds lo hi) := by
  unfold cutV cut
  rw [h.len]
  exact (h.drop _).take _
theorem je_slL {o1 o2 : Option Expr} {p2 : Pos} {lo hi : Option Int} {β : Type} {m : R β} {ds : β → List D} {ρ' : β → List Slot} (h : JE X B ρ a m (fun b => .val (.list (ds b))) ρ') (h1 : ∀ b, JO X B (ρ' b) o1 lo) (h2 : ∀ b, JO X B (ρ' b) o2 hi) :
    JE X B ρ (.Subscript a (.Slice o1 o2 none p2) pos) m (fun b => .own 0 (.lst ((cut (ds b) lo hi).map OT.dat))) ρ' := by
  have h1' : PO X o1 (fun σ H Q => ∃ b, tJO X.K B (ρ' b) lo σ H Q) := ⟨fun pins s σ H Q I ⟨b, q⟩ => (h1 b).run pins s σ H Q I q⟩
  have h2' : PO X o2 (fun σ H Q => ∃ b, tJO X.K B (ρ' b) hi σ H Q) := ⟨fun pins s σ H Q I ⟨b, q⟩ => (h2 b).run pins s σ H Q I q⟩
  refine PE_imp (pe_slice sl_list h h1' h2') fun σ H Q ⟨G, E, q⟩ => ⟨G, E, R.post_mono q fun b k v G1 H1 x1 E1 => ⟨b, G1, E1.pop, fun G2 H2 x2 E2 => ⟨b, G2, E2, fun G3 H3 x3 E3 => ?_⟩⟩⟩
  obtain ⟨p, xs, rfl, hS, hr⟩ := E1.top.lst_inv
  have x13 := x2.trans x3
  exact ⟨p, xs, rfl, .inl ((x13.trans E3.sub).rd hS), fun q' hq => k _ G3 _ (x1.trans x13) (E3.newL hq (cut_rp (RpAll.ex x13 hr)))⟩
theorem je_slS {o1 o2 : Option Expr} {p2 : Pos} {lo hi : Option Int} {β : Type} {m : R β} {ns : β → List Int} {ρ' : β → List Slot} (h : JE X B ρ a m (fun b => .val (.scr (ns b))) ρ') (h1 : ∀ b, JO X B (ρ' b) o1 lo) (h2 : ∀ b, JO X B (ρ' b) o2 hi) :
    JE X B ρ (.Subscript a (.Slice o1 o2 none p2) pos) m (fun b => .own 0 (.lst (((cut (ns b) lo hi).map D.int).map OT.dat))) ρ' := by
  have h1' : PO X o1 (fun σ H Q => ∃ b, tJO X.K B (ρ' b) lo σ H Q) := ⟨fun pins s σ H Q I ⟨b, q⟩ => (h1 b).run pins s σ H Q I q⟩
  have h2' : PO X o2 (fun σ H Q => ∃ b, tJO X.K B (ρ' b) hi σ H Q) := ⟨fun pins s σ H Q I ⟨b, q⟩ => (h2 b).run pins s σ H Q I q⟩
  refine PE_imp (pe_slice sl_list h h1' h2') fun σ H Q ⟨G, E, q⟩ => ⟨G, E, R.post_mono q fun b k v G1 H1 x1 E1 => ⟨b, G1, E1.pop, fun G2 H2 x2 E2 => ⟨b, G2, E2, fun G3 H3 x3 E3 => ?_⟩⟩⟩
  obtain ⟨p, rfl, hS⟩ := E1.top.scr_inv
  have x13 := x2.trans x3
  refine ⟨p, _, rfl, (x13.trans E3.sub).l hS, fun q' hq => k _ G3 _ (x1.trans x13) (E3.newL hq ?_)⟩
  rw [← cut_map]
  exact cut_rp (RpAll.of_ints (ns b))
/-! ### lists joined -/
def rCatR : R2 := fun x y H Q => ∃ l b xs zs, x = .ref l ∧ y = .ref b ∧ Rd H l (.lst xs) ∧ Rd H b (.lst zs) ∧ xs.length + zs.length ≤ sizeLine ∧ ∀ p, H p = none → Q (.ref p) (upd H p (.lst (xs ++ zs)))
theorem op_catR : OpR X (binaryOp .Add) rCatR := by
  intro pins s σ H x y v u Q I rx ry h
  obtain ⟨l, b, xs, zs, rfl, rfl, hH, hB, hz, q⟩ := h
  cases rx
  cases ry
  obtain ⟨z1, i1, n1, r1, g1⟩ := hH.ok I.hok
  obtain ⟨z2, i2, n2, r2, g2⟩ := hB.ok I.hok
  have l1 := r1.length
  have l2 := r2.length
  refine PySem.P.add_list g1 g2 ?_ (by simp only [List.size_toArray]; omega)
  rw [List.append_toArray]
  exact ⟨.ref _, _, I.lnew (t' := s.toks) (r1.append r2) (by simp only [List.length_append]; omega), rfl, q _ I.fresh⟩
theorem od_cat {K : PySem.W.Frag} {ds es : List D} : OpD K B rCatR (.list ds) (.list es) (R.guard (ds.length + es.length ≤ sizeLine)) (fun _ => .own 0 (.lst ((ds ++ es).map OT.dat))) := fun G H σ ρ vx vy Q E hx hy q => by
  obtain ⟨hc, q⟩ := R.post_guard q
  obtain ⟨a, xs, rfl, hS, hr⟩ := hx.lst_inv
  obtain ⟨b, ys, rfl, hS2, hr2⟩ := hy.lst_inv
  exact ⟨a, b, xs, ys, rfl, rfl, E.sub.rd hS, E.sub.rd hS2, by rw [hr.len, hr2.len]; exact hc, fun p hp => q _ G _ (Ex.refl G) (E.newL hp (hr.append hr2))⟩
end
end DL

/-! DL8: a def keeps its mirror's promise -/
namespace DL
open PySem PySem.Spec L2

/-- a def as the head tells it -/
abbrev FnP (K : PySem.W.Frag) (x : Str) (st : Stmt) (f : Addr) (fd : FuncData) : Prop := FunD K x x (defArgs st) (defBody st) (defScope st) [] [] f fd
/-- a def behind the top: where it stands, its name, how arguments come -/
structure DT (K : PySem.W.Frag) (mg : Str → Option Value) (x : Str) (st : Stmt) (ps : List Str) where
  a : Addr
  d : FuncData
  f : FnP K x st a d
  g : mg x = some (.ref a)
  b : Binds K d ps []
/-- it always returns -/
def fin0 {N L T : Type} (m : R (Fl N L T)) : R T := m.bind fun
  | .rt t => .ok t
  | _ => .bad
/-- it never returns a value -/
def finN {N L T : Type} (m : R (Fl N L T)) : R N := m.bind fun
  | .nx n => .ok n
  | _ => .bad
section
variable {P : Program} {w : World} {K : PySem.W.Frag} {mg : Str → Option Value} {base : Heap} {x : Str} {st : Stmt} {f : Addr} {fd : FuncData} {N ps : List Str} {k : Nat}
theorem start_en {B : Base} {G H : Hp} {vs : List V} {ρ : List Slot} {d : Nat} (E : En K B G H (vs.map some) ρ []) (hN : N.length = vs.length + d) : En K B G H (L2.start N vs) (ρ ++ List.replicate d .non) [] := by
  unfold L2.start
  rw [show N.length - vs.length = d by omega]
  obtain ⟨A, c, n, g⟩ := E.own
  have ap : ∀ {σ : L2.St} {ρ : List Slot} {A : List Addr}, Cells K B G H σ ρ A → Cells K B G H (σ ++ List.replicate d none) (ρ ++ List.replicate d .non) A := by
    intro σ ρ A h
    induction h with
    | nil =>
      have nn : ∀ m : Nat, Cells K B G H (List.replicate m none) (List.replicate m .non) [] := by
        intro m
        induction m with
        | zero => exact .nil
        | succ m ih => exact .cons (A := []) .non ih
      exact nn d
    | cons c r ih => exact .cons c ih
  refine ⟨E.anc, ⟨A, ap (show Cells K B G H (vs.map some) ρ A from c), n, g⟩, by simp [← E.len], fun i j p e => ?_⟩
  by_cases hi : i < ρ.length
  · rw [List.getElem?_append_left hi] at e
    obtain ⟨v, w, h1, h2, h3⟩ := E.ali i j p e
    have l1 : i < (vs.map some).length := by rw [E.len]; exact hi
    have l2 : j < (vs.map some).length := (List.getElem?_eq_some_iff.mp h2).1
    exact ⟨v, w, by rw [List.getElem?_append_left l1]; exact h1, by rw [List.getElem?_append_left l2]; exact h2, h3⟩
  · rw [List.getElem?_append_right (by omega)] at e
    have := (List.mem_replicate.mp (List.mem_of_getElem? e)).2
    cases this
def okOuts : Nat → List Slot → Bool
  | _, [] => true
  | n, .non :: r => okOuts (n + 1) r
  | n, .own l _ :: r => l == n + 1 && okOuts (n + 1) r
  | _, _ :: _ => false
theorem okOuts_ali : ∀ {ρ : List Slot} {n : Nat}, okOuts n ρ = true → ∀ {i j : Nat} {p : List Nat}, ρ[i]? ≠ some (.ali j p)
  | [], _, _, _, _, _ => fun e => nomatch e
  | s :: ρ, n, h, i, j, p => fun e => by
    have h' : okOuts (n + 1) ρ = true ∧ s ≠ .ali j p := by
      cases s <;> simp [okOuts] at h
      · exact ⟨h, fun z => nomatch z⟩
      · exact ⟨h.2, fun z => nomatch z⟩
    cases i with
    | zero =>
      simp at e
      exact h'.2 e
    | succ i => exact okOuts_ali h'.1 (i := i) (by simpa using e)
theorem stop_en {B : Base} {G H : Hp} {vs : List V} {σ : L2.St} {ρ : List Slot} {d : Nat} {v : V} {s : Slot} (E : En K B G H σ (ρ ++ List.replicate d .non) [(v, s)]) (hv : ∀ k, B.pv (k + 1) = vs[k]?) (ho : okOuts 0 ρ = true) (hl : vs.length = ρ.length) : En K B G H (vs.map some) ρ [(v, s)] := by
  obtain ⟨A, c, n, g⟩ := E.own
  cases c with
  | @cons _ _ A1 _ _ A2 c1 cr =>
    have cut : ∀ {ρ : List Slot} {σ : L2.St} {A : List Addr} {ws : List V} (n : Nat), Cells K B G H σ (ρ ++ List.replicate d .non) A → (∀ k, B.pv (n + k + 1) = ws[k]?) → okOuts n ρ = true → ws.length = ρ.length → Cells K B G H (ws.map some) ρ A := by
      intro ρ
      induction ρ with
      | nil =>
        intro σ A ws n h _ _ hl
        have nn : ∀ (m : Nat) {σ : L2.St} {A : List Addr}, Cells K B G H σ (List.replicate m .non) A → A = [] := by
          intro m
          induction m with
          | zero =>
            intro σ A h
            cases h
            rfl
          | succ m ih =>
            intro σ A h
            cases h with
            | cons c r =>
              cases c
              rw [ih r]
              rfl
        have e := nn d h
        subst e
        cases ws with
        | nil => exact .nil
        | cons a b => cases hl
      | cons s ρ ih =>
        intro σ A ws n h hv ho hl
        cases h with
        | @cons x0 _ B1 σ0 _ B2 c r =>
          cases ws with
          | nil => cases hl
          | cons y ws =>
            have tl : okOuts (n + 1) ρ = true → Cells K B G H (ws.map some) ρ B2 := fun ho => ih (n + 1) r (fun k => by
              have := hv (k + 1)
              rw [show n + (k + 1) + 1 = n + 1 + k + 1 by omega] at this
              simpa using this) ho (by simpa using hl)
            cases c with
            | non => exact .cons .non (tl (by simpa [okOuts] using ho))
            | val h => simp [okOuts] at ho
            | ali => simp [okOuts] at ho
            | @own u l o _ hO hr hp =>
              have ho' : l = n + 1 ∧ okOuts (n + 1) ρ = true := by simpa [okOuts] using ho
              obtain ⟨rfl, ho2⟩ := ho'
              have e1 := hp.resolve_left (Nat.succ_ne_zero n)
              have e2 := hv 0
              rw [show n + 0 + 1 = n + 1 by omega, e1] at e2
              have e3 : u = y := by simpa using e2
              subst e3
              exact .cons (.own hO hr hp) (tl ho2)
    exact ⟨E.anc, ⟨_, .cons c1 (cut 0 (show Cells K B G H σ (ρ ++ List.replicate d .non) A2 from cr) (fun k => by rw [Nat.zero_add]; exact hv k) ho hl), n, g⟩, by rw [List.length_map]; exact hl, fun i j p e => absurd e (okOuts_ali ho)⟩
/-- THE RULE: the body's mirror is the def's -/
theorem fn_ok {α β N1 L1 : Type} {ins : α → List Slot} {sl : β → Slot} {outs : β → List Slot} {n1 : N1 → List Slot} {c1 k1 : L1 → List Slot} (mb : α → R (Fl N1 L1 β)) (d : Nat) (F : FnP K x st f fd) (S : FnScope N ps (defScope st)) (hN : N.length = ps.length + d)
    (hi : ∀ a, (ins a).length = ps.length) (ho : ∀ b, okOuts 0 (outs b) = true) (ho2 : ∀ b, (outs b).length = ps.length)
    (hbody : ∀ (cdv : Value) (A : Around) (outer : List PySem.Env) (s : Shared) (H : Hp) (E : XK), RoomG k (A.deeper (PyProof.Rows.envOfC x (defScope st) s.heap.objs.size f cdv)) → ∀ (B : Base), (∀ e, ¬ B.rs e) → ∀ a,
      JSs (cxOf CX0 P w K mg base N x (defScope st) f cdv A outer s H E).nox B (ins a ++ List.replicate d .non) (defBody st) (mb a) ⟨n1, c1, k1, sl, fun b => outs b ++ List.replicate d .non⟩) :
    FnG P w K mg base CX0 (k + 1) f fd ps (spM K ins (fun a => fin0 (mb a)) sl outs) := by
  refine fn_ofG F S (fun vs H Q E h => ?_) fun cdv A outer s H vs Q E hr h => ?_
  · obtain ⟨a, G, As, E0, _⟩ := h
    have := E0.len
    rw [List.length_map] at this
    rw [this, hi a]
  · obtain ⟨a, G, As, E0, q⟩ := h
    have hl : vs.length = ps.length := by
      have := E0.len
      rw [List.length_map] at this
      rw [this, hi a]
    refine ⟨_, (hbody cdv A outer s H E hr (baseOf H G As vs fun _ => False) (fun e z => z) a).nox, G, start_en E0 (by rw [hN, hl]), ?_⟩
    have q' := R.post_bind.mp q
    refine R.post_mono q' fun fl q1 => ?_
    cases fl with
    | nx n => exact q1.elim
    | ct n => exact q1.elim
    | bk n => exact q1.elim
    | rt b => exact fun v σ' G' H' x1 E1 => q1 v G' H' (stop_en E1 (fun k => rfl) (ho b) (by rw [hl, ho2 b]))
/-- .. of a def that hands back nothing -/
theorem fn_okN {α β T1 L1 : Type} {ins : α → List Slot} {outs : β → List Slot} {s1 : T1 → Slot} {t1 : T1 → List Slot} {c1 k1 : L1 → List Slot} (mb : α → R (Fl β L1 T1)) (d : Nat) (F : FnP K x st f fd) (S : FnScope N ps (defScope st)) (hN : N.length = ps.length + d)
    (hi : ∀ a, (ins a).length = ps.length) (ho : ∀ b, okOuts 0 (outs b) = true) (ho2 : ∀ b, (outs b).length = ps.length)
    (hbody : ∀ (cdv : Value) (A : Around) (outer : List PySem.Env) (s : Shared) (H : Hp) (E : XK), RoomG k (A.deeper (PyProof.Rows.envOfC x (defScope st) s.heap.objs.size f cdv)) → ∀ (B : Base), (∀ e, ¬ B.rs e) → ∀ a,
      JSs (cxOf CX0 P w K mg base N x (defScope st) f cdv A outer s H E).nox B (ins a ++ List.replicate d .non) (defBody st) (mb a) ⟨fun b => outs b ++ List.replicate d .non, c1, k1, s1, t1⟩) :
    FnG P w K mg base CX0 (k + 1) f fd ps (spM K ins (fun a => finN (mb a)) (fun _ => .val .none) outs) := by
  refine fn_ofG F S (fun vs H Q E h => ?_) fun cdv A outer s H vs Q E hr h => ?_
  · obtain ⟨a, G, As, E0, _⟩ := h
    have := E0.len
    rw [List.length_map] at this
    rw [this, hi a]
  · obtain ⟨a, G, As, E0, q⟩ := h
    have hl : vs.length = ps.length := by
      have := E0.len
      rw [List.length_map] at this
      rw [this, hi a]
    refine ⟨_, (hbody cdv A outer s H E hr (baseOf H G As vs fun _ => False) (fun e z => z) a).nox, G, start_en E0 (by rw [hN, hl]), ?_⟩
    have q' := R.post_bind.mp q
    refine R.post_mono q' fun fl q1 => ?_
    cases fl with
    | rt n => exact q1.elim
    | ct n => exact q1.elim
    | bk n => exact q1.elim
    | nx b => exact fun σ' G' H' x1 E1 => q1 .non G' H' (stop_en (E1.push .non) (fun k => rfl) (ho b) (by rw [hl, ho2 b]))
end
end DL

/-! DL9: forms for the printed walks -/
namespace DL
open PySem PySem.Spec L2

/-- a value named -/
def lt {α β : Type} (v : α) (k : α → β) : β := k v
@[reducible] def eT {α : Type} (f : α → D) (l : List α) : D := .tuple (l.map f)
@[reducible] def eL {α : Type} (f : α → D) (l : List α) : D := .list (l.map f)
@[reducible] def eD (d : D) : D := d
@[reducible] def eU (_ : Unit) : D := .none
@[reducible] def eP2 {α β : Type} (f : α → D) (g : β → D) (p : α × β) : D := .tuple [f p.1, g p.2]
@[reducible] def eP3 {α β γ : Type} (f : α → D) (g : β → D) (h : γ → D) (p : α × β × γ) : D := .tuple [f p.1, g p.2.1, h p.2.2]
@[reducible] def eP4 {α β γ δ : Type} (f : α → D) (g : β → D) (h : γ → D) (i : δ → D) (p : α × β × γ × δ) : D := .tuple [f p.1, g p.2.1, h p.2.2.1, i p.2.2.2]
@[reducible] def oL {α : Type} (f : α → D) (l : List α) : OT := .lst ((l.map f).map OT.dat)
theorem toDs_dat : ∀ ds : List D, OT.toDs (ds.map OT.dat) = ds
  | [] => by rw [List.map_nil, OT.toDs]
  | d :: ds => by rw [List.map_cons, OT.toDs, OT.toD, toDs_dat ds]
theorem oL_toD {α : Type} (f : α → D) (l : List α) : (oL f l).toD = eL f l := by
  show OT.toD (.lst _) = _
  rw [OT.toD, toDs_dat]
section
variable {X : Cx} {B : Base} {ρ : List Slot} {e a b : Expr} {es : List Expr} {rest : List Stmt} {pos : Pos} {N L T β α : Type} {F : Fin N L T}
theorem je_frzL {m : R β} {f : α → D} {v : β → List α} {ρ' : β → List Slot} (h : JE X B ρ e m (fun b => .own 0 (oL f (v b))) ρ') : JE X B ρ e m (fun b => .val (eL f (v b))) ρ' := by
  have := je_frz h
  simp only [oL_toD] at this
  exact this
/-- an owned slot, read as data for good -/
theorem js_setP (i : Nat) {x : Str} {pos' : Pos} (en : α → D) (v : α) {k : α → R (Fl N L T)} (hN : X.N.Nodup) (h : JP X B ρ e (en v)) (r : ∀ x, JSs X B (ρ.set i (.val (en x))) rest (k x) F) (hi : X.N[i]? = some x := by rfl) (hx : Loc X.env.scope x := by first | exact Or.inl rfl | exact Or.inr rfl)
    (hlt : i < ρ.length := by exact of_decide_eq_true rfl) (hal : noAli i ρ = true := by rfl) (hs : swapsWith e (some (.Name x pos')) pos.line X.env = pure false := by rfl) (hf : X.fn x = true ∨ X.env.scope.names.lookup x = some .local := by first | exact .inl rfl | exact .inr rfl) :
    JSs X B ρ (.Assign [.Name x pos'] e pos :: rest) (lt v k) F :=
  js_cons1 (k := fun _ => k v) (j1_set i hN h hi hx (fun _ => hlt) (fun _ => hal) (fun _ => rfl) hs hf) fun _ => r v
theorem js_setE (i : Nat) {x : Str} {pos' : Pos} (en : α → D) {m : R β} (v : β → α) {ρ' : β → List Slot} {k : β → α → R (Fl N L T)} (hN : X.N.Nodup) (h : JE X B ρ e m (fun b => .val (en (v b))) ρ') (r : ∀ b x, JSs X B ((ρ' b).set i (.val (en x))) rest (k b x) F) (hi : X.N[i]? = some x := by rfl) (hx : Loc X.env.scope x := by first | exact Or.inl rfl | exact Or.inr rfl)
    (hlt : ∀ b, i < (ρ' b).length := by intro _; exact of_decide_eq_true rfl) (hal : ∀ b, noAli i (ρ' b) = true := by intro _; rfl) (hs : swapsWith e (some (.Name x pos')) pos.line X.env = pure false := by rfl) (hf : X.fn x = true ∨ X.env.scope.names.lookup x = some .local := by first | exact .inl rfl | exact .inr rfl) :
    JSs X B ρ (.Assign [.Name x pos'] e pos :: rest) (m.bind fun b => lt (v b) (k b)) F :=
  js_cons1 (j1_set i hN h hi hx hlt hal (fun _ => rfl) hs hf) fun b => r b (v b)
theorem js_setO (i : Nat) {x : Str} {pos' : Pos} (on : α → OT) {m : R β} (v : β → α) {ρ' : β → List Slot} {k : β → α → R (Fl N L T)} (hN : X.N.Nodup) (h : JE X B ρ e m (fun b => .own 0 (on (v b))) ρ') (r : ∀ b x, JSs X B ((ρ' b).set i (.own 0 (on x))) rest (k b x) F) (hi : X.N[i]? = some x := by rfl) (hx : Loc X.env.scope x := by first | exact Or.inl rfl | exact Or.inr rfl)
    (hlt : ∀ b, i < (ρ' b).length := by intro _; exact of_decide_eq_true rfl) (hal : ∀ b, noAli i (ρ' b) = true := by intro _; rfl) (hs : swapsWith e (some (.Name x pos')) pos.line X.env = pure false := by rfl) (hf : X.fn x = true ∨ X.env.scope.names.lookup x = some .local := by first | exact .inl rfl | exact .inr rfl) :
    JSs X B ρ (.Assign [.Name x pos'] e pos :: rest) (m.bind fun b => lt (v b) (k b)) F :=
  js_cons1 (j1_set i hN h hi hx hlt hal (fun _ => rfl) hs hf) fun b => r b (v b)
/-- a statement that just goes on, its mirror pure -/
theorem js_consP {st : Stmt} {ρ' : List Slot} {k : R (Fl N L T)} (h : J1 X B ρ st (.ok ()) (fun _ => ρ')) (r : JSs X B ρ' rest k F) : JSs X B ρ (st :: rest) k F := js_cons1 (k := fun _ => k) h fun _ => r
theorem js_retP (t : T) (bs : List Bool) {s : Slot} (h : JE X B ρ e (.ok ()) (fun _ => s) (fun _ => ρ)) (hs : F.s t = s := by rfl) (ht : forgot ρ bs = F.t t := by rfl) : JS X B ρ (.Return (some e) pos) (.ok (.rt t)) F :=
  js_ret (fun _ => t) bs h (fun _ => hs) fun _ => ht
/-- comparisons as tests -/
theorem jt_op2 {r : R2} (ht : ∀ ta tb, PE X a ta → PE X b tb → PT X e (tTest (tOp r ta tb))) {α β γ : Type} {ma : R α} {mb : α → R β} {xa : α → D} {xb : α → β → D} {ρa : α → List Slot} {ρb : α → β → List Slot} {mr : α → β → R γ} {bn : α → β → γ → Bool}
    (ha : JE X B ρ a ma (fun x => .val (xa x)) ρa) (hb : ∀ x, JE X B (ρa x) b (mb x) (fun y => .val (xb x y)) (ρb x)) (hr : ∀ x y, OpD X.K B r (xa x) (xb x y) (mr x y) (fun z => .val (.bool (bn x y z)))) :
    JT X B ρ e (op2 ma mb mr) (fun p => bn p.1 p.2.1 p.2.2) (fun p => ρb p.1 p.2.1) := by
  have hb' : PE X b (fun σ H Q => ∃ x, tJ X.K B (ρa x) (mb x) (fun y => .val (xb x y)) (ρb x) σ H Q) := ⟨fun pins s σ H Q I ⟨x, q⟩ => (hb x).run pins s σ H Q I q⟩
  refine PT_imp (ht _ _ ha hb') fun σ H Q ⟨G, E, q⟩ => ?_
  refine ⟨G, E, R.post_mono (R.post_bind.mp q) fun x q1 vx G1 H1 x1 E1 => ?_⟩
  refine ⟨x, G1, E1.pop, R.post_mono (R.post_bind.mp q1) fun y q2 vy G2 H2 x2 E2 => ?_⟩
  exact hr x y G2 H2 σ (ρb x y) vx vy _ E2.pop (E1.top.ex x2) E2.top (R.post_mono (R.post_bind.mp q2) fun z q3 v G3 H3 x3 E3 => ⟨_, E3.top.bl_inv, q3 G3 H3 (x1.trans (x2.trans x3)) E3.pop⟩)
theorem jt_op {r : R2} (ht : ∀ ta tb, PE X a ta → PE X b tb → PT X e (tTest (tOp r ta tb))) {x y : D} {γ : Type} {mr : R γ} {bn : γ → Bool} (ha : JP X B ρ a x) (hb : JP X B ρ b y) (hr : OpD X.K B r x y mr (fun z => .val (.bool (bn z)))) : JT X B ρ e mr bn (fun _ => ρ) := by
  refine PT_imp (ht _ _ ha hb) fun σ H Q ⟨G, E, q⟩ => ?_
  refine ⟨G, E, fun vx G1 H1 x1 E1 => ?_⟩
  refine ⟨G1, E1.pop, fun vy G2 H2 x2 E2 => ?_⟩
  exact hr G2 H2 σ ρ vx vy _ E2.pop (E1.top.ex x2) E2.top (R.post_mono q fun z q v G3 H3 x3 E3 => ⟨_, E3.top.bl_inv, q G3 H3 (x1.trans (x2.trans x3)) E3.pop⟩)
/-- lists of one kind -/
theorem je_lstT {β : Type} {m : R β} {as : β → List Ar} {ρ' : β → List Slot} (f : α → D) (xs : β → List α) (h : JA X B ρ es m as ρ') (hd : ∀ b, arDs (as b) = (xs b).map f := by intro _; rfl) (hs : ∀ b, noSlots (as b) = true := by intro _; rfl) (hl : ∀ b, (arDs (as b)).length ≤ 1000 := by intro _; exact of_decide_eq_true rfl) : JE X B ρ (.List es pos) m (fun b => .own 0 (oL f (xs b))) ρ' := by
  have := je_lst (pos := pos) h hs hl
  simp only [hd] at this
  exact this
theorem je_slLm {o1 o2 : Option Expr} {p2 : Pos} {lo hi : Option Int} {m : R β} {f : α → D} {xs : β → List α} {ρ' : β → List Slot} (h : JE X B ρ a m (fun b => .val (eL f (xs b))) ρ') (h1 : ∀ b, JO X B (ρ' b) o1 lo) (h2 : ∀ b, JO X B (ρ' b) o2 hi) :
    JE X B ρ (.Subscript a (.Slice o1 o2 none p2) pos) m (fun b => .own 0 (oL f (cut (xs b) lo hi))) ρ' := by
  have := je_slL (pos := pos) (p2 := p2) h h1 h2
  simp only [cut_map] at this
  exact this
theorem od_catm {K : PySem.W.Frag} {f : α → D} {xs ys : List α} : OpD K B rCatR (eL f xs) (eL f ys) (R.guard (xs.length + ys.length ≤ sizeLine)) (fun _ => .own 0 (oL f (xs ++ ys))) := by
  have := od_cat (K := K) (B := B) (ds := xs.map f) (es := ys.map f)
  simp only [List.length_map] at this
  rw [← List.map_append] at this
  exact this
/-- loops over what is pure -/
theorem ji_rng1P {tg : Expr} {p : Pos} {i : Int} (hm : X.mg "range" = none) (h : JA X B ρ [a] (.ok ()) (fun _ => [.val (.int i)]) (fun _ => ρ)) (hg : Gl X "range" := by rfl) (hs : starEach [a] X.env = [(false, eval a X.env)] := by rfl) :
    JI X B ρ tg (.Call (.Name "range" p) [a] [] pos) (R.guard (rngOk i)) (fun _ => (rng 0 i).map D.int) (fun _ => ρ) :=
  PI_imp (ji_rng1 (fun _ => i) hm h (fun _ => rfl) hg hs) fun σ H Q ⟨G, E, q⟩ => ⟨G, E, by
    obtain ⟨hc, q⟩ := R.post_guard q
    show ((R.guard (rngOk i)).bind fun _ => R.ok ()).post _ _
    unfold R.guard
    rw [if_pos hc]
    exact q⟩
theorem js_forP {α S L T : Type} {xs : List α} {en : α → D} {s0 : S} {tg it : Expr} (ρS : S → List Slot) (ρB : α → S → List Slot) {f : α → S → R (Fl S S T)} {F : Fin S L T} {body : List Stmt} (hp : PassesOwn (model X.prog X.w) X.A X.env X.xe) (hc : X.calm = true)
    (hi : JI X B ρ tg it (.ok ()) (fun _ => xs.map en) (fun _ => ρ)) (bs : List Bool) (hw : forgot ρ bs = ρS s0) (hg : ∀ x s, JG X B (ρS s) tg (en x) (.ok ()) (fun _ => ρB x s))
    (hb : ∀ x s, JSs X B (ρB x s) body (f x s) ⟨ρS, ρS, ρS, F.s, F.t⟩) (hn : F.n = ρS := by rfl) (hs : ∀ v, foldedSetIterable it X.env v = pure v := by intro _; rfl) : JS X B ρ (.For tg it body [] pos) (forR f xs s0) F :=
  js_for (m := .ok ()) (xs := fun _ => xs) (s0 := fun _ => s0) (ρ' := fun _ => ρ) ρS ρB hp hc hi bs (fun _ => hw) hg hb hn hs
theorem jt_pb {t : Bool} (h : TP0 X B ρ e t) : JT X B ρ e (.ok t) (fun b => b) (fun _ => ρ) := h
theorem cb_lenLm {K : PySem.W.Frag} {f : α → D} {xs : List α} : CbD K B ρ (fun xs H Q => ∃ p ys, xs = [.ref p] ∧ (SqL K H p ys ∨ SqT K H p ys) ∧ Q (.int ys.length) H) [.val (eL f xs)] (.ok ()) (fun _ => .val (.int ((xs.length : Nat) : Int))) := by
  have := cb_lenL (K := K) (B := B) (ρ := ρ) (ds := xs.map f)
  rw [List.length_map] at this
  exact this
theorem cb_lenTm {K : PySem.W.Frag} {f : α → D} {xs : List α} : CbD K B ρ (fun xs H Q => ∃ p ys, xs = [.ref p] ∧ (SqL K H p ys ∨ SqT K H p ys) ∧ Q (.int ys.length) H) [.val (eT f xs)] (.ok ()) (fun _ => .val (.int ((xs.length : Nat) : Int))) := by
  have := cb_lenT (K := K) (B := B) (ρ := ρ) (ds := xs.map f)
  rw [List.length_map] at this
  exact this
/-! one part with effects -/
theorem je_opL {r : R2} (ht : ∀ ta tb, PE X a ta → PE X b tb → PE X e (tOp r ta tb)) {α : Type} {ma : R α} {xa y : α → D} {ρa : α → List Slot} {s : α → Slot} (ha : JE X B ρ a ma (fun x => .val (xa x)) ρa) (hb : ∀ x, JP X B (ρa x) b (y x)) (hr : ∀ x, OpD X.K B r (xa x) (y x) (.ok ()) (fun _ => s x)) : JE X B ρ e ma s ρa := by
  have hb' : PE X b (fun σ H Q => ∃ x, tJ X.K B (ρa x) (.ok ()) (fun _ => .val (y x)) (fun _ => ρa x) σ H Q) := ⟨fun pins s σ H Q I ⟨x, q⟩ => (hb x).run pins s σ H Q I q⟩
  exact PE_imp (ht _ _ ha hb') fun σ H Q ⟨G, E, q⟩ => ⟨G, E, R.post_mono q fun x q1 vx G1 H1 x1 E1 => ⟨x, G1, E1.pop, fun vy G2 H2 x2 E2 => hr x G2 H2 σ (ρa x) vx vy Q E2.pop (E1.top.ex x2) E2.top fun v G3 H3 x3 E3 => q1 v G3 H3 (x1.trans (x2.trans x3)) E3⟩⟩
theorem je_opLG {r : R2} (ht : ∀ ta tb, PE X a ta → PE X b tb → PE X e (tOp r ta tb)) {α γ : Type} {ma : R α} {xa y : α → D} {ρa : α → List Slot} {mr : α → R γ} {s : α → γ → Slot} (ha : JE X B ρ a ma (fun x => .val (xa x)) ρa) (hb : ∀ x, JP X B (ρa x) b (y x)) (hr : ∀ x, OpD X.K B r (xa x) (y x) (mr x) (s x)) :
    JE X B ρ e (ma.bind fun x => (mr x).bind fun z => .ok (x, z)) (fun p => s p.1 p.2) (fun p => ρa p.1) := by
  have hb' : PE X b (fun σ H Q => ∃ x, tJ X.K B (ρa x) (.ok ()) (fun _ => .val (y x)) (fun _ => ρa x) σ H Q) := ⟨fun pins s σ H Q I ⟨x, q⟩ => (hb x).run pins s σ H Q I q⟩
  exact PE_imp (ht _ _ ha hb') fun σ H Q ⟨G, E, q⟩ => ⟨G, E, R.post_mono (R.post_bind.mp q) fun x q1 vx G1 H1 x1 E1 => ⟨x, G1, E1.pop, fun vy G2 H2 x2 E2 => hr x G2 H2 σ (ρa x) vx vy Q E2.pop (E1.top.ex x2) E2.top (R.post_mono (R.post_bind.mp q1) fun z q2 v G3 H3 x3 E3 => q2 v G3 H3 (x1.trans (x2.trans x3)) E3)⟩⟩
theorem je_opR {r : R2} (ht : ∀ ta tb, PE X a ta → PE X b tb → PE X e (tOp r ta tb)) {β : Type} {x : D} {mb : R β} {xb : β → D} {ρb : β → List Slot} {s : β → Slot} (ha : JP X B ρ a x) (hb : JE X B ρ b mb (fun y => .val (xb y)) ρb) (hr : ∀ y, OpD X.K B r x (xb y) (.ok ()) (fun _ => s y)) : JE X B ρ e mb s ρb :=
  PE_imp (ht _ _ ha hb) fun σ H Q ⟨G, E, q⟩ => ⟨G, E, fun vx G1 H1 x1 E1 => ⟨G1, E1.pop, R.post_mono q fun y q1 vy G2 H2 x2 E2 => hr y G2 H2 σ (ρb y) vx vy Q E2.pop (E1.top.ex x2) E2.top fun v G3 H3 x3 E3 => q1 v G3 H3 (x1.trans (x2.trans x3)) E3⟩⟩
theorem je_opRG {r : R2} (ht : ∀ ta tb, PE X a ta → PE X b tb → PE X e (tOp r ta tb)) {β γ : Type} {x : D} {mb : R β} {xb : β → D} {ρb : β → List Slot} {mr : β → R γ} {s : β → γ → Slot} (ha : JP X B ρ a x) (hb : JE X B ρ b mb (fun y => .val (xb y)) ρb) (hr : ∀ y, OpD X.K B r x (xb y) (mr y) (s y)) :
    JE X B ρ e (mb.bind fun y => (mr y).bind fun z => .ok (y, z)) (fun p => s p.1 p.2) (fun p => ρb p.1) :=
  PE_imp (ht _ _ ha hb) fun σ H Q ⟨G, E, q⟩ => ⟨G, E, fun vx G1 H1 x1 E1 => ⟨G1, E1.pop, R.post_mono (R.post_bind.mp q) fun y q1 vy G2 H2 x2 E2 => hr y G2 H2 σ (ρb y) vx vy Q E2.pop (E1.top.ex x2) E2.top (R.post_mono (R.post_bind.mp q1) fun z q2 v G3 H3 x3 E3 => q2 v G3 H3 (x1.trans (x2.trans x3)) E3)⟩⟩
theorem jt_opL {r : R2} (ht : ∀ ta tb, PE X a ta → PE X b tb → PT X e (tTest (tOp r ta tb))) {α : Type} {ma : R α} {xa y : α → D} {ρa : α → List Slot} {bn : α → Bool} (ha : JE X B ρ a ma (fun x => .val (xa x)) ρa) (hb : ∀ x, JP X B (ρa x) b (y x)) (hr : ∀ x, OpD X.K B r (xa x) (y x) (.ok ()) (fun _ => .val (.bool (bn x)))) : JT X B ρ e ma bn ρa := by
  have hb' : PE X b (fun σ H Q => ∃ x, tJ X.K B (ρa x) (.ok ()) (fun _ => .val (y x)) (fun _ => ρa x) σ H Q) := ⟨fun pins s σ H Q I ⟨x, q⟩ => (hb x).run pins s σ H Q I q⟩
  exact PT_imp (ht _ _ ha hb') fun σ H Q ⟨G, E, q⟩ => ⟨G, E, R.post_mono q fun x q1 vx G1 H1 x1 E1 => ⟨x, G1, E1.pop, fun vy G2 H2 x2 E2 => hr x G2 H2 σ (ρa x) vx vy _ E2.pop (E1.top.ex x2) E2.top fun v G3 H3 x3 E3 => ⟨_, E3.top.bl_inv, q1 G3 H3 (x1.trans (x2.trans x3)) E3.pop⟩⟩⟩
theorem jt_opLG {r : R2} (ht : ∀ ta tb, PE X a ta → PE X b tb → PT X e (tTest (tOp r ta tb))) {α γ : Type} {ma : R α} {xa y : α → D} {ρa : α → List Slot} {mr : α → R γ} {bn : α → γ → Bool} (ha : JE X B ρ a ma (fun x => .val (xa x)) ρa) (hb : ∀ x, JP X B (ρa x) b (y x)) (hr : ∀ x, OpD X.K B r (xa x) (y x) (mr x) (fun z => .val (.bool (bn x z)))) :
    JT X B ρ e (ma.bind fun x => (mr x).bind fun z => .ok (x, z)) (fun p => bn p.1 p.2) (fun p => ρa p.1) := by
  have hb' : PE X b (fun σ H Q => ∃ x, tJ X.K B (ρa x) (.ok ()) (fun _ => .val (y x)) (fun _ => ρa x) σ H Q) := ⟨fun pins s σ H Q I ⟨x, q⟩ => (hb x).run pins s σ H Q I q⟩
  exact PT_imp (ht _ _ ha hb') fun σ H Q ⟨G, E, q⟩ => ⟨G, E, R.post_mono (R.post_bind.mp q) fun x q1 vx G1 H1 x1 E1 => ⟨x, G1, E1.pop, fun vy G2 H2 x2 E2 => hr x G2 H2 σ (ρa x) vx vy _ E2.pop (E1.top.ex x2) E2.top (R.post_mono (R.post_bind.mp q1) fun z q2 v G3 H3 x3 E3 => ⟨_, E3.top.bl_inv, q2 G3 H3 (x1.trans (x2.trans x3)) E3.pop⟩)⟩⟩
theorem jt_opR {r : R2} (ht : ∀ ta tb, PE X a ta → PE X b tb → PT X e (tTest (tOp r ta tb))) {β : Type} {x : D} {mb : R β} {xb : β → D} {ρb : β → List Slot} {bn : β → Bool} (ha : JP X B ρ a x) (hb : JE X B ρ b mb (fun y => .val (xb y)) ρb) (hr : ∀ y, OpD X.K B r x (xb y) (.ok ()) (fun _ => .val (.bool (bn y)))) : JT X B ρ e mb bn ρb :=
  PT_imp (ht _ _ ha hb) fun σ H Q ⟨G, E, q⟩ => ⟨G, E, fun vx G1 H1 x1 E1 => ⟨G1, E1.pop, R.post_mono q fun y q1 vy G2 H2 x2 E2 => hr y G2 H2 σ (ρb y) vx vy _ E2.pop (E1.top.ex x2) E2.top fun v G3 H3 x3 E3 => ⟨_, E3.top.bl_inv, q1 G3 H3 (x1.trans (x2.trans x3)) E3.pop⟩⟩⟩
theorem jt_opRG {r : R2} (ht : ∀ ta tb, PE X a ta → PE X b tb → PT X e (tTest (tOp r ta tb))) {β γ : Type} {x : D} {mb : R β} {xb : β → D} {ρb : β → List Slot} {mr : β → R γ} {bn : β → γ → Bool} (ha : JP X B ρ a x) (hb : JE X B ρ b mb (fun y => .val (xb y)) ρb) (hr : ∀ y, OpD X.K B r x (xb y) (mr y) (fun z => .val (.bool (bn y z)))) :
    JT X B ρ e (mb.bind fun y => (mr y).bind fun z => .ok (y, z)) (fun p => bn p.1 p.2) (fun p => ρb p.1) :=
  PT_imp (ht _ _ ha hb) fun σ H Q ⟨G, E, q⟩ => ⟨G, E, fun vx G1 H1 x1 E1 => ⟨G1, E1.pop, R.post_mono (R.post_bind.mp q) fun y q1 vy G2 H2 x2 E2 => hr y G2 H2 σ (ρb y) vx vy _ E2.pop (E1.top.ex x2) E2.top (R.post_mono (R.post_bind.mp q1) fun z q2 v G3 H3 x3 E3 => ⟨_, E3.top.bl_inv, q2 G3 H3 (x1.trans (x2.trans x3)) E3.pop⟩)⟩⟩
theorem ja_el {α : Type} {ma : R α} {xa : α → D} {ρa : α → List Slot} {as : α → List Ar} (h : JE X B ρ e ma (fun x => .val (xa x)) ρa) (t : ∀ x, JA X B (ρa x) es (.ok ()) (fun _ => as x) (fun _ => ρa x)) (hst : starEach (e :: es) X.env = (false, eval e X.env) :: starEach es X.env := by rfl) :
    JA X B ρ (e :: es) ma (fun x => .val (xa x) :: as x) ρa := by
  have t' : PA X es (fun σ H Q => ∃ x, tJA X.K B (ρa x) (.ok ()) (fun _ => as x) (fun _ => ρa x) σ H Q) := ⟨fun pos pins s σ H Q I ⟨x, q⟩ => (t x).run pos pins s σ H Q I q⟩
  exact PA_imp (pa_cons h t' hst) fun σ H Q ⟨G, E, q⟩ => ⟨G, E, R.post_mono q fun x k v G1 H1 x1 E1 => ⟨x, G1, E1.pop, fun vs G2 H2 x2 E2 ok => k _ G2 H2 (x1.trans x2) E2 (.val (E1.top.ex x2) ok)⟩⟩
theorem je_cbN {E0 : Expr} {r : List V → Hp → VK → Prop} (hp : ∀ t, PA X es t → PE X E0 (tCB r t)) {β : Type} {ma : R β} {as : β → List Ar} {ρa : β → List Slot} {s : β → Slot} (ha : JA X B ρ es ma as ρa) (hr : ∀ x, CbD X.K B (ρa x) r (as x) (.ok ()) (fun _ => s x)) :
    JE X B ρ E0 ma s ρa :=
  PE_imp (hp _ ha) fun σ H Q ⟨G, E, q⟩ => ⟨G, E, R.post_mono q fun x q1 vs G1 H1 x1 E1 ok => hr x G1 H1 σ vs Q E1 ok fun v G2 H2 x2 E2 => q1 v G2 H2 (x1.trans x2) E2⟩
/-! what needs no look: written numbers -/
theorem od_mulC {K : PySem.W.Frag} {i j : Int} (h : CMul i j := by first | exact .inl (by decide) | exact .inr (by decide)) : OpD K B (rI CMul fun i j => .int (i * j)) (.int i) (.int j) (.ok ()) (fun _ => .val (.int (i * j))) :=
  od_val0 (fun G H vx vy Q _ hx hy q => ⟨i, j, hx.int_inv, hy.int_inv, h, q⟩) fun _ => .int _
theorem od_modC {K : PySem.W.Frag} {i j : Int} (h : 0 < j := by decide) : OpD K B (rI (fun _ j => 0 < j) fun i j => .int (i % j)) (.int i) (.int j) (.ok ()) (fun _ => .val (.int (i % j))) :=
  od_val0 (fun G H vx vy Q _ hx hy q => ⟨i, j, hx.int_inv, hy.int_inv, h, q⟩) fun _ => .int _
theorem od_fdivC {K : PySem.W.Frag} {i j : Int} (h : 0 < j ∧ j < 1073741824 := by decide) : OpD K B (rI CDiv fun i j => .int (i / j)) (.int i) (.int j) (.ok ()) (fun _ => .val (.int (i / j))) :=
  od_val0 (fun G H vx vy Q _ hx hy q => ⟨i, j, hx.int_inv, hy.int_inv, h, q⟩) fun _ => .int _
theorem od_powC {K : PySem.W.Frag} {i j : Int} (h : CPow i j := by decide) : OpD K B (rI CPow fun i j => .int (i ^ j.toNat)) (.int i) (.int j) (.ok ()) (fun _ => .val (.int (i ^ j.toNat))) :=
  od_val0 (fun G H vx vy Q _ hx hy q => ⟨i, j, hx.int_inv, hy.int_inv, h, q⟩) fun _ => .int _
theorem cb_lenP2 {K : PySem.W.Frag} {α β : Type} {f : α → D} {g : β → D} {p : α × β} : CbD K B ρ (fun xs H Q => ∃ p ys, xs = [.ref p] ∧ (SqL K H p ys ∨ SqT K H p ys) ∧ Q (.int ys.length) H) [.val (eP2 f g p)] (.ok ()) (fun _ => .val (.int 2)) := cb_lenT (ds := [f p.1, g p.2])
theorem cb_lenP3 {K : PySem.W.Frag} {α β γ : Type} {f : α → D} {g : β → D} {h : γ → D} {p : α × β × γ} : CbD K B ρ (fun xs H Q => ∃ p ys, xs = [.ref p] ∧ (SqL K H p ys ∨ SqT K H p ys) ∧ Q (.int ys.length) H) [.val (eP3 f g h p)] (.ok ()) (fun _ => .val (.int 3)) := cb_lenT (ds := [f p.1, g p.2.1, h p.2.2])
theorem cb_lenP4 {K : PySem.W.Frag} {α β γ δ : Type} {f : α → D} {g : β → D} {h : γ → D} {k : δ → D} {p : α × β × γ × δ} : CbD K B ρ (fun xs H Q => ∃ p ys, xs = [.ref p] ∧ (SqL K H p ys ∨ SqT K H p ys) ∧ Q (.int ys.length) H) [.val (eP4 f g h k p)] (.ok ()) (fun _ => .val (.int 4)) := cb_lenT (ds := [f p.1, g p.2.1, h p.2.2.1, k p.2.2.2])
/-! calls that change nothing here -/
section
variable {CX : CXT} {k : Nat} {f : Addr} {fd : FuncData} {ps : List Str} {EE : XK} {x : Str} {p : Pos}
theorem je_callV {α β : Type} {ins : α → List Slot} {mf : α → R β} {sl : β → Slot} {outs : β → List Slot} (F : FnG X.prog X.w X.K X.mg X.base CX k f fd ps (spM X.K ins mf sl outs)) (hr : RoomG k X.A) (hg : Gl X x) (hm : X.mg x = some (.ref f)) (hk : PySem.W.keepIn X.K (.ref f) = true)
    (hb : Binds X.K fd ps []) (hx : Passes CX X EE) {as : List Ar} (arg : α) (ha : JA X B ρ (e :: es) (.ok ()) (fun _ => as) (fun _ => ρ)) (hne : ∀ e, ¬ B.rs e) (hi : goodIn ρ as = true := by rfl) (hins : insAt 0 ρ as = ins arg := by rfl)
    (ho : ∀ b, goodOut 0 as (outs b) = true := by intro _; rfl) (hal : aliOk ρ as = true := by rfl) (hres : ∀ b, resOk (sl b) = true := by intro _; rfl) (hns : noSlots as = true := by rfl)
    (hdb : (x == ("__debug__" : Str)) = false := by decide) (he : starEach (e :: es) X.env = (false, eval e X.env) :: starEach es X.env := by rfl) (hpl : (backTo pos (starEach es X.env)).any (·.1) = false := by rfl) :
    JE X B ρ (.Call (.Name x p) (e :: es) [] pos) (mf arg) sl (fun _ => ρ) := by
  have := je_callP (pos := pos) (p := p) F hr hg hm hk hb hx arg ha hne hi hins ho hal hres hdb he hpl
  simp only [backAt_noSlots hns, movedAt_noSlots hns] at this
  exact this
theorem je_callVE {α β γ : Type} {ins : α → List Slot} {mf : α → R β} {sl : β → Slot} {outs : β → List Slot} (F : FnG X.prog X.w X.K X.mg X.base CX k f fd ps (spM X.K ins mf sl outs)) (hr : RoomG k X.A) (hg : Gl X x) (hm : X.mg x = some (.ref f)) (hk : PySem.W.keepIn X.K (.ref f) = true)
    (hb : Binds X.K fd ps []) (hx : Passes CX X EE) {ma : R γ} {as : γ → List Ar} {ρa : γ → List Slot} (arg : γ → α) (ha : JA X B ρ (e :: es) ma as ρa) (hne : ∀ e, ¬ B.rs e) (hi : ∀ c, goodIn (ρa c) (as c) = true := by intro _; rfl) (hins : ∀ c, insAt 0 (ρa c) (as c) = ins (arg c) := by intro _; rfl)
    (ho : ∀ c b, goodOut 0 (as c) (outs b) = true := by intro _ _; rfl) (hal : ∀ c, aliOk (ρa c) (as c) = true := by intro _; rfl) (hres : ∀ b, resOk (sl b) = true := by intro _; rfl) (hns : ∀ c, noSlots (as c) = true := by intro _; rfl)
    (hdb : (x == ("__debug__" : Str)) = false := by decide) (he : starEach (e :: es) X.env = (false, eval e X.env) :: starEach es X.env := by rfl) (hpl : (backTo pos (starEach es X.env)).any (·.1) = false := by rfl) :
    JE X B ρ (.Call (.Name x p) (e :: es) [] pos) (ma.bind fun c => (mf (arg c)).bind fun b => .ok (c, b)) (fun y => sl y.2) (fun y => ρa y.1) := by
  have := je_call (pos := pos) (p := p) F hr hg hm hk hb hx arg ha hne hi hins ho hal hres hdb he hpl
  simp only [backAt_noSlots (hns _), movedAt_noSlots (hns _)] at this
  exact this
end
end
/-- the law's own promise, from its mirror's answer -/
theorem law_sp {K : PySem.W.Frag} {H : Hp} {a : Addr} {ns : List Int} {E : XK} (hS : SqL K H a (ns.map V.int)) {ins : List Int → List Slot} {m : List Int → R Bool} {sl : Bool → Slot} {outs : Bool → List Slot} (hm : m ns = .ok true) (hi : ins ns = [.val (.scr ns)] := by rfl) (hs : sl true = .val (.bool true) := by rfl) :
    spM K ins m sl outs [.ref a] H (fun v _ => v = .bl true) E := by
  refine ⟨ns, H, [], ⟨⟨fun x o _ e => e, fun x l m => ?_, Ex.refl H, fun x _ e => e, Ex.refl H⟩, ⟨[], ?_, List.nodup_nil, fun _ m => nomatch m⟩, ?_, fun i j p e => ?_⟩, ?_⟩
  · cases l with
    | zero => exact nomatch m
    | succ l => exact nomatch m
  · rw [hi]
    exact .cons (A := []) (.val (.scr hS)) .nil
  · rw [hi]
    rfl
  · rw [hi] at e
    cases i with
    | zero => cases e
    | succ i => cases e
  · rw [hm]
    intro v G' H' E'
    rw [hs] at E'
    exact E'.top.bl_inv
end DL

/-! DL10: list comprehensions -/
namespace DL
open PySem PySem.Spec L2

/-! ### targets that are names: what they touch -/
def tJN (K : PySem.W.Frag) (B : Base) (ρ : List Slot) (d : D) (ts : List Nat) (ρ' : List Slot) : TG := fun v σ H Q =>
  ∃ G, En K B G H σ ρ [] ∧ Rp K G v d ∧ ∀ σ', (∀ i, i ∉ ts → σ'[i]? = σ[i]?) → σ'.length = σ.length → En K B G H σ' ρ' [] → Q σ' H
def JN (X : Cx) (B : Base) (ρ : List Slot) (tg : Expr) (d : D) (ts : List Nat) (ρ' : List Slot) : Prop := PG X tg (tJN X.K B ρ d ts ρ')
def tJNs (K : PySem.W.Frag) (B : Base) (ρ : List Slot) (ds : List D) (ts : List Nat) (ρ' : List Slot) : TGs := fun vs σ H Q =>
  ∃ G, En K B G H σ ρ [] ∧ RpAll K G vs ds ∧ ∀ σ', (∀ i, i ∉ ts → σ'[i]? = σ[i]?) → σ'.length = σ.length → En K B G H σ' ρ' [] → Q σ' H
def JNs (X : Cx) (B : Base) (ρ : List Slot) (es : List Expr) (ds : List D) (ts : List Nat) (ρ' : List Slot) : Prop := PGs X es (tJNs X.K B ρ ds ts ρ')
section
variable {X : Cx} {B : Base} {ρ : List Slot} {pos : Pos} {e : Expr}
theorem jn_name (i : Nat) {x : Str} {d : D} (hN : X.N.Nodup) (hi : X.N[i]? = some x := by rfl) (hx : Loc X.env.scope x := by first | exact Or.inl rfl | exact Or.inr rfl) (hf : X.fn x = true ∨ X.env.scope.names.lookup x = some .local := by first | exact .inl rfl | exact .inr rfl)
    (hlt : i < ρ.length := by exact of_decide_eq_true rfl) (hal : noAli i ρ = true := by rfl) : JN X B ρ (.Name x pos) d [i] (ρ.set i (.val d)) :=
  PG_imp (pg_name (i := i) hN hi hx hf) fun v σ H Q ⟨G, E, r, q⟩ => q (σ.set i (some v)) (fun j hj => by
    rw [List.getElem?_set_ne (fun z => hj (by rw [z]; exact List.mem_singleton.mpr rfl))]) (by rw [List.length_set]) ((E.push r).set hlt (fun _ _ z => nomatch z) hal)
theorem jns_nil : JNs X B ρ [] [] [] ρ := PGs_imp pgs_nil fun vs σ H Q ⟨G, E, r, q⟩ => by
  cases r
  exact ⟨rfl, q σ (fun _ _ => rfl) rfl E⟩
theorem jns_cons {es : List Expr} {d : D} {ds : List D} {ts ts2 : List Nat} {ρ1 ρ2 : List Slot} (h : JN X B ρ e d ts ρ1) (t : JNs X B ρ1 es ds ts2 ρ2)
    (hs : (assignEach (e :: es) X.env).map (·.2) = assign e X.env :: (assignEach es X.env).map (·.2) := by rfl) : JNs X B ρ (e :: es) (d :: ds) (ts ++ ts2) ρ2 := by
  refine PGs_imp (pgs_cons h t hs) fun vs σ H Q ⟨G, E, r, q⟩ => ?_
  cases r with
  | cons r rr => exact ⟨_, _, rfl, G, E, r, fun σ' h1 l1 E' => ⟨G, E', rr, fun σ2 h2 l2 E2 => q σ2 (fun i hi => by
      have hi' : i ∉ ts ∧ i ∉ ts2 := by
        constructor
        · exact fun z => hi (List.mem_append_left _ z)
        · exact fun z => hi (List.mem_append_right _ z)
      rw [h2 i hi'.2, h1 i hi'.1]) (l2.trans l1) E2⟩⟩
theorem jn_tup {es : List Expr} {k : Nat} {ds : List D} {ts : List Nat} {ρ' : List Slot} (hc : X.calm = true) (h : JNs X B ρ es ds ts ρ') (hn : (assignEach es X.env).length = ds.length := by rfl) (hst : (assignEach es X.env).findIdx? (·.1) = none := by rfl) : JN X B ρ (.Tuple es k pos) (.tuple ds) ts ρ' :=
  PG_imp (pg_tup (n := ds.length) hc h hn hst) fun v σ H Q ⟨G, E, r, q⟩ => by
    obtain ⟨a, xs, rfl, hS, hr⟩ := r.tup_inv
    exact ⟨a, xs, rfl, E.sub.t hS, hr.len, G, E, hr, q⟩
end
/-! ### slots within, slots behind -/
/-- the block's own slots forgotten -/
def blot : Nat → List Nat → List Slot → List Slot
  | _, _, [] => []
  | n, vs, s :: ρ => (if vs.contains n then .non else s) :: blot (n + 1) vs ρ
/-- the outer slots, but for what the block's own ones hide -/
def unblot : Nat → List Nat → List Slot → List Slot → List Slot
  | n, vs, s :: ρ, t :: ρ2 => (if vs.contains n then s else t) :: unblot (n + 1) vs ρ ρ2
  | _, _, _, _ => []
def isPlain : Slot → Bool
  | .non => true
  | .val _ => true
  | .own _ _ => false
  | .ali _ _ => false
/-- the block's own slots hold no owned thing -/
def plainAt : Nat → List Nat → List Slot → Bool
  | _, _, [] => true
  | n, vs, s :: ρ => (if vs.contains n then isPlain s else true) && plainAt (n + 1) vs ρ
section
variable {K : PySem.W.Frag} {B : Base} {G G' H H' : Hp}
theorem Cells.blot : ∀ {σ σ2 : L2.St} {ρ : List Slot} {A : List Addr} (n : Nat) (vs : List Nat), Cells K B G H σ ρ A → plainAt n vs ρ = true → σ2.length = σ.length → (∀ i, (n + i) ∉ vs → σ2[i]? = σ[i]?) → Cells K B G H σ2 (blot n vs ρ) A
  | _, σ2, _, _, n, vs, .nil, _, hl, _ => by
    cases σ2 with
    | nil => exact .nil
    | cons a b => cases hl
  | _, σ2, _, _, n, vs, .cons (s := s) (A := A1) c r, hp, hl, hk => by
    cases σ2 with
    | nil => cases hl
    | cons y σ2 =>
      rw [plainAt, Bool.and_eq_true] at hp
      have r' := Cells.blot (n + 1) vs r hp.2 (by simpa using hl) (σ2 := σ2) (fun i hi => by
        have := hk (i + 1) (by rw [show n + (i + 1) = n + 1 + i by omega]; exact hi)
        simpa using this)
      rw [DL.blot]
      by_cases hc : vs.contains n = true
      · rw [if_pos hc]
        have h1 := hp.1
        rw [if_pos hc] at h1
        have e : A1 = [] := by
          cases c with
          | non => rfl
          | val _ => rfl
          | own _ _ _ => simp [isPlain] at h1
          | ali => rfl
        subst e
        exact .cons .non r'
      · rw [if_neg hc]
        have := hk 0 (by
          intro z
          exact hc (List.contains_iff_mem.mpr (by simpa using z)))
        simp at this
        rw [this]
        exact .cons c r'
theorem Cells.unblot {B0 : Base} : ∀ {σ σ2 : L2.St} {ρ ρ2 : List Slot} {A A0 : List Addr} (n : Nat) (vs : List Nat), Cells K B0 G H σ ρ A0 → Ex G G' → Cells K B G' H' σ2 ρ2 A → plainAt n vs ρ = true → plainAt n vs ρ2 = true → (∀ i, (n + i) ∉ vs → σ2[i]? = σ[i]?) → σ2.length = σ.length → Cells K B G' H' σ (unblot n vs ρ ρ2) A
  | _, σ2, _, _, A, _, n, vs, .nil, _, c2, _, _, _, hl => by
    cases c2 with
    | nil => exact .nil
    | cons _ _ => cases hl
  | _, σ2, _, _, A, _, n, vs, .cons (s := s) (A := A1) c r, e, c2, hp, hp2, hk, hl => by
    cases c2 with
    | nil => cases hl
    | @cons y t B1 σ2 ρ2 B2 d r2 =>
      rw [plainAt, Bool.and_eq_true] at hp hp2
      have r' := Cells.unblot (n + 1) vs r e r2 hp.2 hp2.2 (fun i hi => by
        have := hk (i + 1) (by rw [show n + (i + 1) = n + 1 + i by omega]; exact hi)
        simpa using this) (by simpa using hl)
      rw [DL.unblot]
      by_cases hc : vs.contains n = true
      · rw [if_pos hc]
        have h1 := hp.1
        have h2 := hp2.1
        rw [if_pos hc] at h1 h2
        have e2 : B1 = [] := by
          cases d with
          | non => rfl
          | val _ => rfl
          | own _ _ _ => simp [isPlain] at h2
          | ali => rfl
        subst e2
        cases c with
        | non => exact .cons .non r'
        | val h => exact .cons (.val (h.ex e)) r'
        | own _ _ _ => simp [isPlain] at h1
        | ali => simp [isPlain] at h1
      · rw [if_neg hc]
        have := hk 0 (by
          intro z
          exact hc (List.contains_iff_mem.mpr (by simpa using z)))
        simp at this
        rw [← this]
        exact .cons d r'
theorem blot_len : ∀ (n : Nat) (vs : List Nat) (ρ : List Slot), (blot n vs ρ).length = ρ.length
  | _, _, [] => rfl
  | n, vs, s :: ρ => by rw [blot, List.length_cons, List.length_cons, blot_len]
theorem unblot_len : ∀ (n : Nat) (vs : List Nat) (ρ ρ2 : List Slot), ρ2.length = ρ.length → (unblot n vs ρ ρ2).length = ρ.length
  | _, _, [], [], _ => rfl
  | n, vs, s :: ρ, t :: ρ2, h => by rw [unblot, List.length_cons, List.length_cons, unblot_len _ _ _ _ (by simpa using h)]
theorem blot_noAli : ∀ {ρ : List Slot} (n : Nat) (vs : List Nat), noAlis ρ = true → noAlis (blot n vs ρ) = true
  | [], _, _, _ => rfl
  | s :: ρ, n, vs, h => by
    rw [blot]
    have h' : noAlis ρ = true := by
      cases s <;> simp [noAlis] at h <;> exact h
    by_cases hc : vs.contains n = true
    · rw [if_pos hc]
      exact blot_noAli (n + 1) vs h'
    · rw [if_neg hc]
      cases s with
      | non => exact blot_noAli (n + 1) vs h'
      | val _ => exact blot_noAli (n + 1) vs h'
      | own _ _ => exact blot_noAli (n + 1) vs h'
      | ali _ _ => simp [noAlis] at h
theorem unblot_noAli : ∀ {ρ ρ2 : List Slot} (n : Nat) (vs : List Nat), noAlis ρ = true → noAlis ρ2 = true → noAlis (unblot n vs ρ ρ2) = true
  | [], [], _, _, _, _ => rfl
  | [], _ :: _, _, _, _, _ => rfl
  | _ :: _, [], _, _, _, _ => rfl
  | s :: ρ, t :: ρ2, n, vs, h, h2 => by
    rw [unblot]
    have h' : noAlis ρ = true := by
      cases s <;> simp [noAlis] at h <;> exact h
    have h2' : noAlis ρ2 = true := by
      cases t <;> simp [noAlis] at h2 <;> exact h2
    by_cases hc : vs.contains n = true
    · rw [if_pos hc]
      cases s with
      | non => exact unblot_noAli (n + 1) vs h' h2'
      | val _ => exact unblot_noAli (n + 1) vs h' h2'
      | own _ _ => exact unblot_noAli (n + 1) vs h' h2'
      | ali _ _ => simp [noAlis] at h
    · rw [if_neg hc]
      cases t with
      | non => exact unblot_noAli (n + 1) vs h' h2'
      | val _ => exact unblot_noAli (n + 1) vs h' h2'
      | own _ _ => exact unblot_noAli (n + 1) vs h' h2'
      | ali _ _ => simp [noAlis] at h2
/-- into the block -/
theorem En.inB {σ σ2 : L2.St} {ρ : List Slot} (E : En K B G H σ ρ []) (vs : List Nat) (hp : plainAt 0 vs ρ = true) (ha : noAlis ρ = true) (hl : σ2.length = σ.length) (hk : ∀ i, i ∉ vs → σ2[i]? = σ[i]?) : En K B G H σ2 (blot 0 vs ρ) [] := by
  obtain ⟨A, c, n, f⟩ := E.own
  exact ⟨E.anc, ⟨A, Cells.blot 0 vs (show Cells K B G H σ ρ A from c) hp hl (fun i hi => hk i (by simpa using hi)), n, f⟩, by rw [blot_len, hl, E.len], fun i j p e => absurd e (noAlis_get (blot_noAli 0 vs ha))⟩
/-- out of it -/
theorem En.outB {B0 : Base} {σ σ2 : L2.St} {ρ ρ2 : List Slot} (E : En K B0 G H σ ρ []) (E2 : En K B G' H' σ2 ρ2 []) (e : Ex G G') (vs : List Nat) (hp : plainAt 0 vs ρ = true) (hp2 : plainAt 0 vs ρ2 = true) (ha : noAlis ρ = true) (ha2 : noAlis ρ2 = true) (hk : ∀ i, i ∉ vs → σ2[i]? = σ[i]?) (hl : σ2.length = σ.length) : En K B G' H' σ (unblot 0 vs ρ ρ2) [] := by
  obtain ⟨A0, c0, _, _⟩ := E.own
  obtain ⟨A, c, n, f⟩ := E2.own
  refine ⟨E2.anc, ⟨A, Cells.unblot 0 vs (show Cells K B0 G H σ ρ A0 from c0) e (show Cells K B G' H' σ2 ρ2 A from c) hp hp2 (fun i hi => hk i (by simpa using hi)) hl, n, f⟩, ?_, fun i j p e => absurd e (noAlis_get (unblot_noAli 0 vs ha ha2))⟩
  rw [unblot_len _ _ _ _ (by rw [← E2.len, hl, E.len])]
  exact E.len
/-! ### the list that is made, out of reach -/
def Base.hide (B : Base) (p : Addr) (o : HO) : Base := { B with H0 := fun a => if a = p then some o else B.H0 a }
/-- an address that was free at En is none of the caller's -/
theorem En.noMo {σ : L2.St} {ρ : List Slot} {ex : List (V × Slot)} {p : Addr} (E : En K B G H σ ρ ex) (hp : H p = none) : (∀ l, p ∉ B.Mo l) ∧ B.H0 p = none := ⟨fun l m => E.anc.there p l m hp, E.fresh hp⟩
theorem En.hideIn {σ : L2.St} {ρ : List Slot} {p : Addr} {ds : List D} (E : En K B G H σ ρ [(.ref p, .own 0 (.lst (ds.map OT.dat)))]) (hm : ∀ l, p ∉ B.Mo l) (h0 : B.H0 p = none) : ∃ vs, H p = some (.lst vs) ∧ RpAll K G vs ds ∧ En K (B.hide p (.lst vs)) G H σ ρ [] := by
  obtain ⟨A, c, n, f⟩ := E.own
  cases c with
  | @cons _ _ A1 _ _ A2 c1 cr =>
    cases c1 with
    | own hO hr hv =>
      cases hO with
      | @lst _ ws _ A3 hH hall =>
        obtain ⟨e3, r⟩ := own_dats_inv hall
        subst e3
        have hG : G p = none := f p (by simp)
        have hn : p ∉ A2 := (List.nodup_cons.mp n).1
        refine ⟨ws, hH, r, ⟨⟨fun a o ha e => ?_, E.anc.there, E.anc.gsub, fun a e1 e2 => ?_, E.anc.sub⟩, ⟨A2, ?_, (List.nodup_cons.mp n).2, fun a m => f a (List.mem_cons_of_mem _ m)⟩, E.len, E.ali⟩⟩
        · have e : (if a = p then some (HO.lst ws) else B.H0 a) = some o := e
          by_cases hap : a = p
          · rw [if_pos hap] at e
            rw [hap, hH]
            exact e
          · rw [if_neg hap] at e
            exact E.anc.keep a o ha e
        · by_cases hap : a = p
          · rw [hap]
            exact hG
          · have e1 : (if a = p then some (HO.lst ws) else B.H0 a) ≠ none := e1
            rw [if_neg hap] at e1
            exact E.anc.gnew a e1 e2
        · have gen : ∀ {σ : L2.St} {ρ : List Slot} {A : List Addr}, Cells K B G H σ ρ A → p ∉ A → Cells K (B.hide p (.lst ws)) G H σ ρ A := by
            intro σ ρ A h
            induction h with
            | nil => exact fun _ => .nil
            | cons c r ih =>
              intro hn
              refine .cons ?_ (ih fun z => hn (List.mem_append_right _ z))
              cases c with
              | non => exact .non
              | val h => exact .val h
              | ali => exact .ali
              | own h l v =>
                refine .own h (fun a m => (l a m).imp id fun z => ?_) v
                show (if a = p then _ else B.H0 a) = none
                rw [if_neg fun e => hn (List.mem_append_left _ (by rw [← e]; exact m))]
                exact z
          exact gen (show Cells K B G H σ ρ A2 from cr) hn
theorem En.hideOut {σ : L2.St} {ρ : List Slot} {p : Addr} {vs : List V} {ds : List D} (E : En K (B.hide p (.lst vs)) G H σ ρ []) (hm : ∀ l, p ∉ B.Mo l) (h0 : B.H0 p = none) (hG0 : B.G0 p = none) (r : RpAll K G vs ds) (ha : noAlis ρ = true) : H p = some (.lst vs) ∧ G p = none ∧
    ∀ (vs' : List V) (ds' : List D), RpAll K G vs' ds' → En K B G (upd H p (.lst vs')) σ ρ [(.ref p, .own 0 (.lst (ds'.map OT.dat)))] := by
  have hH : H p = some (.lst vs) := E.anc.keep p _ hm (by
    show (if p = p then some (HO.lst vs) else B.H0 p) = _
    rw [if_pos rfl])
  have hG : G p = none := E.anc.gnew p (by
    show (if p = p then some (HO.lst vs) else B.H0 p) ≠ none
    rw [if_pos rfl]
    exact fun z => nomatch z) hG0
  refine ⟨hH, hG, fun vs' ds' r' => ?_⟩
  obtain ⟨A, c, n, f⟩ := E.own
  have hn : p ∉ A := by
    intro m
    rcases Cells.region (show Cells K _ G H σ ρ A from c) p m with ⟨l, z⟩ | z
    · exact hm l z
    · have z : (if p = p then some (HO.lst vs) else B.H0 p) = none := z
      rw [if_pos rfl] at z
      cases z
  have gen : ∀ {σ : L2.St} {ρ : List Slot} {A : List Addr}, Cells K (B.hide p (.lst vs)) G H σ ρ A → p ∉ A → Cells K B G (upd H p (.lst vs')) σ ρ A := by
    intro σ ρ A h
    induction h with
    | nil => exact fun _ => .nil
    | cons c r ih =>
      intro hn
      refine .cons ?_ (ih fun z => hn (List.mem_append_right _ z))
      cases c with
      | non => exact .non
      | val h => exact .val h
      | ali => exact .ali
      | own h l v =>
        have hA := fun z => hn (List.mem_append_left _ z)
        refine .own (h.ex (Ex.refl _) fun a m u e => ?_) (fun a m => (l a m).imp id fun z => ?_) v
        · rw [upd_ne (fun z => hA (by rw [← z]; exact m))]
          exact e
        · have z : (if a = p then some (HO.lst vs) else B.H0 a) = none := z
          by_cases hap : a = p
          · rw [if_pos hap] at z
            cases z
          · rw [if_neg hap] at z
            exact z
  refine ⟨⟨fun a o ha e => ?_, fun a l m => ?_, E.anc.gsub, fun a e1 e2 => ?_, fun a o e => ?_⟩, ⟨p :: A, .cons (A := [p]) (.own (.lst upd_same (own_dats r')) (fun a m => .inr ?_) (.inl rfl)) (gen (show Cells K _ G H σ ρ A from c) hn), List.nodup_cons.mpr ⟨hn, n⟩, fun a m => ?_⟩, E.len, fun i j q e => ?_⟩
  · have hap : a ≠ p := fun z => by
      rw [z, h0] at e
      cases e
    rw [upd_ne hap]
    refine E.anc.keep a o ha ?_
    show (if a = p then some (HO.lst vs) else B.H0 a) = _
    rw [if_neg hap]
    exact e
  · have hap : a ≠ p := fun z => hm l (by rw [← z]; exact m)
    rw [upd_ne hap]
    exact E.anc.there a l m
  · refine E.anc.gnew a ?_ e2
    show (if a = p then some (HO.lst vs) else B.H0 a) ≠ none
    by_cases hap : a = p
    · rw [if_pos hap]
      exact fun z => nomatch z
    · rw [if_neg hap]
      exact e1
  · rw [upd_ne (ne_of_none e hG)]
    exact E.anc.sub a o e
  · rw [List.mem_singleton.mp m]
    exact h0
  · rcases List.mem_cons.mp m with rfl | m
    · exact hG
    · exact f a m
  · exact absurd e (noAlis_get ha)
end
theorem upd_id {H : Hp} {p : Addr} {o : HO} (h : H p = some o) : upd H p o = H := by
  funext a
  by_cases ha : a = p
  · subst ha
    rw [upd_same, h]
  · rw [upd_ne ha]
/-! ### the comprehension -/
def compR {α S γ : Type} (f : α → S → R (Option γ × S)) : List α → List γ → S → R (List γ × S)
  | [], acc, s => .ok (acc, s)
  | x :: xs, acc, s => (f x s).bind fun p => compR f xs (match p.1 with | some v => acc ++ [v] | none => acc) p.2
def compF {α S δ ε γ : Type} (c : α → S → R δ) (bn : δ → Bool) (me : α → S → R ε) (v : ε → γ) (st : ε → S) (x : α) (s : S) : R (Option γ × S) :=
  (c x s).bind fun d => if bn d = true then (me x s).bind fun y => .ok (some (v y), st y) else .ok (none, s)
def JTs (X : Cx) (B : Base) (ρ : List Slot) (es : List Expr) {β : Type} (m : R β) (bn : β → Bool) : Prop := PTs X es (tJT X.K B ρ m bn fun _ => ρ)
section
variable {X : Cx} {B : Base} {ρ : List Slot} {pos : Pos} {e a b tg it elt : Expr}
theorem jts_nil : JTs X B ρ [] (.ok ()) (fun _ => true) := ⟨fun pins s σ H Q I ⟨G, E, q⟩ => pts_nil.run pins s σ H Q I (q G H (Ex.refl G) E)⟩
theorem jts_one {β : Type} {m : R β} {bn : β → Bool} (h : JT X B ρ e m bn (fun _ => ρ)) : JTs X B ρ [e] m bn := pts_one h
abbrev Blk (X : Cx) (sc : Scope) (P : Cx → Prop) : Prop := ∀ (s : Shared) (H : Hp) (C : Addr) (cl : List (Str × Addr)) (fp : List Addr), P (X.blk s H sc (compEnvC sc cl C X.env) fp)
theorem wipe_eq {σ σ2 : L2.St} : ∀ {vs : List Nat}, σ2.length = σ.length → (∀ i, i ∉ vs → σ2[i]? = σ[i]?) → wipe σ2 vs = wipe σ vs := by
  have key : ∀ (σ : L2.St) (vs : List Nat) (i : Nat), (wipe σ vs)[i]? = if i ∈ vs ∧ i < σ.length then some none else σ[i]? := by
    intro σ vs
    induction vs with
    | nil => intro i; simp [wipe]
    | cons v vs ih =>
      intro i
      rw [wipe]
      by_cases hv : v = i
      · subst hv
        by_cases hl : v < σ.length
        · rw [List.getElem?_set_self (by rw [wipe_length]; exact hl), if_pos ⟨List.mem_cons_self, hl⟩]
        · rw [List.getElem?_eq_none (by rw [List.length_set, wipe_length]; omega), if_neg (fun z => hl z.2), List.getElem?_eq_none (by omega)]
      · rw [List.getElem?_set_ne hv, ih]
        have : (i ∈ v :: vs) ↔ i ∈ vs := by
          constructor
          · intro z
            rcases List.mem_cons.mp z with z | z
            · exact absurd z.symm hv
            · exact z
          · exact List.mem_cons_of_mem _
        simp only [this]
  intro vs hl hk
  apply List.ext_getElem?
  intro i
  rw [key, key, hl]
  by_cases hi : i ∈ vs
  · by_cases hlt : i < σ.length
    · rw [if_pos ⟨hi, hlt⟩, if_pos ⟨hi, hlt⟩]
    · rw [if_neg (fun z => hlt z.2), if_neg (fun z => hlt z.2), List.getElem?_eq_none (by omega), List.getElem?_eq_none (by omega)]
  · rw [if_neg (fun z => hi z.1), if_neg (fun z => hi z.1), hk i hi]
theorem tlc_of {K : PySem.W.Frag} {α S γ δ ε β0 : Type} {m : R β0} {xs : β0 → List α} {ea : α → D} {en : γ → D} {ρ1 : β0 → List Slot} {vs ts : List Nat} {ρS : S → List Slot} {s0 : β0 → S} {ρB : α → S → List Slot} {c : α → S → R δ} {bn : δ → Bool} {me : α → S → R ε} {v : ε → γ} {st : ε → S}
    (hw : ∀ b, ρ1 b = ρS (s0 b)) (hpl : ∀ s, plainAt 0 vs (ρS s) = true) (hna : ∀ s, noAlis (ρS s) = true) (hts : ∀ i ∈ ts, i ∈ vs) (hplB : ∀ x s, plainAt 0 vs (ρB x s) = true) (hnaB : ∀ x s, noAlis (ρB x s) = true) (hun : ∀ x s s', unblot 0 vs (ρS s) (ρB x s') = ρS s')
    {σ : L2.St} {H : Hp} {Q : VK}
    (q : tJ K B ρ (m.bind fun b => (R.guard ((xs b).length ≤ sizeLine)).bind fun _ => compR (compF c bn me v st) (xs b) [] (s0 b)) (fun p => .own 0 (oL en p.1)) (fun p => ρS p.2) σ H Q) :
    tLc (tJI K B ρ m (fun b => (xs b).map ea) ρ1) (fun w σ H Q => ∃ B' x s, B'.rs = B.rs ∧ tJN K B' (blot 0 vs (ρS s)) (ea x) ts (ρB x s) w σ H Q) (fun σ H Q => ∃ B' x s, B'.rs = B.rs ∧ tJT K B' (ρB x s) (c x s) bn (fun _ => ρB x s) σ H Q)
      (fun σ H Q => ∃ B' x s, B'.rs = B.rs ∧ tJ K B' (ρB x s) (me x s) (fun y => .val (en (v y))) (fun y => ρB x (st y)) σ H Q) vs σ H Q := by
  obtain ⟨G, E, q⟩ := q
  refine ⟨G, E, R.post_mono (R.post_bind.mp q) fun b q1 J G' H' xG E' Y p hp => ?_⟩
  obtain ⟨hsz, q2⟩ := R.post_guard (R.post_bind.mp q1)
  have hlen : ((xs b).map ea).length = (xs b).length := List.length_map _
  obtain ⟨hMo, hH0⟩ := E'.noMo hp
  have hG0 : B.G0 p = none := (E'.anc.gsub.trans E'.sub).back hp
  let W : Nat → Hp → Prop := fun i H1 => ∃ G1 s acc, Ex G' G1 ∧ En K B G1 H1 σ (ρS s) [(.ref p, .own 0 (oL en acc))] ∧ acc.length ≤ i ∧
    (compR (compF c bn me v st) ((xs b).drop i) acc s).post (fun r => ∀ w G2 H2, Ex G1 G2 → En K B G2 H2 σ (ρS r.2) [(w, .own 0 (oL en r.1))] → Q w H2) B.rs
  refine ⟨fun i mm H1 => mm = (xs b).length - i ∧ i ≤ (xs b).length ∧ W i H1, ⟨_, rfl, Nat.zero_le _, G', s0 b, [], Ex.refl _, ?_, Nat.le_refl _, R.post_mono q2 fun r h w G2 H2 x2 E2 => h w G2 H2 (xG.trans x2) E2⟩, ?_⟩
  · rw [hw b] at E'
    exact E'.newL (ds := []) hp .nil
  · rintro i mm H1 ⟨rfl, hi1, G1, s, acc, x1, E1, hacc, q3⟩
    by_cases hlt : i < (xs b).length
    · refine .inr ⟨Y.go i H1 (by rw [hlen]; exact hlt) (x1.trans E1.sub), fun H' => W (i + 1) H', fun H' w => ⟨_, ?_, rfl, hlt, w⟩, fun w H2 hy => ?_⟩
      · omega
      · obtain ⟨us, hus, rus, Eh⟩ := E1.hideIn hMo hH0
        have hd : ((xs b).map ea)[i]? = some (ea (xs b)[i]) := by rw [List.getElem?_map, List.getElem?_eq_getElem hlt]; rfl
        obtain ⟨G2, x2, E2, r2⟩ := Y.yld _ i G1 H1 σ (ρS s) w H2 x1 Eh hy _ hd
        rw [List.drop_eq_getElem_cons hlt, compR] at q3
        generalize hx : (xs b)[i] = x at q3 r2
        have Eb : En K _ G2 H2 (wipe σ vs) (blot 0 vs (ρS s)) [] := E2.inB vs (hpl s) (hna s) (wipe_length σ vs) fun j hj => wipe_out hj
        refine ⟨B.hide p (.lst us), x, s, rfl, G2, Eb, r2, fun σ2 h2 l2 E3 => ?_⟩
        have l2' : σ2.length = σ.length := l2.trans (wipe_length σ vs)
        have k2 : ∀ j, j ∉ vs → σ2[j]? = σ[j]? := fun j hj => by
          rw [h2 j fun z => hj (hts j z), wipe_out hj]
        refine ⟨wipe_eq l2' k2, B.hide p (.lst us), x, s, rfl, G2, E3, ?_⟩
        unfold compF at q3
        have q4 := R.post_bind.mp (R.post_bind.mp q3)
        refine R.post_mono q4 fun d q5 G3 H3 x3 E3' => ?_
        cases hbn : bn d with
        | false =>
          rw [if_neg (by decide)]
          rw [hbn, if_neg (by decide)] at q5
          have Eo := E2.outB E3' x3 vs (hpl s) (hplB x s) (hna s) (hnaB x s) k2 l2'
          rw [hun x s s] at Eo
          have x13 := x2.trans x3
          obtain ⟨g1, g2, g3⟩ := Eo.hideOut hMo hH0 hG0 (RpAll.ex x13 rus) (hna s)
          have Ef := g3 us (acc.map en) (RpAll.ex x13 rus)
          rw [upd_id g1] at Ef
          exact ⟨G3, s, acc, x1.trans x13, Ef, by omega, R.post_mono q5 fun r h w G4 H4 x4 E4 => h w G4 H4 (x13.trans x4) E4⟩
        | true =>
          rw [if_pos rfl]
          rw [hbn, if_pos rfl] at q5
          refine ⟨B.hide p (.lst us), x, s, rfl, G3, E3', R.post_mono (R.post_bind.mp q5) fun y q6 w2 G4 H4 x4 E4 => ?_⟩
          have Eo := E2.outB E4.pop (x3.trans x4) vs (hpl s) (hplB x _) (hna s) (hnaB x _) k2 l2'
          rw [hun x s (st y)] at Eo
          have x14 := x2.trans (x3.trans x4)
          obtain ⟨g1, g2, g3⟩ := Eo.hideOut hMo hH0 hG0 (RpAll.ex x14 rus) (hna _)
          have Ef := g3 (us ++ [w2]) (acc.map en ++ [en (v y)]) ((RpAll.ex x14 rus).append (.cons E4.top .nil))
          have hl : us.length = acc.length := by rw [rus.len, List.length_map]
          refine ⟨us, g1, by omega, G4, st y, acc ++ [v y], x1.trans x14, ?_, by rw [List.length_append]; simp; omega, R.post_mono q6 fun r h w G5 H5 x5 E5 => h w G5 H5 (x14.trans x5) E5⟩
          show En K B G4 _ σ _ [(_, .own 0 (.lst (((acc ++ [v y]).map en).map OT.dat)))]
          rw [List.map_append (f := en)]
          exact Ef
    · refine .inl ⟨Y.stop i H1 (by rw [hlen]; omega) (x1.trans E1.sub), ?_⟩
      rw [List.drop_eq_nil_of_le (by omega)] at q3
      exact q3 _ G1 H1 (Ex.refl _) E1
theorem PTs_ex {X : Cx} {es : List Expr} {ι : Type} {t : ι → TT} (h : ∀ i, PTs X es (t i)) : PTs X es (fun σ H Q => ∃ i, t i σ H Q) := ⟨fun pins s σ H Q I ⟨i, q⟩ => (h i).run pins s σ H Q I q⟩
/-- [elt for tg in it if ..] -/
theorem je_lc {α S γ δ ε β0 : Type} {ifs : List Expr} {sc : Scope} {m : R β0} {xs : β0 → List α} {ea : α → D} {ρ1 : β0 → List Slot} (own : List (Str × Nat)) {ts : List Nat} (en : γ → D) (ρS : S → List Slot) (s0 : β0 → S) (ρB : α → S → List Slot) {c : α → S → R δ} {bn : δ → Bool} {me : α → S → R ε} (v : ε → γ) (st : ε → S)
    (hc : X.calm = true) (hN : X.N.Nodup) (hi : JI X B ρ tg it m (fun b => (xs b).map ea) ρ1) (ok : BlkOk X.N X.env.scope sc own) (hw : ∀ b, ρ1 b = ρS (s0 b))
    (hg : Blk X sc fun X' => ∀ B' : Base, B'.rs = B.rs → ∀ x s, JN X' B' (blot 0 (own.map (·.2)) (ρS s)) tg (ea x) ts (ρB x s))
    (ht : Blk X sc fun X' => ∀ B' : Base, B'.rs = B.rs → ∀ x s, JTs X' B' (ρB x s) ifs (c x s) bn)
    (he : Blk X sc fun X' => ∀ B' : Base, B'.rs = B.rs → ∀ x s, JE X' B' (ρB x s) elt (me x s) (fun y => .val (en (v y))) (fun y => ρB x (st y)))
    (hpl : ∀ s, plainAt 0 (own.map (·.2)) (ρS s) = true := by intro _; rfl) (hna : ∀ s, noAlis (ρS s) = true := by intro _; rfl) (hts : ∀ i ∈ ts, i ∈ own.map (·.2) := by decide) (hplB : ∀ x s, plainAt 0 (own.map (·.2)) (ρB x s) = true := by intro _ _; rfl)
    (hnaB : ∀ x s, noAlis (ρB x s) = true := by intro _ _; rfl) (hun : ∀ x s s', unblot 0 (own.map (·.2)) (ρS s) (ρB x s') = ρS s' := by intro _ _ _; rfl) (hs : ∀ x, foldedSetIterable it X.env x = pure x := by intro _; rfl) :
    JE X B ρ (.ListComp elt [⟨tg, it, ifs, 0⟩] sc pos) (m.bind fun b => (R.guard ((xs b).length ≤ sizeLine)).bind fun _ => compR (compF c bn me v st) (xs b) [] (s0 b)) (fun p => .own 0 (oL en p.1)) (fun p => ρS p.2) := by
  refine PE_imp (pe_lc (own := own) hc hN hi ok (fun s H C cl fp => ?_) (fun s H C cl fp => ?_) (fun s H C cl fp => ?_) hs) fun σ H Q q => tlc_of (ts := ts) (ρB := ρB) (c := c) (bn := bn) (me := me) (v := v) (st := st) hw hpl hna hts hplB hnaB hun q
  · exact ⟨fun pins s σ H v u Q I r ⟨B', x, s', h, q⟩ => (hg _ _ _ _ _ B' h x s').run pins s σ H v u Q I r q⟩
  · exact ⟨fun pins s σ H Q I ⟨B', x, s', h, q⟩ => (ht _ _ _ _ _ B' h x s').run pins s σ H Q I q⟩
  · exact ⟨fun pins s σ H Q I ⟨B', x, s', h, q⟩ => (he _ _ _ _ _ B' h x s').run pins s σ H Q I q⟩
/-- y = [..] on one line -/
theorem j1_setLc (i : Nat) {y : Str} {py spos : Pos} {α S γ δ ε β0 : Type} {ifs : List Expr} {sc : Scope} {m : R β0} {xs : β0 → List α} {ea : α → D} {ρ1 : β0 → List Slot} (own : List (Str × Nat)) {ts : List Nat} (en : γ → D) (ρS : S → List Slot) (s0 : β0 → S) (ρB : α → S → List Slot) {c : α → S → R δ} {bn : δ → Bool} {me : α → S → R ε} (v : ε → γ) (st : ε → S)
    (hc : X.calm = true) (hN : X.N.Nodup) (hi : JI X B ρ tg it m (fun b => (xs b).map ea) ρ1) (ok : BlkOk X.N X.env.scope sc own) (hw : ∀ b, ρ1 b = ρS (s0 b))
    (hg : Blk X sc fun X' => ∀ B' : Base, B'.rs = B.rs → ∀ x s, JN X' B' (blot 0 (own.map (·.2)) (ρS s)) tg (ea x) ts (ρB x s))
    (ht : Blk X sc fun X' => ∀ B' : Base, B'.rs = B.rs → ∀ x s, JTs X' B' (ρB x s) ifs (c x s) bn)
    (he : Blk X sc fun X' => ∀ B' : Base, B'.rs = B.rs → ∀ x s, JE X' B' (ρB x s) elt (me x s) (fun y => .val (en (v y))) (fun y => ρB x (st y)))
    (hy : X.N[i]? = some y := by rfl) (hyl : X.env.scope.names.lookup y = some .local := by rfl) (hsw : swapsWith (.ListComp elt [⟨tg, it, ifs, 0⟩] sc pos) (some (.Name y py)) spos.line X.env = pure true := by exact sw_true rfl rfl rfl (by decide +kernel))
    (hpl : ∀ s, plainAt 0 (own.map (·.2)) (ρS s) = true := by intro _; rfl) (hna : ∀ s, noAlis (ρS s) = true := by intro _; rfl) (hts : ∀ i ∈ ts, i ∈ own.map (·.2) := by decide) (hplB : ∀ x s, plainAt 0 (own.map (·.2)) (ρB x s) = true := by intro _ _; rfl)
    (hnaB : ∀ x s, noAlis (ρB x s) = true := by intro _ _; rfl) (hun : ∀ x s s', unblot 0 (own.map (·.2)) (ρS s) (ρB x s') = ρS s' := by intro _ _ _; rfl) (hs : ∀ x, foldedSetIterable it X.env x = pure x := by intro _; rfl)
    (hlt : ∀ s, i < (ρS s).length := by intro _; exact of_decide_eq_true rfl) (hal : ∀ s, noAli i (ρS s) = true := by intro _; rfl) :
    J1 X B ρ (.Assign [.Name y py] (.ListComp elt [⟨tg, it, ifs, 0⟩] sc pos) spos) (m.bind fun b => (R.guard ((xs b).length ≤ sizeLine)).bind fun _ => compR (compF c bn me v st) (xs b) [] (s0 b)) (fun p => (ρS p.2).set i (.own 0 (oL en p.1))) := by
  have h1 := ps_setLc (X := X) (i := i) (own := own) (spos := spos) (py := py) (y := y) (elt := elt) (pos := pos) (g := fun w σ H Q => ∃ B' x s, B'.rs = B.rs ∧ tJN X.K B' (blot 0 (own.map (·.2)) (ρS s)) (ea x) ts (ρB x s) w σ H Q) (tt := fun σ H Q => ∃ B' x s, B'.rs = B.rs ∧ tJT X.K B' (ρB x s) (c x s) bn (fun _ => ρB x s) σ H Q)
    (te := fun σ H Q => ∃ B' x s, B'.rs = B.rs ∧ tJ X.K B' (ρB x s) (me x s) (fun y => .val (en (v y))) (fun y => ρB x (st y)) σ H Q) hc hN hy hyl hsw hi ok
    (fun s H C cl fp => ⟨fun pins s σ H v u Q I r ⟨B', x, s', h, q⟩ => (hg _ _ _ _ _ B' h x s').run pins s σ H v u Q I r q⟩)
    (fun s H C cl fp => ⟨fun pins s σ H Q I ⟨B', x, s', h, q⟩ => (ht _ _ _ _ _ B' h x s').run pins s σ H Q I q⟩)
    (fun s H C cl fp => ⟨fun pins s σ H Q I ⟨B', x, s', h, q⟩ => (he _ _ _ _ _ B' h x s').run pins s σ H Q I q⟩) hs
  refine PS_imp h1 fun D σ H ⟨G, E, q⟩ => ?_
  show tLc _ _ _ _ _ σ H (fun x H1 => D.nx (σ.set i (some x)) H1)
  refine tlc_of (ts := ts) (ρB := ρB) (c := c) (bn := bn) (me := me) (v := v) (st := st) (en := en) (ρS := ρS) (s0 := s0) hw hpl hna hts hplB hnaB hun ⟨G, E, R.post_mono q fun p q1 w G' H' x E' => q1 _ G' H' x (E'.set (hlt _) (fun _ _ z => nomatch z) (hal _))⟩
end
end DL

/-! DL11: more expressions -/
namespace DL
open PySem PySem.Spec L2

/-! ### comprehensions whose parts are pure -/
theorem compR_pure {α S γ : Type} (t : α → Bool) (f : α → γ) : ∀ (xs : List α) (acc : List γ) (s : S), compR (compF (fun x (_ : S) => R.ok (t x)) (fun b => b) (fun x s => R.ok (f x, s)) Prod.fst Prod.snd) xs acc s = .ok (acc ++ (xs.filter t).map f, s)
  | [], acc, s => by rw [compR, List.filter_nil, List.map_nil, List.append_nil]
  | x :: xs, acc, s => by
    have e : compF (fun x (_ : S) => R.ok (t x)) (fun b => b) (fun x s => R.ok (f x, s)) Prod.fst Prod.snd x s = .ok (if t x = true then (some (f x), s) else (none, s)) := by
      cases h : t x <;> simp [compF, R.bind, h]
    rw [compR, e]
    cases h : t x with
    | true =>
      rw [if_pos rfl, List.filter_cons_of_pos h, List.map_cons]
      have := compR_pure t f xs (acc ++ [f x]) s
      rw [List.append_assoc] at this
      exact this
    | false =>
      rw [if_neg (by decide), List.filter_cons_of_neg (by rw [h]; decide)]
      exact compR_pure t f xs acc s
section
variable {X : Cx} {B : Base} {ρ : List Slot} {pos : Pos} {e a b tg it elt : Expr} {es : List Expr}
theorem je_pe {α : Type} {en : α → D} (v : α) (h : JP X B ρ e (en v)) : JE X B ρ e (.ok v) (fun y => .val (en y)) (fun _ => ρ) := h
theorem je_mapS {α β S : Type} {m : R β} {en : α → D} {v : β → α} {st : β → S} {ρ' : S → List Slot} (h : JE X B ρ e m (fun b => .val (en (v b))) (fun b => ρ' (st b))) : JE X B ρ e (m.bind fun b => .ok (v b, st b)) (fun p => .val (en p.1)) (fun p => ρ' p.2) :=
  PE_imp h fun σ H Q ⟨G, E, q⟩ => ⟨G, E, R.post_mono (R.post_bind.mp q) fun b k => k⟩
/-- [f(x) for x in it if t(x)] -/
theorem je_lcP {α γ β0 : Type} {ifs : List Expr} {sc : Scope} {m : R β0} {xs : β0 → List α} {ea : α → D} (own : List (Str × Nat)) {ts : List Nat} (en : γ → D) (ρB : α → List Slot) (t : α → Bool) (f : α → γ)
    (hc : X.calm = true) (hN : X.N.Nodup) (hi : JI X B ρ tg it m (fun b => (xs b).map ea) (fun _ => ρ)) (ok : BlkOk X.N X.env.scope sc own)
    (hg : Blk X sc fun X' => ∀ B' : Base, B'.rs = B.rs → ∀ x, JN X' B' (blot 0 (own.map (·.2)) ρ) tg (ea x) ts (ρB x))
    (ht : Blk X sc fun X' => ∀ B' : Base, B'.rs = B.rs → ∀ x, JTs X' B' (ρB x) ifs (.ok (t x)) (fun b => b))
    (he : Blk X sc fun X' => ∀ B' : Base, B'.rs = B.rs → ∀ x, JP X' B' (ρB x) elt (en (f x)))
    (hpl : plainAt 0 (own.map (·.2)) ρ = true := by rfl) (hna : noAlis ρ = true := by rfl) (hts : ∀ i ∈ ts, i ∈ own.map (·.2) := by decide) (hplB : ∀ x, plainAt 0 (own.map (·.2)) (ρB x) = true := by intro _; rfl)
    (hnaB : ∀ x, noAlis (ρB x) = true := by intro _; rfl) (hun : ∀ x, unblot 0 (own.map (·.2)) ρ (ρB x) = ρ := by intro _; rfl) (hs : ∀ x, foldedSetIterable it X.env x = pure x := by intro _; rfl) :
    JE X B ρ (.ListComp elt [⟨tg, it, ifs, 0⟩] sc pos) (m.bind fun b => (R.guard ((xs b).length ≤ sizeLine)).bind fun _ => .ok b) (fun b => .own 0 (oL en (((xs b).filter t).map f))) (fun _ => ρ) := by
  have h := je_lc (X := X) (B := B) (ρ := ρ) (pos := pos) (S := Unit) (xs := xs) (ea := ea) (ts := ts) own en (fun _ => ρ) (fun _ => ()) (fun x _ => ρB x) (c := fun x _ => R.ok (t x)) (bn := fun b => b) (me := fun x s => R.ok (f x, s)) Prod.fst Prod.snd hc hN hi ok (fun _ => rfl)
    (fun s H C cl fp B' h x _ => hg s H C cl fp B' h x) (fun s H C cl fp B' h x _ => ht s H C cl fp B' h x) (fun s H C cl fp B' h x _ => he s H C cl fp B' h x) (fun _ => hpl) (fun _ => hna) hts (fun x _ => hplB x) (fun x _ => hnaB x) (fun x _ _ => hun x) hs
  refine PE_imp h fun σ H Q ⟨G, E, q⟩ => ⟨G, E, ?_⟩
  refine R.post_bind.mpr (R.post_mono (R.post_bind.mp q) fun b q1 => R.post_bind.mpr (R.post_mono (R.post_bind.mp q1) fun u q2 => ?_))
  rw [compR_pure]
  rw [List.nil_append]
  exact q2
theorem j1_setLcP (i : Nat) {y : Str} {py spos : Pos} {α γ β0 : Type} {ifs : List Expr} {sc : Scope} {m : R β0} {xs : β0 → List α} {ea : α → D} (own : List (Str × Nat)) {ts : List Nat} (en : γ → D) (ρB : α → List Slot) (t : α → Bool) (f : α → γ)
    (hc : X.calm = true) (hN : X.N.Nodup) (hi : JI X B ρ tg it m (fun b => (xs b).map ea) (fun _ => ρ)) (ok : BlkOk X.N X.env.scope sc own)
    (hg : Blk X sc fun X' => ∀ B' : Base, B'.rs = B.rs → ∀ x, JN X' B' (blot 0 (own.map (·.2)) ρ) tg (ea x) ts (ρB x))
    (ht : Blk X sc fun X' => ∀ B' : Base, B'.rs = B.rs → ∀ x, JTs X' B' (ρB x) ifs (.ok (t x)) (fun b => b))
    (he : Blk X sc fun X' => ∀ B' : Base, B'.rs = B.rs → ∀ x, JP X' B' (ρB x) elt (en (f x)))
    (hy : X.N[i]? = some y := by rfl) (hyl : X.env.scope.names.lookup y = some .local := by rfl) (hsw : swapsWith (.ListComp elt [⟨tg, it, ifs, 0⟩] sc pos) (some (.Name y py)) spos.line X.env = pure true := by exact sw_true rfl rfl rfl (by decide +kernel))
    (hpl : plainAt 0 (own.map (·.2)) ρ = true := by rfl) (hna : noAlis ρ = true := by rfl) (hts : ∀ i ∈ ts, i ∈ own.map (·.2) := by decide) (hplB : ∀ x, plainAt 0 (own.map (·.2)) (ρB x) = true := by intro _; rfl)
    (hnaB : ∀ x, noAlis (ρB x) = true := by intro _; rfl) (hun : ∀ x, unblot 0 (own.map (·.2)) ρ (ρB x) = ρ := by intro _; rfl) (hs : ∀ x, foldedSetIterable it X.env x = pure x := by intro _; rfl)
    (hlt : i < ρ.length := by exact of_decide_eq_true rfl) (hal : noAli i ρ = true := by rfl) :
    J1 X B ρ (.Assign [.Name y py] (.ListComp elt [⟨tg, it, ifs, 0⟩] sc pos) spos) (m.bind fun b => (R.guard ((xs b).length ≤ sizeLine)).bind fun _ => .ok b) (fun b => ρ.set i (.own 0 (oL en (((xs b).filter t).map f)))) := by
  have h := j1_setLc (X := X) (B := B) (ρ := ρ) (pos := pos) (spos := spos) (py := py) (y := y) i (S := Unit) (xs := xs) (ea := ea) (ts := ts) own en (fun _ => ρ) (fun _ => ()) (fun x _ => ρB x) (c := fun x _ => R.ok (t x)) (bn := fun b => b) (me := fun x s => R.ok (f x, s)) Prod.fst Prod.snd hc hN hi ok (fun _ => rfl)
    (fun s H C cl fp B' h x _ => hg s H C cl fp B' h x) (fun s H C cl fp B' h x _ => ht s H C cl fp B' h x) (fun s H C cl fp B' h x _ => he s H C cl fp B' h x) hy hyl hsw (fun _ => hpl) (fun _ => hna) hts (fun x _ => hplB x) (fun x _ => hnaB x) (fun x _ _ => hun x) hs (fun _ => hlt) (fun _ => hal)
  refine PS_imp h fun D σ H ⟨G, E, q⟩ => ⟨G, E, ?_⟩
  refine R.post_bind.mpr (R.post_mono (R.post_bind.mp q) fun b q1 => R.post_bind.mpr (R.post_mono (R.post_bind.mp q1) fun u q2 => ?_))
  rw [compR_pure]
  rw [List.nil_append]
  exact q2
/-! ### and, or with owned things that change -/
variable {rest : List Expr}
theorem jt_mapS {β S : Type} {m : R β} {bn : β → Bool} {st : β → S} {ρS : S → List Slot} (h : JT X B ρ e m bn (fun b => ρS (st b))) : JT X B ρ e (m.bind fun b => .ok (bn b, st b)) (fun p => p.1) (fun p => ρS p.2) :=
  PT_imp h fun σ H Q ⟨G, E, q⟩ => ⟨G, E, R.post_mono (R.post_bind.mp q) fun b k => k⟩
theorem jw_andS {α S : Type} {ma : R α} {xa : α → Bool} (st : α → S) (ρS : S → List Slot) {mb : α → R (Bool × S)} (ha : JT X B ρ a ma xa (fun x => ρS (st x))) (hb : ∀ x, JW X B (ρS (st x)) (.BoolOp .And (b :: rest) pos) (mb x) (fun p => p.1) (fun p => ρS p.2)) :
    JW X B ρ (.BoolOp .And (a :: b :: rest) pos) (ma.bind fun x => if xa x = true then mb x else .ok (false, st x)) (fun p => p.1) (fun p => ρS p.2) := by
  have hb' : PW X (.BoolOp .And (b :: rest) pos) (fun σ H Q => ∃ x, tJT X.K B (ρS (st x)) (mb x) (fun p => p.1) (fun p => ρS p.2) σ H Q) := ⟨fun wh pins s σ H Q I ⟨x, q⟩ => (hb x).run wh pins s σ H Q I q⟩
  exact PW_imp (pw_and ha hb') fun σ H Q ⟨G, E, q⟩ => ⟨G, E, R.post_mono (R.post_bind.mp q) fun x k G1 H1 x1 E1 => by
    cases hx : xa x with
    | true =>
      rw [if_pos hx] at k
      exact ⟨x, G1, E1, R.post_mono k fun b k G2 H2 x2 E2 => k G2 H2 (x1.trans x2) E2⟩
    | false =>
      rw [if_neg (by rw [hx]; decide)] at k
      exact k G1 H1 x1 E1⟩
theorem jw_orS {α S : Type} {ma : R α} {xa : α → Bool} (st : α → S) (ρS : S → List Slot) {mb : α → R (Bool × S)} (ha : JT X B ρ a ma xa (fun x => ρS (st x))) (hb : ∀ x, JW X B (ρS (st x)) (.BoolOp .Or (b :: rest) pos) (mb x) (fun p => p.1) (fun p => ρS p.2)) :
    JW X B ρ (.BoolOp .Or (a :: b :: rest) pos) (ma.bind fun x => if xa x = true then .ok (true, st x) else mb x) (fun p => p.1) (fun p => ρS p.2) := by
  have hb' : PW X (.BoolOp .Or (b :: rest) pos) (fun σ H Q => ∃ x, tJT X.K B (ρS (st x)) (mb x) (fun p => p.1) (fun p => ρS p.2) σ H Q) := ⟨fun wh pins s σ H Q I ⟨x, q⟩ => (hb x).run wh pins s σ H Q I q⟩
  exact PW_imp (pw_or ha hb') fun σ H Q ⟨G, E, q⟩ => ⟨G, E, R.post_mono (R.post_bind.mp q) fun x k G1 H1 x1 E1 => by
    cases hx : xa x with
    | false =>
      rw [if_neg (by rw [hx]; decide)] at k
      exact ⟨x, G1, E1, R.post_mono k fun b k G2 H2 x2 E2 => k G2 H2 (x1.trans x2) E2⟩
    | true =>
      rw [if_pos hx] at k
      exact k G1 H1 x1 E1⟩
/-! ### data of any depth, compared -/
end
def toPy : D → PyData
  | .none => .none
  | .bool b => .bool b
  | .int i => .int i
  | .str s => .str s
  | .list xs => .list (toPys xs)
  | .tuple xs => .tuple (toPys xs)
  | .row xs => .tuple (toPys xs)
  | .dict _ => .dict []
  | .scr ns => .list (ns.map PyData.int)
where toPys : List D → List PyData
  | [] => []
  | x :: xs => toPy x :: toPys xs
theorem dp_ints {K : PySem.W.Frag} {G : Hp} : ∀ ns : List Int, DpAll K G (ns.map V.int) (ns.map PyData.int)
  | [] => .nil
  | n :: ns => .cons (.int n) (dp_ints ns)
mutual
theorem Rp.dp {K : PySem.W.Frag} {G H : Hp} (e : Ex G H) : ∀ {v : V} {d : D}, Rp K G v d → (toPy d).canLay0 = true → Dp K H v (toPy d)
  | _, _, .non, _ => by
    rw [toPy]
    exact .non
  | _, _, .bl b, _ => by
    rw [toPy]
    exact .bl b
  | _, _, .int i, _ => by
    rw [toPy]
    exact .int i
  | _, _, .str x, _ => by
    rw [toPy]
    exact .str x
  | _, _, .lst h r, c => by
    rw [toPy] at c ⊢
    exact .lst (.inl (e.rd h)) (RpAll.dp e r (by simpa [PyData.canLay0] using c))
  | _, _, .tup h r, c => by
    rw [toPy] at c ⊢
    exact .tup (e.t h) (RpAll.dp e r (by simpa [PyData.canLay0] using c))
  | _, _, .row h d r, c => by
    rw [toPy] at c ⊢
    exact .tup (.inl (.inr ⟨_, e _ _ h⟩)) (RpAll.dp e r (by simpa [PyData.canLay0] using c))
  | _, _, .scr h, _ => by
    rw [toPy]
    exact .lst (e.l h) (dp_ints _)
  | _, _, .dK _ _, c => by
    rw [toPy] at c
    simp [PyData.canLay0] at c
  | _, _, .dT _ _, c => by
    rw [toPy] at c
    simp [PyData.canLay0] at c
theorem RpAll.dp {K : PySem.W.Frag} {G H : Hp} (e : Ex G H) : ∀ {v : List V} {d : List D}, RpAll K G v d → PyData.canLayAll0 (toPy.toPys d) = true → DpAll K H v (toPy.toPys d)
  | _, _, .nil, _ => by
    rw [toPy.toPys]
    exact .nil
  | _, _, .cons h r, c => by
    rw [toPy.toPys] at c ⊢
    rw [PyData.canLayAll0, Bool.and_eq_true] at c
    exact .cons (Rp.dp e h c.1) (RpAll.dp e r c.2)
end
/-- encodings whose values are equal just where the data are, at most n deep -/
structure EqE {α : Type} [DecidableEq α] (n : Nat) (f : α → D) : Prop where
  lay : ∀ x, (toPy (f x)).canLay0 = true
  dep : ∀ x, (toPy (f x)).depth ≤ n
  eqv : ∀ x y, PyData.eqv (toPy (f x)) (toPy (f y)) = decide (x = y)
theorem EqE.shaped {α : Type} [DecidableEq α] {n : Nat} {f : α → D} (h : EqE n f) (hn : n ≤ 64) (x : α) : SeqAt.shaped (toPy (f x)) = true := by
  unfold SeqAt.shaped
  rw [h.lay x, Bool.true_and]
  exact decide_eq_true (Nat.le_trans (h.dep x) hn)
theorem ee_int : EqE 0 D.int := ⟨fun _ => by simp [toPy, PyData.canLay0], fun _ => by simp [toPy, PyData.depth], fun x y => by
  simp only [toPy, PyData.eqv]
  exact Bool.beq_eq_decide_eq ..⟩
theorem ee_bool : EqE 0 D.bool := ⟨fun _ => by simp [toPy, PyData.canLay0], fun _ => by simp [toPy, PyData.depth], fun x y => by
  simp only [toPy, PyData.eqv]
  exact Bool.beq_eq_decide_eq ..⟩
theorem ee_p2 {α β : Type} [DecidableEq α] [DecidableEq β] {n : Nat} {f : α → D} {g : β → D} (hf : EqE n f) (hg : EqE n g) : EqE (n + 1) (eP2 f g) := by
  refine ⟨fun x => ?_, fun x => ?_, fun x y => ?_⟩
  · simp [toPy, toPy.toPys, PyData.canLay0, PyData.canLayAll0, hf.lay, hg.lay]
  · have h1 := hf.dep x.1
    have h2 := hg.dep x.2
    simp [toPy, toPy.toPys, PyData.depth, PyData.depthAll]
    omega
  · obtain ⟨a, b⟩ := x
    obtain ⟨c, d⟩ := y
    simp only [toPy, toPy.toPys, PyData.eqv, PyData.eqvAll, hf.eqv, hg.eqv, Bool.and_true]
    rw [← Bool.decide_and]
    exact decide_eq_decide.mpr ⟨fun h => by rw [h.1, h.2], fun h => by
      injection h with h1 h2
      exact ⟨h1, h2⟩⟩
theorem ee_p3 {α β γ : Type} [DecidableEq α] [DecidableEq β] [DecidableEq γ] {n : Nat} {f : α → D} {g : β → D} {h : γ → D} (hf : EqE n f) (hg : EqE n g) (hh : EqE n h) : EqE (n + 1) (eP3 f g h) := by
  refine ⟨fun x => ?_, fun x => ?_, fun x y => ?_⟩
  · simp [toPy, toPy.toPys, PyData.canLay0, PyData.canLayAll0, hf.lay, hg.lay, hh.lay]
  · have h1 := hf.dep x.1
    have h2 := hg.dep x.2.1
    have h3 := hh.dep x.2.2
    simp [toPy, toPy.toPys, PyData.depth, PyData.depthAll]
    omega
  · obtain ⟨a, b, c⟩ := x
    obtain ⟨a', b', c'⟩ := y
    simp only [toPy, toPy.toPys, PyData.eqv, PyData.eqvAll, hf.eqv, hg.eqv, hh.eqv, Bool.and_true]
    rw [← Bool.decide_and, ← Bool.decide_and]
    exact decide_eq_decide.mpr ⟨fun h => by rw [h.1, h.2.1, h.2.2], fun h => by
      injection h with h1 h2
      injection h2 with h2 h3
      exact ⟨h1, h2, h3⟩⟩
section
variable {α : Type} [DecidableEq α] {n : Nat} {f : α → D}
theorem ee_lay (h : EqE n f) : ∀ l : List α, PyData.canLayAll0 (toPy.toPys (l.map f)) = true
  | [] => by simp [toPy.toPys, PyData.canLayAll0]
  | x :: l => by
    rw [List.map_cons, toPy.toPys, PyData.canLayAll0, h.lay, ee_lay h l]
    rfl
theorem ee_dep (h : EqE n f) : ∀ l : List α, PyData.depthAll (toPy.toPys (l.map f)) ≤ n
  | [] => by simp [toPy.toPys, PyData.depthAll]
  | x :: l => by
    have h1 := h.dep x
    have h2 := ee_dep h l
    rw [List.map_cons, toPy.toPys, PyData.depthAll]
    omega
theorem ee_eqv (h : EqE n f) : ∀ l m : List α, PyData.eqvAll (toPy.toPys (l.map f)) (toPy.toPys (m.map f)) = decide (l = m)
  | [], [] => by simp [toPy.toPys, PyData.eqvAll]
  | [], _ :: _ => by simp [toPy.toPys, PyData.eqvAll]
  | _ :: _, [] => by simp [toPy.toPys, PyData.eqvAll]
  | x :: l, y :: m => by
    rw [List.map_cons, List.map_cons, toPy.toPys, toPy.toPys, PyData.eqvAll, h.eqv, ee_eqv h l m, ← Bool.decide_and]
    exact decide_eq_decide.mpr ⟨fun h => by rw [h.1, h.2], fun h => by
      injection h with h1 h2
      exact ⟨h1, h2⟩⟩
theorem ee_T (h : EqE n f) : EqE (n + 1) (eT f) := ⟨fun l => by
  rw [toPy, PyData.canLay0]
  exact ee_lay h l, fun l => by
  rw [toPy, PyData.depth]
  exact Nat.succ_le_succ (ee_dep h l), fun l m => by
  rw [toPy, toPy, PyData.eqv]
  exact ee_eqv h l m⟩
theorem ee_L (h : EqE n f) : EqE (n + 1) (eL f) := ⟨fun l => by
  rw [toPy, PyData.canLay0]
  exact ee_lay h l, fun l => by
  rw [toPy, PyData.depth]
  exact Nat.succ_le_succ (ee_dep h l), fun l m => by
  rw [toPy, toPy, PyData.eqv]
  exact ee_eqv h l m⟩
variable {K : PySem.W.Frag} {B : Base}
theorem od_eqD (h : EqE n f) (hn : n ≤ 64 := by decide) {x y : α} : OpD K B (rEqD K) (f x) (f y) (.ok ()) (fun _ => .val (.bool (decide (x = y)))) :=
  od_val0 (w := .bl (decide (x = y))) (fun G H vx vy Q e hx hy q => ⟨_, _, hx.dp e (h.lay x), hy.dp e (h.lay y), h.shaped hn x, h.shaped hn y, by rw [h.eqv]; exact q⟩) fun _ => .bl _
theorem od_neD (h : EqE n f) (hn : n ≤ 64 := by decide) {x y : α} : OpD K B (rNeD K) (f x) (f y) (.ok ()) (fun _ => .val (.bool (!decide (x = y)))) :=
  od_val0 (w := .bl (!decide (x = y))) (fun G H vx vy Q e hx hy q => ⟨_, _, hx.dp e (h.lay x), hy.dp e (h.lay y), h.shaped hn x, h.shaped hn y, by rw [h.eqv]; exact q⟩) fun _ => .bl _
theorem any_eqv (h : EqE n f) (x : α) : ∀ l : List α, ((toPy.toPys (l.map f)).any fun z => PyData.eqv z (toPy (f x))) = decide (x ∈ l)
  | [] => by simp [toPy.toPys]
  | y :: l => by
    rw [List.map_cons, toPy.toPys, List.any_cons, h.eqv, any_eqv h x l, ← Bool.decide_or]
    exact decide_eq_decide.mpr ⟨fun h => by
      rcases h with h | h
      · rw [h]
        exact List.mem_cons_self
      · exact List.mem_cons_of_mem _ h, fun h => by
      rcases List.mem_cons.mp h with h | h
      · exact .inl h.symm
      · exact .inr h⟩
theorem od_inD (h : EqE n f) (hn : n + 1 ≤ 64 := by decide) {x : α} {l : List α} : OpD K B (rInD K) (f x) (eL f l) (.ok ()) (fun _ => .val (.bool (decide (x ∈ l)))) :=
  od_val0 (w := .bl (decide (x ∈ l))) (fun G H vx vy Q e hx hy q => by
    have hL := ee_L h
    have d2 := hy.dp e (hL.lay l)
    have s2 := hL.shaped hn l
    rw [toPy] at d2 s2
    exact ⟨_, _, hx.dp e (h.lay x), d2, h.shaped (by omega) x, s2, by rw [any_eqv h]; exact q⟩) fun _ => .bl _
theorem od_niD (h : EqE n f) (hn : n + 1 ≤ 64 := by decide) {x : α} {l : List α} : OpD K B (rNotInD K) (f x) (eL f l) (.ok ()) (fun _ => .val (.bool (!decide (x ∈ l)))) :=
  od_val0 (w := .bl (!decide (x ∈ l))) (fun G H vx vy Q e hx hy q => by
    have hL := ee_L h
    have d2 := hy.dp e (hL.lay l)
    have s2 := hL.shaped hn l
    rw [toPy] at d2 s2
    exact ⟨_, _, hx.dp e (h.lay x), d2, h.shaped (by omega) x, s2, by rw [any_eqv h]; exact q⟩) fun _ => .bl _
end
/-! ### sums of tuples, greatest ones, lists made tuples -/
section
variable {K : PySem.W.Frag} {B : Base} {ρ : List Slot}
theorem od_catT {ds es : List D} (h1 : ds ≠ []) (h2 : es ≠ []) (h3 : ds.length + es.length ≤ 1000) : OpD K B (rCatT K) (.tuple ds) (.tuple es) (.ok ()) (fun _ => .val (.tuple (ds ++ es))) := fun G H σ ρ vx vy Q E hx hy q => by
  obtain ⟨a, xs, rfl, hS, hr⟩ := hx.tup_inv
  obtain ⟨b, ys, rfl, hS2, hr2⟩ := hy.tup_inv
  have l1 := hr.len
  have l2 := hr2.len
  refine ⟨a, b, xs, ys, rfl, rfl, E.sub.t hS, E.sub.t hS2, fun z => h1 (by rw [z] at l1; exact List.length_eq_zero_iff.mp l1.symm), by rw [l1, l2]; exact Nat.le_of_lt (small1000 h3), fun z => absurd (by rw [z] at l2; exact List.length_eq_zero_iff.mp l2.symm) h2, fun _ p hp => ?_⟩
  have e := Ex.new (o := HO.tup (xs ++ ys)) (E.sub.back hp)
  exact q _ _ _ e ((E.new hp _).push (.tup (.inl (.inl upd_same)) (RpAll.ex e (hr.append hr2))))
def maxL (ns : List Int) : Int := ns.foldl max (ns.headD 0)
def minL (ns : List Int) : Int := ns.foldl min (ns.headD 0)
theorem foldl_max (ns : List Int) : ∀ a : Int, a ≤ ns.foldl max a ∧ (∀ y ∈ ns, y ≤ ns.foldl max a) ∧ (ns.foldl max a = a ∨ ns.foldl max a ∈ ns) := by
  induction ns with
  | nil => exact fun a => ⟨Int.le_refl _, (fun _ m => nomatch m), .inl rfl⟩
  | cons x r ih =>
    intro a
    obtain ⟨h1, h2, h3⟩ := ih (max a x)
    rw [List.foldl_cons]
    refine ⟨by omega, fun y m => ?_, ?_⟩
    · rcases List.mem_cons.mp m with rfl | m
      · omega
      · exact h2 y m
    · rcases h3 with h | h
      · rw [h]
        rcases Int.le_total a x with l | l
        · right
          rw [show max a x = x by omega]
          exact List.mem_cons_self
        · left
          omega
      · exact .inr (List.mem_cons_of_mem _ h)
theorem foldl_min (ns : List Int) : ∀ a : Int, ns.foldl min a ≤ a ∧ (∀ y ∈ ns, ns.foldl min a ≤ y) ∧ (ns.foldl min a = a ∨ ns.foldl min a ∈ ns) := by
  induction ns with
  | nil => exact fun a => ⟨Int.le_refl _, (fun _ m => nomatch m), .inl rfl⟩
  | cons x r ih =>
    intro a
    obtain ⟨h1, h2, h3⟩ := ih (min a x)
    rw [List.foldl_cons]
    refine ⟨by omega, fun y m => ?_, ?_⟩
    · rcases List.mem_cons.mp m with rfl | m
      · omega
      · exact h2 y m
    · rcases h3 with h | h
      · rw [h]
        rcases Int.le_total a x with l | l
        · left
          omega
        · right
          rw [show min a x = x by omega]
          exact List.mem_cons_self
      · exact .inr (List.mem_cons_of_mem _ h)
theorem maxL_is {ns : List Int} (h : ns ≠ []) : maxL ns ∈ ns ∧ ∀ y ∈ ns, y ≤ maxL ns := by
  cases ns with
  | nil => exact absurd rfl h
  | cons a r =>
    obtain ⟨h1, h2, h3⟩ := foldl_max r (max a a)
    show List.foldl max (max a a) r ∈ _ ∧ _
    refine ⟨?_, fun y m => ?_⟩
    · rcases h3 with h | h
      · rw [h, show max a a = a by omega]
        exact List.mem_cons_self
      · exact List.mem_cons_of_mem _ h
    · show y ≤ List.foldl max (max a a) r
      rcases List.mem_cons.mp m with rfl | m
      · omega
      · exact h2 y m
theorem minL_is {ns : List Int} (h : ns ≠ []) : minL ns ∈ ns ∧ ∀ y ∈ ns, minL ns ≤ y := by
  cases ns with
  | nil => exact absurd rfl h
  | cons a r =>
    obtain ⟨h1, h2, h3⟩ := foldl_min r (min a a)
    show List.foldl min (min a a) r ∈ _ ∧ _
    refine ⟨?_, fun y m => ?_⟩
    · rcases h3 with h | h
      · rw [h, show min a a = a by omega]
        exact List.mem_cons_self
      · exact List.mem_cons_of_mem _ h
    · show List.foldl min (min a a) r ≤ y
      rcases List.mem_cons.mp m with rfl | m
      · omega
      · exact h2 y m
theorem cb_maxL {ns : List Int} : CbD K B ρ (rMax K) [.val (eL D.int ns)] (R.guard (ns ≠ [])) (fun _ => .val (.int (maxL ns))) :=
  cb_val (w := .int (maxL ns)) (fun hc G H σ vs Q e ok q => by
    obtain ⟨v, rfl, r⟩ := ok.one
    obtain ⟨a, xs, rfl, hS, hr⟩ := r.lst_inv
    have hx := hr.ints
    subst hx
    refine ⟨a, ns, rfl, .inl (e.rd hS), List.length_pos_iff.mpr hc, fun m hm hle => ?_⟩
    obtain ⟨h1, h2⟩ := maxL_is hc
    rw [show m = maxL ns from Int.le_antisymm (h2 m hm) (hle _ h1)]
    exact q) fun _ => .int _
theorem cb_minL {ns : List Int} : CbD K B ρ (rMin K) [.val (eL D.int ns)] (R.guard (ns ≠ [])) (fun _ => .val (.int (minL ns))) :=
  cb_val (w := .int (minL ns)) (fun hc G H σ vs Q e ok q => by
    obtain ⟨v, rfl, r⟩ := ok.one
    obtain ⟨a, xs, rfl, hS, hr⟩ := r.lst_inv
    have hx := hr.ints
    subst hx
    refine ⟨a, ns, rfl, .inl (e.rd hS), List.length_pos_iff.mpr hc, fun m hm hle => ?_⟩
    obtain ⟨h1, h2⟩ := minL_is hc
    rw [show m = minL ns from Int.le_antisymm (hle _ h1) (h2 m hm)]
    exact q) fun _ => .int _
theorem cb_anyL {bs : List Bool} : CbD K B ρ (rAny K) [.val (eL D.bool bs)] (.ok ()) (fun _ => .val (.bool (bs.any id))) :=
  cb_val0 (w := .bl (bs.any id)) (fun G H σ vs Q e ok q => by
    obtain ⟨v, rfl, r⟩ := ok.one
    obtain ⟨a, xs, rfl, hS, hr⟩ := r.lst_inv
    have hx := hr.bools
    subst hx
    exact ⟨a, bs, rfl, .inl (e.rd hS), q⟩) fun _ => .bl _
theorem cb_allL {bs : List Bool} : CbD K B ρ (rAll K) [.val (eL D.bool bs)] (.ok ()) (fun _ => .val (.bool (bs.all id))) :=
  cb_val0 (w := .bl (bs.all id)) (fun G H σ vs Q e ok q => by
    obtain ⟨v, rfl, r⟩ := ok.one
    obtain ⟨a, xs, rfl, hS, hr⟩ := r.lst_inv
    have hx := hr.bools
    subst hx
    exact ⟨a, bs, rfl, .inl (e.rd hS), q⟩) fun _ => .bl _
theorem cb_sumL {ns : List Int} : CbD K B ρ (rSum K) [.val (eL D.int ns)] (.ok ()) (fun _ => .val (.int ns.sum)) :=
  cb_val0 (w := .int ns.sum) (fun G H σ vs Q e ok q => by
    obtain ⟨v, rfl, r⟩ := ok.one
    obtain ⟨a, xs, rfl, hS, hr⟩ := r.lst_inv
    have hx := hr.ints
    subst hx
    exact ⟨a, ns, rfl, .inl (e.rd hS), q⟩) fun _ => .int _
/-- tuple(a list) -/
theorem cb_tupL {α : Type} {f : α → D} {xs : List α} : CbD K B ρ (fun xs H Q => ∃ p ys, xs = [.ref p] ∧ ((SqL K H p ys ∧ ∀ l, H l = none → Q (.ref l) (upd H l (.tup ys))) ∨ (SqT K H p ys ∧ Q (.ref p) H))) [.val (eL f xs)] (.ok ()) (fun _ => .val (eT f xs)) := fun G H σ vs Q E ok q => by
  obtain ⟨v, rfl, r⟩ := ok.one
  obtain ⟨a, ys, rfl, hS, hr⟩ := r.lst_inv
  refine ⟨a, ys, rfl, .inl ⟨.inl (E.sub.rd hS), fun p hp => ?_⟩⟩
  have e := Ex.new (o := HO.tup ys) (E.sub.back hp)
  exact q _ _ _ e ((E.new hp _).push (.tup (.inl (.inl upd_same)) (RpAll.ex e hr)))
theorem cb_tupT {α : Type} {f : α → D} {xs : List α} : CbD K B ρ (fun xs H Q => ∃ p ys, xs = [.ref p] ∧ ((SqL K H p ys ∧ ∀ l, H l = none → Q (.ref l) (upd H l (.tup ys))) ∨ (SqT K H p ys ∧ Q (.ref p) H))) [.val (eT f xs)] (.ok ()) (fun _ => .val (eT f xs)) := fun G H σ vs Q E ok q => by
  obtain ⟨v, rfl, r⟩ := ok.one
  obtain ⟨a, ys, rfl, hS, hr⟩ := r.tup_inv
  exact ⟨a, ys, rfl, .inr ⟨E.sub.t hS, q _ G H (Ex.refl _) (E.push r)⟩⟩
/-- list(..): a new one -/
theorem cb_lstL {α : Type} {f : α → D} {xs : List α} : CbD K B ρ (fun xs H Q => ∃ p ys, xs = [.ref p] ∧ (SqL K H p ys ∨ SqT K H p ys) ∧ ∀ l, H l = none → Q (.ref l) (upd H l (.lst ys))) [.val (eL f xs)] (.ok ()) (fun _ => .own 0 (oL f xs)) := fun G H σ vs Q E ok q => by
  obtain ⟨v, rfl, r⟩ := ok.one
  obtain ⟨a, ys, rfl, hS, hr⟩ := r.lst_inv
  exact ⟨a, ys, rfl, .inl (.inl (E.sub.rd hS)), fun p hp => q _ G _ (Ex.refl _) (E.newL hp hr)⟩
theorem cb_lstT {α : Type} {f : α → D} {xs : List α} : CbD K B ρ (fun xs H Q => ∃ p ys, xs = [.ref p] ∧ (SqL K H p ys ∨ SqT K H p ys) ∧ ∀ l, H l = none → Q (.ref l) (upd H l (.lst ys))) [.val (eT f xs)] (.ok ()) (fun _ => .own 0 (oL f xs)) := fun G H σ vs Q E ok q => by
  obtain ⟨v, rfl, r⟩ := ok.one
  obtain ⟨a, ys, rfl, hS, hr⟩ := r.tup_inv
  exact ⟨a, ys, rfl, .inr (E.sub.t hS), fun p hp => q _ G _ (Ex.refl _) (E.newL hp hr)⟩
end
/-! ### owned lists: read as data for good, grown, unpacked -/
section
variable {X : Cx} {B : Base} {ρ : List Slot} {pos : Pos} {e : Expr}
/-- an owned local, as data from now on -/
theorem je_name (i : Nat) {x : Str} {α : Type} {f : α → D} {xs : List α} (h : ρ[i]? = some (.own 0 (oL f xs)) := by rfl) (hal : noAlis ρ = true := by rfl) (hN : X.N[i]? = some x := by rfl) (hv : Vis X.env.scope x := by first | exact Or.inl rfl | exact Or.inr (Or.inl rfl) | exact Or.inr (Or.inr rfl))
    (hd : (x == ("__debug__" : Str)) = false := by decide) (hcd : (x == ("__classdict__" : Str)) = false := by decide) : JE X B ρ (.Name x pos) (.ok ()) (fun _ => .own 0 (oL f xs)) (fun _ => ρ.set i .non) :=
  PE_imp (pv i hN hv hd hcd) fun σ H Q ⟨G, E, q⟩ => by
    obtain ⟨A, c, n, g⟩ := E.own
    obtain ⟨v, A1, A2, e1, hO, hl, c2, pm⟩ := Cells.take1 (show Cells X.K B G H σ ρ A from c) h
    exact ⟨v, e1, q v G H (Ex.refl _) ⟨E.anc, ⟨A1 ++ A2, .cons (.own hO hl.1 hl.2) c2, pm.nodup_iff.mp n, fun a m => g a (pm.mem_iff.mpr m)⟩, by rw [List.length_set]; exact E.len, fun k j p e => by
      by_cases hk : i = k
      · subst hk
        rw [List.getElem?_set_self (List.getElem?_eq_some_iff.mp h).1] at e
        cases e
      · rw [List.getElem?_set_ne hk] at e
        exact absurd e (noAlis_get hal)⟩⟩
/-- xs.append(e) -/
theorem je_app (i : Nat) {x : Str} {px ap : Pos} {l l0 : Nat} {os0 : List OT} {α β : Type} {f : α → D} (xs : β → List α) {m : R β} {y : β → α} {ρ' : β → List Slot} (he : JE X B ρ e m (fun b => .val (f (y b))) ρ') (h : ∀ b, (ρ' b)[i]? = some (.own l (oL f (xs b))) := by intro _; rfl) (hal : ∀ b, noAlis (ρ' b) = true := by intro _; rfl)
    (h0 : ρ[i]? = some (.own l0 (.lst os0)) := by rfl) (hN : X.N[i]? = some x := by rfl) (hv : Vis X.env.scope x := by first | exact Or.inl rfl | exact Or.inr (Or.inl rfl) | exact Or.inr (Or.inr rfl))
    (hd : (x == ("__debug__" : Str)) = false := by decide) (hcd : (x == ("__classdict__" : Str)) = false := by decide) (hst : starEach [e] X.env = (false, eval e X.env) :: starEach [] X.env := by rfl)
    (hbase : attributeBase (.Name x px) "append" X.env (eval (.Name x px) X.env) = eval (.Name x px) X.env := by rfl)
    (hone : ((backTo pos (starEach [e] X.env)).all (fun x => !x.1) && (backToKw pos (keywordEach [] X.env)).all (fun x => x.1.isSome) && decide ([e].length + ([] : List Keyword).length + (if ([] : List Keyword).isEmpty then 0 else 1) < 30)) = true := by rfl)
    (hline : (ap.endLine == pos.line) = true := by rfl) (hnil : (backTo pos (starEach [] X.env)).any (·.1) = false := by rfl) :
    JE X B ρ (.Call (.Attribute (.Name x px) "append" ap) [e] [] pos) (m.bind fun b => (R.guard ((xs b).length < sizeLine)).bind fun _ => .ok b) (fun _ => .val .none) (fun b => (ρ' b).set i (.own l (oL f (xs b ++ [y b])))) :=
  PE_imp (pe_bm PySem.F.plainAttrs_list PySem.F.slot_list_append PySem.F.type_list_append mt_append (pv (X := X) (pos := px) i hN hv hd hcd) (pa_cons he pa_nil hst) hbase hone hline hst hnil) fun σ H Q ⟨G, E, q⟩ => by
    obtain ⟨A, c, n, g⟩ := E.own
    obtain ⟨w, A1, A2, e1, hO, hl, c2, pm⟩ := Cells.take1 (show Cells X.K B G H σ ρ A from c) h0
    cases hO with
    | @lst a vs _ A3 ha hall =>
      refine ⟨.ref a, e1, .inl ⟨rfl, _, .inl (.inl ha)⟩, G, E, R.post_mono (R.post_bind.mp q) (fun b hb => ?_)⟩
      intro v G1 H1 x1 E1
      obtain ⟨p, vs1, g1, g2, g3, g4⟩ := E1.pop.ownD (h b) (hal b)
      have ep : p = a := by
        have z := g1.symm.trans e1
        injection z with z
        injection z with z
        injection z
      subst ep
      have hlen : vs1.length = (xs b).length := by
        rw [g3.len, List.length_map]
      obtain ⟨hz, q⟩ := R.post_guard (R.post_bind.mp hb)
      refine ⟨p, vs1, v, rfl, rfl, g2, by omega, q _ G1 _ x1 ?_⟩
      have hr : RpAll X.K G1 (vs1 ++ [v]) ((xs b).map f ++ [f (y b)]) := g3.append (.cons (E1.top) .nil)
      have z := g4 G1 H1 [] (vs1 ++ [v]) ((xs b).map f ++ [f (y b)]) E1.pop (Ex.refl _) g2 hr
      have ez : (oL f (xs b ++ [y b])) = .lst (((xs b).map f ++ [f (y b)]).map OT.dat) := by rw [oL, List.map_append]; rfl
      show En X.K B G1 (upd H1 p (.lst (vs1 ++ [v]))) σ ((ρ' b).set i (.own l (oL f (xs b ++ [y b])))) [(.non, .val .none)]
      rw [ez]
      exact z.push .non
end
end DL

/-! DL12: owned lists lent out for a while, or given up -/
namespace DL
open PySem PySem.Spec L2

mutual
/-- no list in it -/
def Flat : D → Prop
  | .none => True
  | .bool _ => True
  | .int _ => True
  | .str _ => True
  | .tuple ds => FlatL ds
  | .row ds => FlatL ds
  | _ => False
def FlatL : List D → Prop
  | [] => True
  | d :: ds => Flat d ∧ FlatL ds
end
mutual
def FlatO : OT → Prop
  | .dat d => Flat d
  | .lst os => FlatOL os
  | .dk kvs => ∀ p ∈ kvs, Flat p.2
  | .dt kvs => ∀ p ∈ kvs, Flat p.2
def FlatOL : List OT → Prop
  | [] => True
  | o :: os => FlatO o ∧ FlatOL os
end
theorem fl_tup {ds : List D} (h : FlatL ds) : Flat (.tuple ds) := by
  rw [Flat]
  exact h
theorem fl_lst {ds : List OT} (h : FlatOL ds) : FlatO (.lst ds) := by
  rw [FlatO]
  exact h
theorem fl_nil : FlatL [] := by
  rw [FlatL]
  trivial
theorem fl_cons {d : D} {ds : List D} (h : Flat d) (r : FlatL ds) : FlatL (d :: ds) := by
  rw [FlatL]
  exact ⟨h, r⟩
theorem fl_int (i : Int) : Flat (.int i) := by
  rw [Flat]
  trivial
theorem fl_bool (i : Bool) : Flat (.bool i) := by
  rw [Flat]
  trivial
theorem fl_str (i : Str) : Flat (.str i) := by
  rw [Flat]
  trivial
theorem fl_U (i : Unit) : Flat (eU i) := by
  rw [eU, Flat]
  trivial
theorem FlatL.of {α : Type} {f : α → D} (h : ∀ x, Flat (f x)) : ∀ xs : List α, FlatL (xs.map f)
  | [] => fl_nil
  | x :: xs => fl_cons (h x) (FlatL.of h xs)
theorem FlatOL.of {α : Type} {f : α → D} (h : ∀ x, Flat (f x)) : ∀ xs : List α, FlatOL ((xs.map f).map OT.dat)
  | [] => by
    rw [List.map_nil, List.map_nil, FlatOL]
    trivial
  | x :: xs => by
    rw [List.map_cons, List.map_cons, FlatOL, FlatO]
    exact ⟨h x, FlatOL.of h xs⟩
theorem fl_T {α : Type} {f : α → D} (h : ∀ x, Flat (f x)) (xs : List α) : Flat (eT f xs) := fl_tup (FlatL.of h xs)
theorem fl_oL {α : Type} {f : α → D} (h : ∀ x, Flat (f x)) (xs : List α) : FlatO (oL f xs) := fl_lst (FlatOL.of h xs)
theorem fl_P2 {α β : Type} {f : α → D} {g : β → D} (h : ∀ x, Flat (f x)) (k : ∀ x, Flat (g x)) (p : α × β) : Flat (eP2 f g p) := fl_tup (fl_cons (h _) (fl_cons (k _) fl_nil))
theorem fl_P3 {α β γ : Type} {f : α → D} {g : β → D} {r : γ → D} (h : ∀ x, Flat (f x)) (k : ∀ x, Flat (g x)) (l : ∀ x, Flat (r x)) (p : α × β × γ) : Flat (eP3 f g r p) := fl_tup (fl_cons (h _) (fl_cons (k _) (fl_cons (l _) fl_nil)))
theorem fl_P4 {α β γ δ : Type} {f : α → D} {g : β → D} {r : γ → D} {s : δ → D} (h : ∀ x, Flat (f x)) (k : ∀ x, Flat (g x)) (l : ∀ x, Flat (r x)) (m : ∀ x, Flat (s x)) (p : α × β × γ × δ) : Flat (eP4 f g r s p) := fl_tup (fl_cons (h _) (fl_cons (k _) (fl_cons (l _) (fl_cons (m _) fl_nil))))

/-- things that may change -/
def mutO : HO → Bool
  | .lst _ => true
  | .dK _ => true
  | .dT _ => true
  | _ => false
section
variable {K : PySem.W.Frag} {G1 G2 H1 : Hp} {A : List Addr}
/-- what has no list in it does without the lent lists -/
theorem SqT.less (k : ∀ a u, G1 a = some u → mutO u = false → G2 a = some u) {a : Addr} {xs : List V} (h : SqT K G1 a xs) : SqT K G2 a xs := by
  rcases h with h | h
  · rcases h with h | ⟨o, h⟩
    · exact .inl (.inl (k _ _ h rfl))
    · exact .inl (.inr ⟨o, k _ _ h rfl⟩)
  · exact .inr h
mutual
theorem Rp.less (k : ∀ a u, G1 a = some u → mutO u = false → G2 a = some u) : ∀ {v : V} {d : D}, Rp K G1 v d → Flat d → Rp K G2 v d
  | _, _, .non, _ => .non
  | _, _, .bl b, _ => .bl b
  | _, _, .int i, _ => .int i
  | _, _, .str x, _ => .str x
  | _, _, .tup h r, f => .tup (SqT.less k h) (RpAll.less k r (by rw [Flat] at f; exact f))
  | _, _, .row h d r, f => .row (k _ _ h rfl) d (RpAll.less k r (by rw [Flat] at f; exact f))
  | _, _, .lst h r, f => by
    rw [Flat] at f <;> first | exact f.elim | (intros; exact D.noConfusion)
  | _, _, .scr h, f => by
    rw [Flat] at f <;> first | exact f.elim | (intros; exact D.noConfusion)
  | _, _, .dK h r, f => by
    rw [Flat] at f <;> first | exact f.elim | (intros; exact D.noConfusion)
  | _, _, .dT h r, f => by
    rw [Flat] at f <;> first | exact f.elim | (intros; exact D.noConfusion)
theorem RpAll.less (k : ∀ a u, G1 a = some u → mutO u = false → G2 a = some u) : ∀ {v : List V} {d : List D}, RpAll K G1 v d → FlatL d → RpAll K G2 v d
  | _, _, .nil, _ => .nil
  | _, _, .cons h r, f => .cons (Rp.less k h (by rw [FlatL] at f; exact f.1)) (RpAll.less k r (by rw [FlatL] at f; exact f.2))
end
theorem RpE.less {κ : Type} (k : ∀ a u, G1 a = some u → mutO u = false → G2 a = some u) {kvs : List (κ × V)} {ds : List (κ × D)} (h : RpE K G1 kvs ds) : (∀ p ∈ ds, Flat p.2) → RpE K G2 kvs ds := by
  induction h with
  | nil => exact fun _ => .nil
  | cons h _ ih => exact fun f => .cons (h.less k (f _ List.mem_cons_self)) (ih fun p m => f p (List.mem_cons_of_mem _ m))
mutual
theorem Own.less (k : ∀ a u, G1 a = some u → mutO u = false → G2 a = some u) : ∀ {v : V} {o : OT} {A : List Addr}, Own K G1 H1 v o A → FlatO o → Own K G2 H1 v o A
  | _, _, _, .dat h, f => .dat (h.less k (by rw [FlatO] at f; exact f))
  | _, _, _, .lst h r, f => .lst h (OwnAll.less k r (by rw [FlatO] at f; exact f))
  | _, _, _, .dk h r, f => .dk h (r.less k (by rw [FlatO] at f; exact f))
  | _, _, _, .dt h r, f => .dt h (r.less k (by rw [FlatO] at f; exact f))
theorem OwnAll.less (k : ∀ a u, G1 a = some u → mutO u = false → G2 a = some u) : ∀ {v : List V} {o : List OT} {A : List Addr}, OwnAll K G1 H1 v o A → FlatOL o → OwnAll K G2 H1 v o A
  | _, _, _, .nil, _ => .nil
  | _, _, _, .cons h r, f => .cons (Own.less k h (by rw [FlatOL] at f; exact f.1)) (OwnAll.less k r (by rw [FlatOL] at f; exact f.2))
end
end
/-- the slots while a list was lent: s0 before, s1 then, s2 after -/
inductive BorS : Slot → Slot → Slot → Prop
  | f {s0 s1 : Slot} : BorS s0 s1 .non
  | k {d : D} : BorS (.val d) (.val d) (.val d)
  | v {s0 : Slot} {d : D} : Flat d → BorS s0 (.val d) (.val d)
  | o {s0 : Slot} {l : Nat} {o : OT} : FlatO o → BorS s0 (.own l o) (.own l o)
inductive Bor : List Slot → List Slot → List Slot → Prop
  | nil : Bor [] [] []
  | cons {s0 s1 s2 : Slot} {r0 r1 r2 : List Slot} : BorS s0 s1 s2 → Bor r0 r1 r2 → Bor (s0 :: r0) (s1 :: r1) (s2 :: r2)
def Base.lend (B : Base) (A : List Addr) : Base := { B with H0 := fun a => if a ∈ A then none else B.H0 a, Mo := fun l => (B.Mo l).filter (fun a => decide (a ∉ A)), m0 := by rw [B.m0]; rfl }
section
variable {K : PySem.W.Frag} {B B' : Base} {G G' H H' G1 G2 H1 : Hp}
theorem Cells.reb : ∀ {σ : L2.St} {ρ : List Slot} {A : List Addr}, Cells K B G H σ ρ A → (∀ l a, a ∈ A → (a ∈ B.Mo l ∨ B.H0 a = none) → (a ∈ B'.Mo l ∨ B'.H0 a = none)) → B'.pv = B.pv → Cells K B' G H σ ρ A
  | _, _, _, .nil, _, _ => .nil
  | _, _, _, .cons c r, k, e => .cons (match c with
    | .non => .non
    | .val h => .val h
    | .own h m p => .own h (fun a q => k _ a (List.mem_append_left _ q) (m a q)) (by rw [e]; exact p)
    | .ali => .ali) (Cells.reb r (fun l a q => k l a (List.mem_append_right _ q)) e)
theorem Cells.putV : ∀ {σ : L2.St} {ρ : List Slot} {A : List Addr}, Cells K B G H σ ρ A → ∀ {i : Nat} {v : V} {d : D}, ρ[i]? = some .non → σ[i]? = some (some v) → Rp K G v d → Cells K B G H σ (ρ.set i (.val d)) A
  | _, _, _, .nil, _, _, _, e, _, _ => by simp at e
  | _, _, _, .cons (A := A) c r, 0, v, d, e, e2, h => by
    simp at e e2
    subst e
    subst e2
    cases c
    exact .cons (A := []) (.val h) r
  | _, _, _, .cons c r, i + 1, v, d, e, e2, h => .cons c (Cells.putV r (by simpa using e) (by simpa using e2) h)
theorem Cells.bor (k : ∀ a u, G1 a = some u → mutO u = false → G2 a = some u) (x : Ex G G2) : ∀ {σ : L2.St} {ρ0 ρ1 ρ2 : List Slot} {A0 A : List Addr}, Cells K B G H σ ρ0 A0 → Cells K B' G1 H1 σ ρ1 A → Bor ρ0 ρ1 ρ2 → ∃ A', Cells K B' G2 H1 σ ρ2 A' ∧ A'.Sublist A
  | _, _, _, _, _, _, _, .nil, .nil => ⟨[], .nil, .refl _⟩
  | _, _, _, _, _, _, .cons c0 r0, .cons (A := A1) c1 r1, .cons s r => by
    obtain ⟨A', h1, h2⟩ := Cells.bor k x r0 r1 r
    cases s with
    | f => exact ⟨[] ++ A', .cons .non h1, h2.trans (List.sublist_append_right _ _)⟩
    | k =>
      cases c0 with
      | val h => exact ⟨[] ++ A', .cons (.val (h.ex x)) h1, h2.trans (List.sublist_append_right _ _)⟩
    | v f =>
      cases c1 with
      | val h => exact ⟨[] ++ A', .cons (.val (h.less k f)) h1, h2⟩
    | o f =>
      cases c1 with
      | own h m p => exact ⟨A1 ++ A', .cons (.own (h.less k f) m p) h1, h2.append_left _⟩
theorem Bor.len {ρ0 ρ1 ρ2 : List Slot} (h : Bor ρ0 ρ1 ρ2) : ρ2.length = ρ1.length := by
  induction h with
  | nil => rfl
  | cons s r ih => rw [List.length_cons, List.length_cons, ih]

mutual
theorem Own.thereL : ∀ {v : V} {o : OT} {A : List Addr}, Own K G H v o A → ∀ a ∈ A, ∃ u, H a = some u ∧ mutO u = true
  | _, _, _, .dat _, _, m => nomatch m
  | _, _, _, .lst h r, a, m => by
    rcases List.mem_cons.mp m with rfl | m
    · exact ⟨_, h, rfl⟩
    · exact OwnAll.thereL r a m
  | _, _, _, .dk h r, a, m => by
    rw [List.mem_singleton.mp m]
    exact ⟨_, h, rfl⟩
  | _, _, _, .dt h r, a, m => by
    rw [List.mem_singleton.mp m]
    exact ⟨_, h, rfl⟩
theorem OwnAll.thereL : ∀ {v : List V} {o : List OT} {A : List Addr}, OwnAll K G H v o A → ∀ a ∈ A, ∃ u, H a = some u ∧ mutO u = true
  | _, _, _, .nil, _, m => nomatch m
  | _, _, _, .cons h r, a, m => by
    rcases List.mem_append.mp m with m | m
    · exact Own.thereL h a m
    · exact OwnAll.thereL r a m
end
def FlatS : Slot → Prop
  | .non => True
  | .val d => Flat d
  | .own _ o => FlatO o
  | .ali _ _ => False
theorem BorS.of : ∀ {s : Slot}, FlatS s → BorS .non s s
  | .non, _ => .f
  | .val _, h => .v h
  | .own _ _, h => .o h
  | .ali _ _, h => h.elim
def FlatX : List (V × Slot) → Prop
  | [] => True
  | p :: ps => FlatS p.2 ∧ FlatX ps
theorem Bor.ex : ∀ {ex : List (V × Slot)} {r0 r1 r2 : List Slot}, FlatX ex → Bor r0 r1 r2 → Bor (ex.map (fun _ => Slot.non) ++ r0) (ex.map (·.2) ++ r1) (ex.map (·.2) ++ r2)
  | [], _, _, _, _, h => h
  | _ :: _, _, _, _, f, h => .cons (BorS.of f.1) (Bor.ex f.2 h)
theorem Cells.nons {σ : L2.St} {ρ : List Slot} {A : List Addr} (h : Cells K B G H σ ρ A) : ∀ (ex : List (V × Slot)), Cells K B G H (ex.map (fun p => some p.1) ++ σ) (ex.map (fun _ => Slot.non) ++ ρ) A
  | [] => h
  | _ :: ex => .cons (A := []) .non (Cells.nons h ex)
theorem Anc.lend {B : Base} {G H : Hp} (h : Anc B G H) {A : List Addr} (hA : ∀ a ∈ A, G a = none) : Anc (B.lend A) (fun a => if a ∈ A then H a else G a) H := by
  have eG : Ex G fun a => if a ∈ A then H a else G a := fun a u e => by
    show (if a ∈ A then H a else G a) = _
    by_cases ha : a ∈ A
    · rw [hA a ha] at e
      cases e
    · rw [if_neg ha]
      exact e
  refine ⟨fun a o hm e => ?_, fun a l hm => h.there a l (List.mem_filter.mp hm).1, h.gsub.trans eG, fun a e1 e2 => ?_, fun a u e => ?_⟩
  · have e : (if a ∈ A then none else B.H0 a) = some o := e
    by_cases ha : a ∈ A
    · rw [if_pos ha] at e
      cases e
    · rw [if_neg ha] at e
      exact h.keep a o (fun l m => hm l (List.mem_filter.mpr ⟨m, decide_eq_true ha⟩)) e
  · have e1 : (if a ∈ A then none else B.H0 a) ≠ none := e1
    by_cases ha : a ∈ A
    · rw [if_pos ha] at e1
      exact absurd rfl e1
    · rw [if_neg ha] at e1
      show (if a ∈ A then H a else G a) = _
      rw [if_neg ha]
      exact h.gnew a e1 e2
  · have e : (if a ∈ A then H a else G a) = some u := e
    by_cases ha : a ∈ A
    · rw [if_pos ha] at e
      exact e
    · rw [if_neg ha] at e
      exact h.sub a u e
theorem Anc.back {B : Base} {G H G1 H1 : Hp} (h0 : Anc B G H) {A : List Addr} (hA : ∀ a ∈ A, G a = none) (hM : ∃ l, ∀ a ∈ A, a ∈ B.Mo l ∨ B.H0 a = none) (hT : ∀ a ∈ A, H a ≠ none) (x : Ex (fun a => if a ∈ A then H a else G a) G1) (h : Anc (B.lend A) G1 H1) : Anc B (fun a => if a ∈ A then none else G1 a) H1 := by
  have hG1 : ∀ a ∈ A, G1 a = H a := fun a ha => by
    cases e : H a with
    | none => exact absurd e (hT a ha)
    | some u => exact x a u (by
        show (if a ∈ A then H a else G a) = _
        rw [if_pos ha, e])
  refine ⟨fun a o hm e => ?_, fun a l hm => ?_, fun a u e => ?_, fun a e1 e2 => ?_, fun a u e => ?_⟩
  · have ha : a ∉ A := fun ha => by
      obtain ⟨l, k⟩ := hM
      rcases k a ha with k | k
      · exact hm l k
      · rw [k] at e
        cases e
    exact h.keep a o (fun l m => hm l (List.mem_filter.mp m).1) (by
      show (if a ∈ A then none else B.H0 a) = _
      rw [if_neg ha, e])
  · by_cases ha : a ∈ A
    · intro z
      have z1 := hG1 a ha
      cases e : H a with
      | none => exact hT a ha e
      | some u =>
        rw [e] at z1
        rw [h.sub a u z1] at z
        cases z
    · exact h.there a l (List.mem_filter.mpr ⟨hm, decide_eq_true ha⟩)
  · have e' := h0.gsub a u e
    have ha : a ∉ A := fun ha => by
      rw [hA a ha] at e'
      cases e'
    show (if a ∈ A then none else G1 a) = _
    rw [if_neg ha]
    exact x a u (by
      show (if a ∈ A then H a else G a) = _
      rw [if_neg ha]
      exact e')
  · show (if a ∈ A then none else G1 a) = _
    by_cases ha : a ∈ A
    · rw [if_pos ha]
    · rw [if_neg ha]
      exact h.gnew a (by
        show (if a ∈ A then none else B.H0 a) ≠ none
        rw [if_neg ha]
        exact e1) e2
  · have e : (if a ∈ A then none else G1 a) = some u := e
    by_cases ha : a ∈ A
    · rw [if_pos ha] at e
      cases e
    · rw [if_neg ha] at e
      exact h.sub a u e
theorem En.lend {σ : L2.St} {ρ : List Slot} (E : En K B G H σ ρ []) {i l : Nat} {o : OT} (h : ρ[i]? = some (.own l o)) (hal : noAlis ρ = true) : ∃ B' : Base, B'.rs = B.rs ∧ ∃ G', Ex G G' ∧ En K B' G' H σ (ρ.set i (.val o.toD)) [] ∧
    ∀ G1 H1 ρ1 ρ2 ex, Ex G' G1 → En K B' G1 H1 σ ρ1 ex → Bor (ρ.set i .non) ρ1 ρ2 → ρ2[i]? = some .non → FlatX ex → noAlis ρ2 = true → ∃ G2, Ex G G2 ∧ En K B G2 H1 σ (ρ2.set i (.own l o)) ex := by
  obtain ⟨A0, c, n, g⟩ := E.own
  obtain ⟨v, A, A2, e1, hO, ⟨hl, hp⟩, c2, pm⟩ := Cells.take1 (show Cells K B G H σ ρ A0 from c) h
  have nn := pm.nodup_iff.mp n
  have n1 := List.nodup_append.mp nn
  have hA : ∀ a ∈ A, G a = none := fun a m => g a (pm.mem_iff.mpr (List.mem_append_left _ m))
  have hA2 : ∀ a ∈ A2, G a = none := fun a m => g a (pm.mem_iff.mpr (List.mem_append_right _ m))
  have hT : ∀ a ∈ A, H a ≠ none := fun a m z => by
    obtain ⟨vs, e, _⟩ := hO.thereL a m
    rw [e] at z
    cases z
  have eG : Ex G fun a => if a ∈ A then H a else G a := fun a u e => by
    show (if a ∈ A then H a else G a) = _
    by_cases ha : a ∈ A
    · rw [hA a ha] at e
      cases e
    · rw [if_neg ha]
      exact e
  have c3 : Cells K (B.lend A) (fun a => if a ∈ A then H a else G a) H σ (ρ.set i .non) A2 := by
    refine Cells.reb (B := B) (c2.ex eG fun _ _ _ e => e) (fun l a m k => ?_) rfl
    have ha : a ∉ A := fun z => n1.2.2 a z a m rfl
    rcases k with k | k
    · exact .inl (List.mem_filter.mpr ⟨k, decide_eq_true ha⟩)
    · refine .inr ?_
      show (if a ∈ A then none else B.H0 a) = _
      rw [if_neg ha, k]
  have hi : i < ρ.length := (List.getElem?_eq_some_iff.mp h).1
  have c4 := c3.putV (i := i) (v := v) (d := o.toD) (by rw [List.getElem?_set_self hi]) e1 (hO.rp eG fun a m u e => by
    show (if a ∈ A then H a else G a) = _
    rw [if_pos m, e])
  rw [List.set_set] at c4
  refine ⟨B.lend A, rfl, _, eG, ⟨E.anc.lend hA, ⟨A2, c4, n1.2.1, fun a m => ?_⟩, by rw [List.length_set]; exact E.len, fun k j p e => ?_⟩, fun G1 H1 ρ1 ρ2 ex x E1 bo h2 fl ha2 => ?_⟩
  · have ha : a ∉ A := fun z => n1.2.2 a z a m rfl
    show (if a ∈ A then H a else G a) = _
    rw [if_neg ha]
    exact hA2 a m
  · by_cases hk : i = k
    · subst hk
      rw [List.getElem?_set_self hi] at e
      cases e
    · rw [List.getElem?_set_ne hk] at e
      exact absurd e (noAlis_get hal)
  · obtain ⟨A5, c5, n5, g5⟩ := E1.own
    have hG1 : ∀ a ∈ A, G1 a = H a := fun a ha => by
      cases e : H a with
      | none => exact absurd e (hT a ha)
      | some u => exact x a u (by
          show (if a ∈ A then H a else G a) = _
          rw [if_pos ha, e])
    have x2 : Ex G fun a => if a ∈ A then none else G1 a := fun a u e => by
      have ha : a ∉ A := fun ha => by
        rw [hA a ha] at e
        cases e
      show (if a ∈ A then none else G1 a) = _
      rw [if_neg ha]
      exact x a u (eG a u e)
    have k : ∀ a u, G1 a = some u → mutO u = false → (if a ∈ A then none else G1 a) = some u := fun a u e ne => by
      by_cases ha : a ∈ A
      · obtain ⟨vs, e3, em⟩ := hO.thereL a ha
        rw [hG1 a ha, e3] at e
        injection e with e
        subst e
        rw [em] at ne
        cases ne
      · rw [if_neg ha]
        exact e
    have disj : ∀ a ∈ A5, a ∉ A := fun a m ha => by
      have z := g5 a m
      rw [hG1 a ha] at z
      exact hT a ha z
    obtain ⟨A6, c6, s6⟩ := Cells.bor (G := G) (H := H) (G2 := fun a => if a ∈ A then none else G1 a) k x2 (c2.nons ex) c5 (Bor.ex fl bo)
    have c7 : Cells K B (fun a => if a ∈ A then none else G1 a) H1 (ex.map (fun p => some p.1) ++ σ) (ex.map (·.2) ++ ρ2) A6 := by
      refine Cells.reb (B := B.lend A) c6 (fun l a m k => ?_) rfl
      have ha := disj a (s6.subset m)
      rcases k with k | k
      · exact .inl (List.mem_filter.mp k).1
      · refine .inr ?_
        have k : (if a ∈ A then none else B.H0 a) = none := k
        rw [if_neg ha] at k
        exact k
    have hO1 : Own K (fun a => if a ∈ A then none else G1 a) H1 v o A := hO.ex x2 fun a m u e => E1.anc.sub a u (by rw [hG1 a m, e])
    obtain ⟨A8, c8, p8⟩ := c7.put1 (i := ex.length + i) (l := l) (o := o) (v := v) (A1 := A) (by
      rw [List.getElem?_append_right (by simp), List.length_map]
      simpa using h2) (by
      rw [List.getElem?_append_right (by simp), List.length_map]
      simpa using e1) hO1 ⟨hl, hp⟩
    rw [List.set_append_right _ _ (by simp), List.length_map, Nat.add_sub_cancel_left] at c8
    have hi2 : i < ρ2.length := (List.getElem?_eq_some_iff.mp h2).1
    refine ⟨_, x2, ⟨Anc.back E.anc hA ⟨l, hl⟩ hT x E1.anc, ⟨A8, c8, p8.nodup_iff.mpr (List.nodup_append.mpr ⟨n1.1, s6.nodup n5, fun a m b m2 e => ?_⟩), fun a m => ?_⟩, ?_, fun k j p e => ?_⟩⟩
    · subst e
      exact disj a (s6.subset m2) m
    · show (if a ∈ A then none else G1 a) = _
      by_cases ha : a ∈ A
      · rw [if_pos ha]
      · rw [if_neg ha]
        rcases List.mem_append.mp (p8.mem_iff.mp m) with m | m
        · exact absurd m ha
        · exact g5 a (s6.subset m)
    · rw [List.length_set, bo.len]
      exact E1.len
    · by_cases hk : i = k
      · subst hk
        rw [List.getElem?_set_self hi2] at e
        cases e
      · rw [List.getElem?_set_ne hk] at e
        exact absurd e (noAlis_get ha2)
end
section
variable {X : Cx} {B : Base} {ρ : List Slot} {pos : Pos} {e : Expr}
/-- an owned list read, in one expression -/
theorem je_bor (i : Nat) {β : Type} {m : R β} {sl : β → Slot} {l : Nat} {o : OT} {d : D} {ρ1 ρ2 ρ' : β → List Slot} (h : ρ[i]? = some (.own l o) := by rfl) (hd : o.toD = d) (he : ∀ B' : Base, B'.rs = B.rs → JE X B' (ρ.set i (.val d)) e m sl ρ1) (hb : ∀ b, Bor (ρ.set i .non) (ρ1 b) (ρ2 b)) (hf : ∀ b, FlatS (sl b)) (hr : ∀ b, (ρ2 b).set i (.own l o) = ρ' b)
    (hal : noAlis ρ = true := by rfl) (h2 : ∀ b, (ρ2 b)[i]? = some .non := by intro _; rfl) (ha2 : ∀ b, noAlis (ρ2 b) = true := by intro _; rfl) : JE X B ρ e m sl ρ' := by
  refine ⟨fun pins s σ H Q I ⟨G, E, q⟩ => ?_⟩
  obtain ⟨B', hB, G', x, E', k⟩ := E.lend h hal
  rw [hd] at E'
  refine (he B' hB).run pins s σ H Q I ⟨G', E', ?_⟩
  rw [hB]
  refine R.post_mono q fun b q1 v G1 H1 x1 E1 => ?_
  obtain ⟨G2, x2, E2⟩ := k G1 H1 (ρ1 b) (ρ2 b) _ x1 E1 (hb b) (h2 b) ⟨hf b, trivial⟩ (ha2 b)
  rw [hr b] at E2
  exact q1 v G2 H1 x2 E2
theorem jt_bor (i : Nat) {β : Type} {m : R β} {bn : β → Bool} {l : Nat} {o : OT} {d : D} {ρ1 ρ2 ρ' : β → List Slot} (h : ρ[i]? = some (.own l o) := by rfl) (hd : o.toD = d) (he : ∀ B' : Base, B'.rs = B.rs → JT X B' (ρ.set i (.val d)) e m bn ρ1) (hb : ∀ b, Bor (ρ.set i .non) (ρ1 b) (ρ2 b)) (hr : ∀ b, (ρ2 b).set i (.own l o) = ρ' b)
    (hal : noAlis ρ = true := by rfl) (h2 : ∀ b, (ρ2 b)[i]? = some .non := by intro _; rfl) (ha2 : ∀ b, noAlis (ρ2 b) = true := by intro _; rfl) : JT X B ρ e m bn ρ' := by
  refine ⟨fun pins s σ H Q I ⟨G, E, q⟩ => ?_⟩
  obtain ⟨B', hB, G', x, E', k⟩ := E.lend h hal
  rw [hd] at E'
  refine (he B' hB).run pins s σ H Q I ⟨G', E', ?_⟩
  rw [hB]
  refine R.post_mono q fun b q1 G1 H1 x1 E1 => ?_
  obtain ⟨G2, x2, E2⟩ := k G1 H1 (ρ1 b) (ρ2 b) _ x1 E1 (hb b) (h2 b) trivial (ha2 b)
  rw [hr b] at E2
  exact q1 G2 H1 x2 E2
theorem toD_map {α : Type} {f : α → D} : ∀ xs : List α, OT.toDs ((xs.map f).map OT.dat) = xs.map f
  | [] => by rw [List.map_nil, List.map_nil, OT.toDs]
  | x :: xs => by rw [List.map_cons, List.map_cons, OT.toDs, OT.toD, toD_map xs]
theorem toD_oL {α : Type} (f : α → D) (xs : List α) : (oL f xs).toD = eL f xs := by
  rw [oL, OT.toD, toD_map]
/-- an owned local becomes data for good -/
theorem En.frzS {K : PySem.W.Frag} {G H : Hp} {σ : L2.St} {ρ : List Slot} (E : En K B G H σ ρ []) {i : Nat} {o : OT} (h : ρ[i]? = some (.own 0 o)) (hal : noAlis ρ = true) : ∃ G', Ex G G' ∧ En K B G' H σ (ρ.set i (.val o.toD)) [] := by
  obtain ⟨A0, c, n, g⟩ := E.own
  obtain ⟨v, A, A2, e1, hO, ⟨hl, hp⟩, c2, pm⟩ := Cells.take1 (show Cells K B G H σ ρ A0 from c) h
  have nn := pm.nodup_iff.mp n
  have n1 := List.nodup_append.mp nn
  have hA : ∀ a ∈ A, G a = none ∧ B.H0 a = none := fun a m => ⟨g a (pm.mem_iff.mpr (List.mem_append_left _ m)), (hl a m).resolve_left (by rw [B.m0]; exact fun z => nomatch z)⟩
  have eG : Ex G fun a => if a ∈ A then H a else G a := fun a u e => by
    show (if a ∈ A then H a else G a) = _
    by_cases ha : a ∈ A
    · rw [(hA a ha).1] at e
      cases e
    · rw [if_neg ha]
      exact e
  have hi : i < ρ.length := (List.getElem?_eq_some_iff.mp h).1
  have c4 := (c2.ex eG fun _ _ _ e => e).putV (i := i) (v := v) (d := o.toD) (by rw [List.getElem?_set_self hi]) e1 (hO.rp eG fun a m u e => by
    show (if a ∈ A then H a else G a) = _
    rw [if_pos m, e])
  rw [List.set_set] at c4
  refine ⟨_, eG, E.anc.frz hA, ⟨A2, c4, n1.2.1, fun a m => ?_⟩, by rw [List.length_set]; exact E.len, fun k j p e => ?_⟩
  · have ha : a ∉ A := fun z => n1.2.2 a z a m rfl
    show (if a ∈ A then H a else G a) = _
    rw [if_neg ha]
    exact g a (pm.mem_iff.mpr (List.mem_append_right _ m))
  · by_cases hk : i = k
    · subst hk
      rw [List.getElem?_set_self hi] at e
      cases e
    · rw [List.getElem?_set_ne hk] at e
      exact absurd e (noAlis_get hal)
theorem js_frz (i : Nat) {N L T : Type} {ss : List Stmt} {m : R (Fl N L T)} {F : Fin N L T} {o : OT} {d : D} (h : ρ[i]? = some (.own 0 o) := by rfl) (hd : o.toD = d) (r : JSs X B (ρ.set i (.val d)) ss m F) (hal : noAlis ρ = true := by rfl) : JSs X B ρ ss m F :=
  PSs_imp r fun D σ H ⟨G, E, q⟩ => by
    obtain ⟨G', x, E'⟩ := E.frzS h hal
    rw [hd] at E'
    exact ⟨G', E', R.post_mono q fun f q2 => flP_ex q2 x⟩
theorem je_frzS (i : Nat) {β : Type} {m : R β} {sl : β → Slot} {ρ' : β → List Slot} {o : OT} {d : D} (h : ρ[i]? = some (.own 0 o) := by rfl) (hd : o.toD = d) (r : JE X B (ρ.set i (.val d)) e m sl ρ') (hal : noAlis ρ = true := by rfl) : JE X B ρ e m sl ρ' :=
  PE_imp r fun σ H Q ⟨G, E, q⟩ => by
    obtain ⟨G', x, E'⟩ := E.frzS h hal
    rw [hd] at E'
    exact ⟨G', E', R.post_mono q fun b k v G1 H1 x1 E1 => k v G1 H1 (x.trans x1) E1⟩
/-! ### a list's items into names -/
def un2 {α : Type} : List α → Option (α × α)
  | [a, b] => some (a, b)
  | _ => none
def un3 {α : Type} : List α → Option (α × α × α)
  | [a, b, c] => some (a, b, c)
  | _ => none
def un4 {α : Type} : List α → Option (α × α × α × α)
  | [a, b, c, d] => some (a, b, c, d)
  | _ => none
theorem jg_un {α β : Type} {es : List Expr} {k n : Nat} {f : α → D} {xs : List α} {un : List α → Option β} {ds : β → List D} {ρ' : β → List Slot} (hu : ∀ p, un xs = some p → xs.map f = ds p ∧ xs.length = n) (hc : X.calm = true) (h : ∀ p, JGs X B ρ es (ds p) (.ok ()) (fun _ => ρ' p)) (hn : (assignEach es X.env).length = n := by rfl) (hst : (assignEach es X.env).findIdx? (·.1) = none := by rfl) : JG X B ρ (.Tuple es k pos) (eL f xs) (R.some (un xs)) ρ' := by
  have h' : PGs X es (fun vs σ H Q => ∃ p, tJGs X.K B ρ (ds p) (.ok ()) (fun _ => ρ' p) vs σ H Q) := ⟨fun pins s σ H v u Q I r ⟨p, q⟩ => (h p).run pins s σ H v u Q I r q⟩
  exact PG_imp (pg_unl (n := n) hc h' hn hst) fun v σ H Q ⟨G, E, r, q⟩ => by
    obtain ⟨a, vs, rfl, hS, hr⟩ := r.lst_inv
    obtain ⟨p, hp, q⟩ := R.post_some q
    obtain ⟨e1, e2⟩ := hu p hp
    refine ⟨a, vs, rfl, .inl (E.sub.rd hS), by rw [hr.len, List.length_map, e2], p, G, E, e1 ▸ hr, q⟩
theorem un2_ok {α : Type} {f : α → D} {xs : List α} : ∀ p, un2 xs = some p → xs.map f = [f p.1, f p.2] ∧ xs.length = 2 := fun p e => by
  match xs, e with
  | [a, b], e =>
    cases e
    exact ⟨rfl, rfl⟩
theorem un3_ok {α : Type} {f : α → D} {xs : List α} : ∀ p, un3 xs = some p → xs.map f = [f p.1, f p.2.1, f p.2.2] ∧ xs.length = 3 := fun p e => by
  match xs, e with
  | [a, b, c], e =>
    cases e
    exact ⟨rfl, rfl⟩
theorem un4_ok {α : Type} {f : α → D} {xs : List α} : ∀ p, un4 xs = some p → xs.map f = [f p.1, f p.2.1, f p.2.2.1, f p.2.2.2] ∧ xs.length = 4 := fun p e => by
  match xs, e with
  | [a, b, c, d], e =>
    cases e
    exact ⟨rfl, rfl⟩
theorem jts_t : JTs X B ρ [] (.ok true) (fun b => b) := ⟨fun pins s σ H Q I ⟨G, E, q⟩ => pts_nil.run pins s σ H Q I (q G H (Ex.refl G) E)⟩
theorem je_cast {β : Type} {m : R β} {s1 s2 : β → Slot} {ρ' : β → List Slot} (k : JE X B ρ e m s1 ρ') (h : ∀ b, s2 b = s1 b) : JE X B ρ e m s2 ρ' := (funext h) ▸ k
theorem js_lt {α N L T : Type} {ss : List Stmt} {F : Fin N L T} (ρ : α → List Slot) (v0 : α) {k : α → R (Fl N L T)} (h : ∀ v, JSs X B (ρ v) ss (k v) F) : JSs X B (ρ v0) ss (lt v0 k) F := by
  rw [lt]
  exact h v0
theorem noRs {B B' : Base} (h : B'.rs = B.rs) (k : ∀ e, ¬ B.rs e) : ∀ e, ¬ B'.rs e := fun e => by
  rw [h]
  exact k e
theorem un65 {k : Nat} {A : Around} (r : RoomG k A) : A.units + 65 < cLine := by
  have := r.r.un
  omega
theorem un64 {k : Nat} {A : Around} (r : RoomG k A) : A.units + 64 < cLine := by
  have := r.r.un
  omega
end
/-- x in l -/
def hasL {α : Type} [DecidableEq α] (x : α) (l : List α) : Bool := decide (x ∈ l)
theorem hasL_iff {α : Type} [DecidableEq α] {x : α} {l : List α} : hasL x l = true ↔ x ∈ l := by
  rw [hasL, decide_eq_true_eq]
theorem od_inL {K : PySem.W.Frag} {B : Base} {α : Type} [DecidableEq α] {n : Nat} {f : α → D} (h : EqE n f) (hn : n + 1 ≤ 64 := by decide) {x : α} {l : List α} : OpD K B (rInD K) (f x) (eL f l) (.ok ()) (fun _ => .val (.bool (hasL x l))) := od_inD h hn
theorem od_niL {K : PySem.W.Frag} {B : Base} {α : Type} [DecidableEq α] {n : Nat} {f : α → D} (h : EqE n f) (hn : n + 1 ≤ 64 := by decide) {x : α} {l : List α} : OpD K B (rNotInD K) (f x) (eL f l) (.ok ()) (fun _ => .val (.bool (!hasL x l))) := od_niD h hn
end DL

/-! DL13: owned lists of owned lists; methods that change a list -/
namespace DL
open PySem PySem.Spec L2

def OT.subL : OT → List Nat → Option OT
  | o, [] => some o
  | .lst os, k :: ks => (os[k]?).bind fun o => o.subL ks
  | _, _ :: _ => none
def OT.putL : OT → List Nat → OT → OT
  | _, [], n => n
  | .lst os, k :: ks, n => .lst (match os[k]? with
    | some o => os.set k (o.putL ks n)
    | none => os)
  | o, _ :: _, _ => o
section
variable {K : PySem.W.Frag} {G H : Hp}
theorem OwnAll.at : ∀ {vs : List V} {os : List OT} {A : List Addr} {k : Nat} {o : OT}, OwnAll K G H vs os A → os[k]? = some o →
    ∃ v A0 A1 A2, vs[k]? = some v ∧ Own K G H v o A1 ∧ A = A0 ++ (A1 ++ A2) ∧ ∀ (H' : Hp) (o' : OT), Own K G H' v o' A1 → (∀ a ∈ A0 ++ A2, H' a = H a) → OwnAll K G H' vs (os.set k o') A
  | _, _, _, _, _, .nil, e => by simp at e
  | _, _, _, 0, o, .cons (A := A) (A' := A') h r, e => by
    simp at e
    subst e
    exact ⟨_, [], A, A', rfl, h, rfl, fun H' o' h' k => .cons h' (OwnAll.ex (Ex.refl G) r fun a m u e => by rw [k a (by simpa using m), e])⟩
  | _, _, _, k + 1, o, .cons (A := A) (A' := A') h r, e => by
    obtain ⟨v, A0, A1, A2, h1, h2, h3, h4⟩ := OwnAll.at (k := k) r (by simpa using e)
    subst h3
    refine ⟨v, A ++ A0, A1, A2, by simpa using h1, h2, by simp, fun H' o' h' k => .cons (h.ex (Ex.refl G) fun a m u e => by rw [k a (by simp [m]), e]) (h4 H' o' h' fun a m => k a (by
      rcases List.mem_append.mp m with m | m <;> simp [m]))⟩
theorem At.fun_ : ∀ {p : List Nat} {v w w' : V}, At H v p w → At H v p w' → w = w'
  | [], _, _, _, h, h' => h.symm.trans h'
  | _ :: _, _, _, _, ⟨a, vs, u, h1, h2, h3, h4⟩, ⟨a', vs', u', g1, g2, g3, g4⟩ => by
    subst h1
    injection g1 with g1
    subst g1
    rw [h2] at g2
    injection g2 with g2
    injection g2 with g2
    subst g2
    rw [h3] at g3
    injection g3 with g3
    subst g3
    exact At.fun_ h4 g4
theorem Own.put : ∀ {p : List Nat} {v : V} {o : OT} {A : List Addr} {ds : List D}, Own K G H v o A → o.subL p = some (.lst (ds.map OT.dat)) →
    ∃ a vs, At H v p (.ref a) ∧ a ∈ A ∧ H a = some (.lst vs) ∧ RpAll K G vs ds ∧ (A.Nodup → ∀ vs' ds', RpAll K G vs' ds' → Own K G (upd H a (.lst vs')) v (o.putL p (.lst (ds'.map OT.dat))) A)
  | [], v, o, A, ds, h, e => by
    rw [OT.subL] at e
    injection e with e
    subst e
    cases h with
    | @lst a vs _ A3 ha hall =>
      obtain ⟨e3, r⟩ := own_dats_inv hall
      subst e3
      refine ⟨a, vs, rfl, List.mem_cons_self, ha, r, fun _ vs' ds' r' => ?_⟩
      rw [OT.putL]
      exact .lst upd_same (own_dats r')
  | k :: ks, v, .dat d, A, ds, h, e => by
    simp [OT.subL] at e
  | k :: ks, v, .dk d, A, ds, h, e => by
    simp [OT.subL] at e
  | k :: ks, v, .dt d, A, ds, h, e => by
    simp [OT.subL] at e
  | k :: ks, v, .lst os, A, ds, h, e => by
    rw [OT.subL] at e
    obtain ⟨o1, e1, e2⟩ := Option.bind_eq_some_iff.mp e
    cases h with
    | @lst b ws _ A3 hb hall =>
      obtain ⟨u, A0, A1, A2, h1, h2, h3, h4⟩ := hall.at e1
      obtain ⟨a, vs, g1, g2, g3, g4, g5⟩ := Own.put (p := ks) h2 e2
      have m : a ∈ A3 := by
        rw [h3]
        simp [g2]
      refine ⟨a, vs, ⟨b, ws, u, rfl, hb, h1, g1⟩, List.mem_cons_of_mem _ m, g3, g4, fun nd vs' ds' r' => ?_⟩
      have n1 := List.nodup_cons.mp nd
      rw [OT.putL, e1]
      have n2 := n1.2
      rw [h3] at n2
      have n3 := List.nodup_append.mp n2
      have n4 := List.nodup_append.mp n3.2.1
      refine .lst ?_ (h4 _ _ (g5 n4.1 vs' ds' r') fun c mc => upd_ne fun z => ?_)
      · rw [upd_ne (fun z => n1.1 (by rw [z]; exact m))]
        exact hb
      · subst z
        rcases List.mem_append.mp mc with mc | mc
        · exact n3.2.2 c mc c (List.mem_append_left _ g2) rfl
        · exact n4.2.2 c g2 c mc rfl
theorem toDs_at : ∀ {os : List OT} {k : Nat}, (OT.toDs os)[k]? = (os[k]?).map OT.toD
  | [], k => by simp [OT.toDs]
  | o :: os, 0 => by simp [OT.toDs]
  | o :: os, k + 1 => by
    rw [OT.toDs]
    simpa using toDs_at (os := os) (k := k)
theorem Rp.at {G' : Hp} (x : Ex G' H) : ∀ {p : List Nat} {v w : V} {o o' : OT}, Rp K G' v o.toD → o.subL p = some o' → At H v p w → At G' v p w
  | [], _, _, _, _, _, _, h => h
  | k :: ks, v, w, .dat d, o', h, e, _ => by
    simp [OT.subL] at e
  | k :: ks, v, w, .dk d, o', h, e, _ => by
    simp [OT.subL] at e
  | k :: ks, v, w, .dt d, o', h, e, _ => by
    simp [OT.subL] at e
  | k :: ks, v, w, .lst os, o', h, e, ⟨a, vs, u, h1, h2, h3, h4⟩ => by
    rw [OT.subL] at e
    obtain ⟨o1, e1, e2⟩ := Option.bind_eq_some_iff.mp e
    rw [OT.toD] at h
    obtain ⟨b, xs, e3, hS, hr⟩ := h.lst_inv
    subst h1
    injection e3 with e3
    subst e3
    have hx : G' a = some (.lst xs) := by
      rcases hS with hS | ⟨o, hS⟩
      · exact hS
      · have := x _ _ hS
        rw [h2] at this
        cases this
    have hxs : xs = vs := by
      have := x _ _ hx
      rw [h2] at this
      injection this with this
      injection this with this
      exact this.symm
    subst hxs
    obtain ⟨d, hd, hrd⟩ := hr.getV h3
    rw [toDs_at, e1] at hd
    injection hd with hd
    subst hd
    exact ⟨a, xs, u, rfl, hx, h3, Rp.at x hrd e2 h4⟩
end
section
variable {K : PySem.W.Frag} {B : Base} {G H : Hp} {σ : L2.St} {ρ : List Slot}
/-- a list of data somewhere in an owned tree -/
theorem En.putAt {ex : List (V × Slot)} (E : En K B G H σ ρ ex) {i l : Nat} {o : OT} {p : List Nat} {ds : List D} (h : ρ[i]? = some (.own l o)) (hal : noAlis ρ = true) (hs : o.subL p = some (.lst (ds.map OT.dat))) :
    ∃ v a vs, σ[i]? = some (some v) ∧ At H v p (.ref a) ∧ H a = some (.lst vs) ∧ RpAll K G vs ds ∧ ∀ vs' ds', RpAll K G vs' ds' → En K B G (upd H a (.lst vs')) σ (ρ.set i (.own l (o.putL p (.lst (ds'.map OT.dat))))) ex := by
  obtain ⟨A0, c, n, g⟩ := E.own
  have hi : i < ρ.length := (List.getElem?_eq_some_iff.mp h).1
  have h' : (ex.map (·.2) ++ ρ)[ex.length + i]? = some (.own l o) := by
    rw [List.getElem?_append_right (by simp), List.length_map]
    simpa using h
  obtain ⟨v, A, A2, e1, hO, ⟨hl, hp⟩, c2, pm⟩ := c.take1 h'
  rw [List.getElem?_append_right (by simp), List.length_map] at e1
  have e1 : σ[i]? = some (some v) := by simpa using e1
  have nn := pm.nodup_iff.mp n
  have n1 := List.nodup_append.mp nn
  obtain ⟨a, vs, g1, g2, g3, g4, g5⟩ := hO.put hs
  refine ⟨v, a, vs, e1, g1, g3, g4, fun vs' ds' r' => ?_⟩
  have hG : G a = none := g a (pm.mem_iff.mpr (List.mem_append_left _ g2))
  have c3 : Cells K B G (upd H a (.lst vs')) (ex.map (fun p => some p.1) ++ σ) ((ex.map (·.2) ++ ρ).set (ex.length + i) .non) A2 := c2.ex (Ex.refl G) fun b m u e => by
    rw [upd_ne (fun z => by
      subst z
      exact n1.2.2 b g2 b m rfl)]
    exact e
  obtain ⟨A8, c8, p8⟩ := c3.put1 (i := ex.length + i) (l := l) (o := o.putL p (.lst (ds'.map OT.dat))) (v := v) (A1 := A) (by
    rw [List.getElem?_set_self]
    rw [List.length_append, List.length_map]
    omega) (by
    rw [List.getElem?_append_right (by simp), List.length_map]
    simpa using e1) (g5 n1.1 vs' ds' r') ⟨hl, hp⟩
  rw [List.set_set, List.set_append_right _ _ (by simp), List.length_map, Nat.add_sub_cancel_left] at c8
  refine ⟨E.anc.put hG ((hl a g2).elim (fun z => .inl ⟨l, z⟩) .inr) _, ⟨A8, c8, p8.nodup_iff.mpr nn, fun b m => g b (pm.mem_iff.mpr (p8.mem_iff.mp m))⟩, by rw [List.length_set]; exact E.len, fun k j q e => ?_⟩
  by_cases hk : i = k
  · subst hk
    rw [List.getElem?_set_self hi] at e
    cases e
  · rw [List.getElem?_set_ne hk] at e
    exact absurd e (noAlis_get hal)
/-- lent, the places in the tree stay -/
theorem En.lendAt (E : En K B G H σ ρ []) {i l : Nat} {o : OT} (h : ρ[i]? = some (.own l o)) (hal : noAlis ρ = true) : ∃ B' : Base, B'.rs = B.rs ∧ ∃ G', Ex G G' ∧ En K B' G' H σ (ρ.set i (.val o.toD)) [] ∧
    (∀ v p o' w, σ[i]? = some (some v) → o.subL p = some o' → At H v p w → At G' v p w) ∧
    ∀ G1 H1 ρ1 ρ2 ex, Ex G' G1 → En K B' G1 H1 σ ρ1 ex → Bor (ρ.set i .non) ρ1 ρ2 → ρ2[i]? = some .non → FlatX ex → noAlis ρ2 = true → ∃ G2, Ex G G2 ∧ En K B G2 H1 σ (ρ2.set i (.own l o)) ex := by
  obtain ⟨B', hB, G', x, E', k⟩ := E.lend h hal
  refine ⟨B', hB, G', x, E', fun v p o' w e1 e2 e3 => ?_, k⟩
  obtain ⟨v', g1, g2⟩ := E'.get (i := i) (d := o.toD) (by rw [List.getElem?_set_self (List.getElem?_eq_some_iff.mp h).1])
  rw [e1] at g1
  injection g1 with g1
  injection g1 with g1
  subst g1
  exact Rp.at E'.sub g2 e2 e3
end
/-- a place: a list of data in slot i, along a path -/
def tJL (K : PySem.W.Frag) (B : Base) (ρ : List Slot) (i : Nat) {ι : Type} (m : R ι) (path : ι → List Nat) : TE := fun σ H Q =>
  ∃ G, En K B G H σ ρ [] ∧ m.post (fun j => ∀ G' H', Ex G G' → En K B G' H' σ ρ [] → ∀ v a, σ[i]? = some (some v) → At H' v (path j) (.ref a) → Q (.ref a) H') B.rs
def JL (X : Cx) (B : Base) (ρ : List Slot) (e : Expr) (i : Nat) {ι : Type} (m : R ι) (path : ι → List Nat) : Prop := PE X e (tJL X.K B ρ i m path)
/-- what a method does to a list of data -/
def MtD (K : PySem.W.Frag) (r : V → List V → Hp → VK → Prop) (ds : List D) (as : List D) {γ : Type} (m : R γ) (res : γ → D) (ds' : γ → List D) : Prop :=
  ∀ (G H : Hp) (a : Addr) (vs args : List V) (Q : VK) (rs : Exn → Prop), Ex G H → H a = some (.lst vs) → RpAll K G vs ds → RpAll K G args as → m.post (fun c => ∀ v vs', Rp K G v (res c) → RpAll K G vs' (ds' c) → Q v (upd H a (.lst vs'))) rs → r (.ref a) args H Q
section
variable {X : Cx} {B : Base} {ρ : List Slot} {pos : Pos} {obj e : Expr} {es : List Expr}
theorem jl_name (i : Nat) {x : Str} {l : Nat} {os : List OT} (h : ρ[i]? = some (.own l (.lst os)) := by rfl) (hN : X.N[i]? = some x := by rfl) (hv : Vis X.env.scope x := by first | exact Or.inl rfl | exact Or.inr (Or.inl rfl) | exact Or.inr (Or.inr rfl))
    (hd : (x == ("__debug__" : Str)) = false := by decide) (hcd : (x == ("__classdict__" : Str)) = false := by decide) : JL X B ρ (.Name x pos) i (.ok ()) (fun _ => []) :=
  PE_imp (pv i hN hv hd hcd) fun σ H Q ⟨G, E, q⟩ => by
    obtain ⟨A, c, n, g⟩ := E.own
    obtain ⟨v, A1, A2, e1, hO, hl, c2, pm⟩ := Cells.take1 (show Cells X.K B G H σ ρ A from c) h
    cases hO with
    | lst ha hall => exact ⟨_, e1, q G H (Ex.refl G) E _ _ e1 rfl⟩
@[reducible] def oLL {α : Type} (f : α → D) (rows : List (List α)) : OT := .lst (rows.map (oL f))
def rowAt {α : Type} (rows : List (List α)) (k : Int) : Option (Nat × List α) := (ixN rows.length k).bind fun j => (rows[j]?).map fun r => (j, r)
theorem rowAt_get {α : Type} {rows : List (List α)} {k : Int} {p : Nat × List α} (h : rowAt rows k = some p) : ixN rows.length k = some p.1 ∧ rows[p.1]? = some p.2 := by
  obtain ⟨j, h1, h2⟩ := Option.bind_eq_some_iff.mp h
  obtain ⟨r, h3, h4⟩ := Option.map_eq_some_iff.mp h2
  subst h4
  exact ⟨h1, h3⟩
theorem subL1 {α : Type} {f : α → D} {rows : List (List α)} {j : Nat} {r : List α} (h : rows[j]? = some r) : (oLL f rows).subL [j] = some (.lst ((r.map f).map OT.dat)) := by
  rw [oLL, OT.subL, List.getElem?_map, h]
  rfl
theorem putL1 {α : Type} {f : α → D} {rows : List (List α)} {j : Nat} {r xs : List α} (h : rows[j]? = some r) : (oLL f rows).putL [j] (.lst ((xs.map f).map OT.dat)) = oLL f (rows.set j xs) := by
  rw [oLL, OT.putL, List.getElem?_map, h]
  simp only [Option.map_some, OT.putL]
  rw [oLL, List.map_set]
theorem OwnAll.len {K : PySem.W.Frag} {G H : Hp} : ∀ {vs : List V} {os : List OT} {A : List Addr}, OwnAll K G H vs os A → vs.length = os.length
  | _, _, _, .nil => rfl
  | _, _, _, .cons _ r => by rw [List.length_cons, List.length_cons, r.len]
theorem jl_ix (i : Nat) {x : Str} {px : Pos} {l : Nat} {α : Type} {f : α → D} {rows : List (List α)} {k : Int} (hk : JP X B ρ e (.int k)) (h : ρ[i]? = some (.own l (oLL f rows)) := by rfl) (hN : X.N[i]? = some x := by rfl)
    (hv : Vis X.env.scope x := by first | exact Or.inl rfl | exact Or.inr (Or.inl rfl) | exact Or.inr (Or.inr rfl)) (hd : (x == ("__debug__" : Str)) = false := by decide) (hcd : (x == ("__classdict__" : Str)) = false := by decide) (hs : PlainIx e := by exact fun _ _ => rfl) :
    JL X B ρ (.Subscript (.Name x px) e pos) i (R.some (rowAt rows k)) (fun p => [p.1]) :=
  PE_imp (pe_ix ix_list (pv i hN hv hd hcd) hk hs) fun σ H Q ⟨G, E, q⟩ => by
    have get : ∀ {G H : Hp} {ex : List (V × Slot)}, En X.K B G H σ ρ ex → ∃ p vs A3, σ[i]? = some (some (.ref p)) ∧ H p = some (.lst vs) ∧ OwnAll X.K G H vs (rows.map (oL f)) A3 := fun {G H ex} E => by
      obtain ⟨A, c, n, g⟩ := E.own
      have h' : (ex.map (·.2) ++ ρ)[ex.length + i]? = some (.own l (oLL f rows)) := by
        rw [List.getElem?_append_right (by simp), List.length_map]
        simpa using h
      obtain ⟨v, A1, A2, e1, hO, hl, c2, pm⟩ := c.take1 h'
      rw [List.getElem?_append_right (by simp), List.length_map] at e1
      have e1 : σ[i]? = some (some v) := by simpa using e1
      cases hO with
      | lst ha hall => exact ⟨_, _, _, e1, ha, hall⟩
    obtain ⟨p, vs, A3, e1, e2, e3⟩ := get E
    refine ⟨.ref p, e1, G, E, fun w G1 H1 x1 E1 => ?_⟩
    have hn := E1.top.int_inv
    subst hn
    obtain ⟨p', vs', A4, g1, g2, g3⟩ := get E1
    have ep : p' = p := by
      have z := g1.symm.trans e1
      injection z with z
      injection z with z
      injection z
    subst ep
    obtain ⟨pr, hpr, q⟩ := R.post_some q
    obtain ⟨r1, r2⟩ := rowAt_get hpr
    obtain ⟨u, A5, A6, A7, h1, h2, _, _⟩ := g3.at (k := pr.1) (o := oL f pr.2) (by rw [List.getElem?_map, r2]; rfl)
    cases h2 with
    | @lst a ws _ A8 ha hall =>
      have hlen : vs'.length = rows.length := by rw [g3.len, List.length_map]
      refine ⟨p', vs', k, .ref a, rfl, rfl, .inl (.inl g2), ?_, q G1 H1 x1 E1.pop _ a e1 ⟨p', vs', _, rfl, g2, h1, rfl⟩⟩
      unfold atI
      rw [hlen, r1]
      exact h1
theorem En.pushAll {K : PySem.W.Frag} {G H : Hp} {σ : L2.St} {ρ : List Slot} : ∀ {vs : List V} {ds : List D} {ex : List (V × Slot)}, En K B G H σ ρ ex → RpAll K G vs ds → ∃ ex', En K B G H σ ρ ex' ∧ ex' = vs.zip (ds.map Slot.val) ++ ex
  | _, _, ex, E, .nil => ⟨ex, E, rfl⟩
  | _, _, ex, E, .cons h r => by
    obtain ⟨ex', E', e⟩ := En.pushAll E r
    subst e
    exact ⟨_, E'.push h, rfl⟩
theorem En.topAll {K : PySem.W.Frag} {G H : Hp} {σ : L2.St} {ρ : List Slot} : ∀ {vs : List V} {ds : List D} {ex : List (V × Slot)}, vs.length = ds.length → En K B G H σ ρ (vs.zip (ds.map Slot.val) ++ ex) → RpAll K G vs ds ∧ En K B G H σ ρ ex
  | [], [], ex, _, E => ⟨.nil, E⟩
  | v :: vs, d :: ds, ex, h, E => by
    have E : En K B G H σ ρ ((v, .val d) :: (vs.zip (ds.map Slot.val) ++ ex)) := E
    obtain ⟨h1, h2⟩ := En.topAll (vs := vs) (ds := ds) (by simpa using h) E.pop
    exact ⟨.cons E.top h1, h2⟩
theorem flatX_zip : ∀ {vs : List V} {ds : List D}, FlatL ds → FlatX (vs.zip (ds.map Slot.val) ++ [])
  | [], _, _ => trivial
  | _ :: _, [], _ => trivial
  | v :: vs, d :: ds, h => by
    rw [FlatL] at h
    exact ⟨h.1, flatX_zip h.2⟩
theorem ArOk.rp {K : PySem.W.Frag} {G : Hp} {σ : L2.St} : ∀ {vs : List V} {ds : List D}, ArOk K G σ vs (ds.map Ar.val) → RpAll K G vs ds
  | [], [], _ => .nil
  | [], _ :: _, h => by cases h
  | _ :: _, [], h => by cases h
  | v :: vs, d :: ds, h => by
    cases h with
    | val h r => exact .cons h (ArOk.rp r)
/-- a method that changes a list of data in an owned tree -/
theorem je_mth (i : Nat) {ι β γ : Type} {l : Nat} {o : OT} {d : D} {name : Str} {ap : Pos} {id : String} {r : V → List V → Hp → VK → Prop} {m0 : R ι} {path : ι → List Nat} {m : ι → R β} {as : ι → β → List D} {m2 : ι → β → R γ} {ds : ι → List D} {res : ι → β → γ → D} {ds' : ι → β → γ → List D} {ρ1 ρ2 : ι → β → List Slot} {ρ' : ι × β × γ → List Slot}
    (slot : PySem.Slot "list" name id) (hty : typeOf (.builtin id) = pure (.type "method_descriptor")) (hm : MtR X id r) (ho : JL X B ρ obj i m0 path) (h : ρ[i]? = some (.own l o)) (hd : o.toD = d)
    (hsub : ∀ (φ : ι → Prop) (ψ : Exn → Prop), m0.post φ ψ → m0.post (fun j => φ j ∧ o.subL (path j) = some (.lst ((ds j).map OT.dat))) ψ)
    (ha : ∀ (B' : Base), B'.rs = B.rs → ∀ j, JA X B' (ρ.set i (.val d)) (e :: es) (m j) (fun b => (as j b).map Ar.val) (ρ1 j)) (hfl : ∀ j b, FlatL (as j b)) (hmd : ∀ j b, MtD X.K r (ds j) (as j b) (m2 j b) (res j b) (ds' j b))
    (hb : ∀ j b, Bor (ρ.set i .non) (ρ1 j b) (ρ2 j b)) (hr : ∀ j b c, o.subL (path j) = some (.lst ((ds j).map OT.dat)) → (ρ2 j b).set i (.own l (o.putL (path j) (.lst ((ds' j b c).map OT.dat)))) = ρ' (j, b, c))
    (hal : noAlis ρ = true := by rfl) (h2 : ∀ j b, (ρ2 j b)[i]? = some .non := by intro _ _; rfl) (ha2 : ∀ j b, noAlis (ρ2 j b) = true := by intro _ _; rfl) (ha3 : ∀ j b, noAlis ((ρ2 j b).set i (.own l o)) = true := by intro _ _; rfl)
    (hst : starEach (e :: es) X.env = (false, eval e X.env) :: starEach es X.env := by rfl) (hbase : attributeBase obj name X.env (eval obj X.env) = eval obj X.env := by rfl)
    (hone : ((backTo pos (starEach (e :: es) X.env)).all (fun x => !x.1) && (backToKw pos (keywordEach [] X.env)).all (fun x => x.1.isSome) && decide ((e :: es).length + ([] : List Keyword).length + (if ([] : List Keyword).isEmpty then 0 else 1) < 30)) = true := by rfl)
    (hline : (ap.endLine == pos.line) = true := by rfl) (hnil : (backTo pos (starEach es X.env)).any (·.1) = false := by rfl) :
    JE X B ρ (.Call (.Attribute obj name ap) (e :: es) [] pos) (m0.bind fun j => (m j).bind fun b => (m2 j b).bind fun c => .ok (j, b, c)) (fun p => .val (res p.1 p.2.1 p.2.2)) ρ' := by
  have ha' : PA X (e :: es) (fun σ H Q => ∃ B' j, B'.rs = B.rs ∧ tJA X.K B' (ρ.set i (.val d)) (m j) (fun b => (as j b).map Ar.val) (ρ1 j) σ H Q) := ⟨fun ps pins s σ H Q I ⟨B', j, hB, q⟩ => (ha B' hB j).run ps pins s σ H Q I q⟩
  refine PE_imp (pe_bm PySem.F.plainAttrs_list slot hty hm ho ha' hbase hone hline hst hnil) fun σ H Q ⟨G, E, q⟩ => ⟨G, E, R.post_mono (hsub _ _ (R.post_bind.mp q)) fun j ⟨q1, hs⟩ G' H' x' E' v a e1 hat => ?_⟩
  obtain ⟨v2, a2, ws, f1, f2, f3, f4, _⟩ := E'.putAt h hal hs
  have ev : v2 = v := by
    rw [e1] at f1
    injection f1 with f1
    injection f1 with f1
    exact f1.symm
  subst ev
  have ea : a2 = a := by
    have := At.fun_ f2 hat
    injection this
  subst ea
  obtain ⟨B', hB, G'', x'', E'', keepAt, back⟩ := E'.lendAt h hal
  rw [hd] at E''
  refine ⟨.inl ⟨rfl, _, .inl (.inl f3)⟩, B', j, hB, G'', E'', ?_⟩
  rw [hB]
  refine R.post_mono (R.post_bind.mp q1) fun b q2 vs G1 H1 x1 E1 ok => ?_
  have hargs := ok.rp
  obtain ⟨ex', E1', e'⟩ := E1.pushAll hargs
  subst e'
  obtain ⟨G2, x2, E2⟩ := back G1 H1 (ρ1 j b) (ρ2 j b) _ x1 E1' (hb j b) (h2 j b) (flatX_zip (hfl j b)) (ha2 j b)
  obtain ⟨hargs2, E3⟩ := En.topAll hargs.len E2
  have h3 : ((ρ2 j b).set i (.own l o))[i]? = some (.own l o) := by
    rw [List.getElem?_set_self (List.getElem?_eq_some_iff.mp (h2 j b)).1]
  obtain ⟨v3, a3, ws3, g1, g2, g3, g4, g5⟩ := E3.putAt h3 (ha3 j b) hs
  have ev : v3 = v2 := by
    rw [e1] at g1
    injection g1 with g1
    injection g1 with g1
    exact g1.symm
  subst ev
  have hat1 : At H1 v3 (path j) (.ref a2) := (keepAt v3 (path j) _ _ e1 hs hat).ex (x1.trans E1.sub)
  have ea : a3 = a2 := by
    have := At.fun_ g2 hat1
    injection this
  subst ea
  refine hmd j b G2 H1 a3 ws3 vs Q B.rs E3.sub g3 g4 hargs2 (R.post_mono (R.post_bind.mp q2) fun c q3 w ws' hw hws' => ?_)
  have E4 := g5 ws' (ds' j b c) hws'
  rw [List.set_set, hr j b c hs] at E4
  exact q3 w G2 _ (x'.trans x2) (E4.push hw)
end
end DL

/-! DL14: the methods of lists and tuples -/
namespace DL
open PySem PySem.Spec L2

/-- the first place of a thing -/
def ixOf {α : Type} [DecidableEq α] (x : α) : List α → Option Nat
  | [] => none
  | y :: ys => if y = x then some 0 else (ixOf x ys).map (· + 1)
theorem ixOf_some {α : Type} [DecidableEq α] {x : α} : ∀ {l : List α} {j : Nat}, ixOf x l = some j → l[j]? = some x ∧ ∀ m, m < j → l[m]? ≠ some x
  | y :: ys, j, h => by
    rw [ixOf] at h
    by_cases e : y = x
    · rw [if_pos e] at h
      injection h with h
      subst h
      exact ⟨by simp [e], fun m z => absurd z (Nat.not_lt_zero _)⟩
    · rw [if_neg e] at h
      obtain ⟨k, h1, h2⟩ := Option.map_eq_some_iff.mp h
      subst h2
      obtain ⟨g1, g2⟩ := ixOf_some h1
      refine ⟨by simpa using g1, fun m z => ?_⟩
      cases m with
      | zero =>
        intro q
        simp at q
        exact e q
      | succ m =>
        intro q
        exact g2 m (by omega) (by simpa using q)
theorem RpAll.eraseIdx {K : PySem.W.Frag} {G : Hp} : ∀ {vs : List V} {ds : List D} (n : Nat), RpAll K G vs ds → RpAll K G (vs.eraseIdx n) (ds.eraseIdx n)
  | _, _, _, .nil => .nil
  | _, _, 0, .cons _ r => r
  | _, _, n + 1, .cons h r => .cons h (RpAll.eraseIdx n r)
section
variable {K : PySem.W.Frag}
theorem rp2 {G : Hp} {vs : List V} {a b : D} (h : RpAll K G vs [a, b]) : ∃ v w, vs = [v, w] ∧ Rp K G v a ∧ Rp K G w b := by
  cases h with
  | cons h r =>
    cases r with
    | cons h2 r =>
      cases r
      exact ⟨_, _, rfl, h, h2⟩
theorem rp1 {G : Hp} {vs : List V} {a : D} (h : RpAll K G vs [a]) : ∃ v, vs = [v] ∧ Rp K G v a := by
  cases h with
  | cons h r =>
    cases r
    exact ⟨_, rfl, h⟩
theorem md_insert {α : Type} {f : α → D} {xs : List α} {i : Int} {y : α} : MtD K (fun x vs H Q => ∃ (l : Addr) (xs : List V) (i : Int) (y : V), x = .ref l ∧ vs = [.int i, y] ∧ H l = some (.lst xs) ∧ xs.length < sizeLine ∧ 0 ≤ i ∧ i < 2 ^ 63 ∧ Q .non (upd H l (.lst (xs.take i.toNat ++ [y] ++ xs.drop i.toNat))))
    (xs.map f) [.int i, f y] (R.guard (xs.length < sizeLine ∧ 0 ≤ i ∧ i < 2 ^ 63)) (fun _ => .none) (fun _ => (xs.take i.toNat ++ [y] ++ xs.drop i.toNat).map f) := fun G H a vs args Q rs e hH hr ha q => by
  obtain ⟨v, w, rfl, h1, h2⟩ := rp2 ha
  have h1 := h1.int_inv
  subst h1
  obtain ⟨⟨c1, c2, c3⟩, q⟩ := R.post_guard q
  refine ⟨a, vs, i, w, rfl, rfl, hH, by rw [hr.len, List.length_map]; exact c1, c2, c3, q _ _ .non ?_⟩
  rw [List.map_append, List.map_append, List.map_take, List.map_drop]
  exact ((hr.take _).append (.cons h2 .nil)).append (hr.drop _)
theorem md_append {α : Type} {f : α → D} {xs : List α} {y : α} : MtD K rAppend (xs.map f) [f y] (R.guard (xs.length < sizeLine)) (fun _ => .none) (fun _ => (xs ++ [y]).map f) := fun G H a vs args Q rs e hH hr ha q => by
  obtain ⟨w, rfl, h2⟩ := rp1 ha
  obtain ⟨c1, q⟩ := R.post_guard q
  refine ⟨a, vs, w, rfl, rfl, hH, by rw [hr.len, List.length_map]; exact c1, q _ _ .non ?_⟩
  rw [List.map_append]
  exact hr.append (.cons h2 .nil)
theorem md_removeI {xs : List Int} {k : Int} : MtD K rRemI (xs.map D.int) [.int k] (R.some (ixOf k xs)) (fun _ => .none) (fun j => (xs.eraseIdx j).map D.int) := fun G H a vs args Q rs e hH hr ha q => by
  obtain ⟨w, rfl, h2⟩ := rp1 ha
  have h2 := h2.int_inv
  subst h2
  have hv := hr.ints
  subst hv
  obtain ⟨j, hj, q⟩ := R.post_some q
  obtain ⟨g1, g2⟩ := ixOf_some hj
  exact ⟨a, xs, k, j, rfl, rfl, hH, g1, g2, q _ _ .non (RpAll.of_ints _)⟩
theorem md_extend {α : Type} {f : α → D} {xs ys : List α} : MtD K (fun x vs H Q => ∃ l b xs zs, x = .ref l ∧ vs = [.ref b] ∧ H l = some (.lst xs) ∧ SqL K H b zs ∧ xs.length + zs.length ≤ sizeLine ∧ Q .non (upd H l (.lst (xs ++ zs))))
    (xs.map f) [eL f ys] (R.guard (xs.length + ys.length ≤ sizeLine)) (fun _ => .none) (fun _ => (xs ++ ys).map f) := fun G H a vs args Q rs e hH hr ha q => by
  obtain ⟨w, rfl, h2⟩ := rp1 ha
  obtain ⟨b, zs, rfl, hS, hr2⟩ := h2.lst_inv
  obtain ⟨c1, q⟩ := R.post_guard q
  refine ⟨a, b, vs, zs, rfl, rfl, hH, .inl (e.rd hS), by rw [hr.len, hr2.len, List.length_map, List.length_map]; exact c1, q _ _ .non ?_⟩
  rw [List.map_append]
  exact hr.append hr2
theorem putL0 (o n : OT) : o.putL [] n = n := by
  rw [OT.putL]
theorem sub0 {α : Type} {f : α → D} {xs : List α} (φ : Unit → Prop) (ψ : Exn → Prop) (h : (R.ok () : R Unit).post φ ψ) : (R.ok () : R Unit).post (fun _ => φ () ∧ (oL f xs).subL [] = some (.lst ((xs.map f).map OT.dat))) ψ := ⟨h, by rw [OT.subL]⟩
theorem sub1 {α : Type} {f : α → D} {rows : List (List α)} {k : Int} (φ : Nat × List α → Prop) (ψ : Exn → Prop) (h : (R.some (rowAt rows k)).post φ ψ) : (R.some (rowAt rows k)).post (fun p => φ p ∧ (oLL f rows).subL [p.1] = some (.lst ((p.2.map f).map OT.dat))) ψ := by
  obtain ⟨p, hp, q⟩ := R.post_some h
  rw [hp]
  exact ⟨q, subL1 (rowAt_get hp).2⟩
theorem putS0 {ρ : List Slot} {i l : Nat} {o n : OT} : ρ.set i (.own l (o.putL [] n)) = ρ.set i (.own l n) := by
  rw [putL0]
theorem putS1 {α : Type} {f : α → D} {rows : List (List α)} {ρ : List Slot} {i l j : Nat} {xs : List α} {o' : OT} (h : (oLL f rows).subL [j] = some o') : ρ.set i (.own l ((oLL f rows).putL [j] (.lst ((xs.map f).map OT.dat)))) = ρ.set i (.own l (oLL f (rows.set j xs))) := by
  cases e : rows[j]? with
  | none =>
    rw [oLL, OT.subL, List.getElem?_map, e] at h
    cases h
  | some r => rw [putL1 e]
theorem toDs_LL {α : Type} {f : α → D} : ∀ rows : List (List α), OT.toDs (rows.map (oL f)) = rows.map (eL f)
  | [] => by rw [List.map_nil, List.map_nil, OT.toDs]
  | r :: rows => by rw [List.map_cons, List.map_cons, OT.toDs, toD_oL, toDs_LL rows]
theorem toD_oLL {α : Type} (f : α → D) (rows : List (List α)) : (oLL f rows).toD = eL (eL f) rows := by
  rw [oLL, OT.toD, toDs_LL]
end
/-- t.index(k) of whole numbers -/
def rTix (K : PySem.W.Frag) : V → List V → Hp → VK → Prop := fun x args H Q => ∃ (p : Addr) (ns : List Int) (k : Int) (j : Nat), x = .ref p ∧ args = [.int k] ∧ SqT K H p (ns.map V.int) ∧ ns[j]? = some k ∧ (∀ m, m < j → ns[m]? ≠ some k) ∧ Q (.int (j : Nat)) H
theorem mt_tix {X : Cx} : MtR X "tuple.index" (rTix X.K) := by
  intro pins s σ H x xs v us Q I rx rs h
  obtain ⟨p, ns, k, j, rfl, rfl, hq, hy, hno, q⟩ := h
  cases rx
  obtain ⟨u, rfl, t, rfl⟩ := vals1 rs
  obtain ⟨its, r, ⟨⟨cls, dd, dt, sl⟩, ho, hc, n, hd⟩, hz⟩ := I.tuple hq
  simp only at hc hd
  subst hc hd
  have size : its.toArray.size = ns.length := by rw [List.size_toArray, ← r.length, List.length_map]
  have hj : j < its.toArray.size := size ▸ (List.getElem?_eq_some_iff.mp hy).1
  have item : ∀ (m : Nat) (hm : m < its.toArray.size), ∃ (y : Int) (w : Tok), ns[m]? = some y ∧ its.toArray[m] = Value.int y w := fun m hm => by
    have hm' : m < ns.length := size ▸ hm
    obtain ⟨w, hw, w', e'⟩ := r.get (i := m) (x := .int ns[m]) (by simp [hm'])
    have e := (List.getElem?_eq_some_iff.mp hw).2
    exact ⟨ns[m], w', List.getElem?_eq_getElem hm', by rw [← e', ← e]; simp⟩
  have fl : (ns.map V.int).all flatV = true := by
    rw [List.all_map]
    exact List.all_eq_true.mpr fun _ _ => rfl
  refine call_meets PySem.F.slot_tuple_index ⟨_, ho, rfl⟩ PySem.F.entry_tuple_index (PySem.F.args_tuple_index_2 _ _) (TI.tuple_indexAt p its.toArray n dd sl (.int k t) (eqU (.int k)) j hj ?_ ?_)
    ⟨ho, fun w hw => mem_eqAt (x := .int k) ⟨t, rfl⟩ rfl r fl w (by simpa using hw), ⟨.int (j : Nat), H, I.tok _, ⟨_, rfl⟩, q⟩⟩
  · obtain ⟨y, w, h1, h2⟩ := item j hj
    rw [hy] at h1
    cases h1
    rw [h2]
    simp [eqU, eqV]
  · intro m hm hmj
    obtain ⟨y, w, h1, h2⟩ := item m hm
    rw [h2]
    have : y ≠ k := fun e => hno m hmj (e ▸ h1)
    simp [eqU, eqV, this]
end DL

/-! DL15: owned things set aside; lists whose items are owned lists -/
namespace DL
open PySem PySem.Spec L2
section
variable {K : PySem.W.Frag} {B B' : Base} {G G' H H' G1 G2 H1 : Hp} {σ σ1 : L2.St} {ρ ρ1 : List Slot}
def Base.aside (B : Base) (H : Hp) (A : List Addr) : Base := { B with H0 := fun a => if a ∈ A then H a else B.H0 a, Mo := fun l => (B.Mo l).filter (fun a => decide (a ∉ A)), m0 := by rw [B.m0]; rfl }
/-- an owned temp set aside -/
theorem En.aside {v : V} {o : OT} {ex : List (V × Slot)} (E : En K B G H σ ρ ((v, .own 0 o) :: ex)) : ∃ B' : Base, B'.rs = B.rs ∧ En K B' G H σ ρ ex ∧
    ∀ G1 H1 σ1 ρ1 ex1, Ex G G1 → En K B' G1 H1 σ1 ρ1 ex1 → noAlis ρ1 = true → En K B G1 H1 σ1 ρ1 ((v, .own 0 o) :: ex1) := by
  obtain ⟨A0, c, n, g⟩ := E.own
  cases c with
  | @cons _ _ A _ _ A2 c1 cr =>
    cases c1 with
    | own hO hl hp =>
      have n1 := List.nodup_append.mp n
      have hA : ∀ a ∈ A, G a = none := fun a m => g a (List.mem_append_left _ m)
      have h0 : ∀ a ∈ A, B.H0 a = none := fun a m => (hl a m).resolve_left (by rw [B.m0]; exact fun z => nomatch z)
      have hT : ∀ a ∈ A, ∃ vs, H a = some vs := hO.there
      have disj : ∀ a ∈ A2, a ∉ A := fun a m z => n1.2.2 a z a m rfl
      refine ⟨B.aside H A, rfl, ⟨⟨fun a o hm e => ?_, fun a l hm => E.anc.there a l (List.mem_filter.mp hm).1, E.anc.gsub, fun a e1 e2 => ?_, E.anc.sub⟩, ⟨A2, ?_, n1.2.1, fun a m => g a (List.mem_append_right _ m)⟩, E.len, E.ali⟩, fun G1 H1 σ1 ρ1 ex1 x E1 ha => ?_⟩
      · have e : (if a ∈ A then H a else B.H0 a) = some o := e
        by_cases ha : a ∈ A
        · rw [if_pos ha] at e
          exact e
        · rw [if_neg ha] at e
          exact E.anc.keep a o (fun l m => hm l (List.mem_filter.mpr ⟨m, decide_eq_true ha⟩)) e
      · by_cases ha : a ∈ A
        · exact hA a ha
        · have e1 : (if a ∈ A then H a else B.H0 a) ≠ none := e1
          rw [if_neg ha] at e1
          exact E.anc.gnew a e1 e2
      · refine Cells.reb (B := B) cr (fun l a m k => ?_) rfl
        have ha := disj a m
        rcases k with k | k
        · exact .inl (List.mem_filter.mpr ⟨k, decide_eq_true ha⟩)
        · refine .inr ?_
          show (if a ∈ A then H a else B.H0 a) = _
          rw [if_neg ha, k]
      · obtain ⟨A5, c5, n5, g5⟩ := E1.own
        have hH1 : ∀ a ∈ A, H1 a = H a := fun a m => by
          obtain ⟨vs, e⟩ := hT a m
          rw [e]
          refine E1.anc.keep a _ (fun l z => of_decide_eq_true (List.mem_filter.mp z).2 m) ?_
          show (if a ∈ A then H a else B.H0 a) = _
          rw [if_pos m, e]
        have hG1 : ∀ a ∈ A, G1 a = none := fun a m => E1.anc.gnew a (by
          show (if a ∈ A then H a else B.H0 a) ≠ none
          rw [if_pos m]
          obtain ⟨vs, e⟩ := hT a m
          rw [e]
          exact fun z => nomatch z) (by
          show B.G0 a = none
          exact E.anc.gsub.back (hA a m))
        have disj5 : ∀ a ∈ A5, a ∉ A := fun a m ha => by
          rcases Cells.region c5 a m with ⟨l, z⟩ | z
          · exact of_decide_eq_true (List.mem_filter.mp z).2 ha
          · have z : (if a ∈ A then H a else B.H0 a) = none := z
            rw [if_pos ha] at z
            obtain ⟨vs, e⟩ := hT a ha
            rw [e] at z
            cases z
        refine ⟨⟨fun a o hm e => ?_, fun a l hm => ?_, E1.anc.gsub, fun a e1 e2 => ?_, E1.anc.sub⟩, ⟨A ++ A5, .cons (.own (hO.ex x fun a m u e => by rw [hH1 a m, e]) hl hp) ?_, List.nodup_append.mpr ⟨n1.1, n5, fun a m b mb e => ?_⟩, fun a m => ?_⟩, E1.len, fun i j q e => absurd e (noAlis_get ha)⟩
        · have ha : a ∉ A := fun z => by
            rw [h0 a z] at e
            cases e
          refine E1.anc.keep a o (fun l m => hm l (List.mem_filter.mp m).1) ?_
          show (if a ∈ A then H a else B.H0 a) = _
          rw [if_neg ha]
          exact e
        · by_cases ha : a ∈ A
          · rw [hH1 a ha]
            obtain ⟨vs, e⟩ := hT a ha
            rw [e]
            exact fun z => nomatch z
          · exact E1.anc.there a l (List.mem_filter.mpr ⟨hm, decide_eq_true ha⟩)
        · have ha : a ∉ A := fun z => e1 (h0 a z)
          refine E1.anc.gnew a ?_ e2
          show (if a ∈ A then H a else B.H0 a) ≠ none
          rw [if_neg ha]
          exact e1
        · refine Cells.reb (B := B.aside H A) c5 (fun l a m k => ?_) rfl
          have ha := disj5 a m
          rcases k with k | k
          · exact .inl (List.mem_filter.mp k).1
          · refine .inr ?_
            have k : (if a ∈ A then H a else B.H0 a) = none := k
            rw [if_neg ha] at k
            exact k
        · subst e
          exact disj5 a mb m
        · rcases List.mem_append.mp m with m | m
          · exact hG1 a m
          · exact g5 a m
theorem OwnAll.append {A A' : List Addr} : ∀ {vs ws : List V} {os us : List OT}, OwnAll K G H vs os A → OwnAll K G H ws us A' → OwnAll K G H (vs ++ ws) (os ++ us) (A ++ A')
  | _, _, _, _, .nil, s => s
  | _, _, _, _, .cons h r, s => by
    rw [List.append_assoc]
    exact .cons h (OwnAll.append r s)
/-- an owned thing put behind an owned list's items -/
theorem En.appO {p : Addr} {os : List OT} {w : V} {u : OT} {ex : List (V × Slot)} (E : En K B G H σ ρ ((.ref p, .own 0 (.lst os)) :: (w, .own 0 u) :: ex)) (hal : noAlis ρ = true) : ∃ vs, H p = some (.lst vs) ∧ vs.length = os.length ∧ En K B G (upd H p (.lst (vs ++ [w]))) σ ρ ((.ref p, .own 0 (.lst (os ++ [u]))) :: ex) := by
  obtain ⟨A0, c, n, g⟩ := E.own
  cases c with
  | @cons _ _ A1 _ _ A2 c1 cr =>
    cases cr with
    | @cons _ _ A3 _ _ A4 c2 c3 =>
      cases c1 with
      | own hO hl hp =>
        cases c2 with
        | own hU hl2 hp2 =>
          cases hO with
          | @lst _ vs _ A5 hH hall =>
            have n1 := List.nodup_cons.mp n
            have n2 := List.nodup_append.mp n1.2
            have n3 := List.nodup_append.mp n2.2.1
            have hn : ∀ (A : List Addr), (∀ a ∈ A, a ∈ A5 ++ (A3 ++ A4)) → ∀ a ∈ A, ∀ u, H a = some u → upd H p (.lst (vs ++ [w])) a = some u := fun A s a m u e => by
              rw [upd_ne (fun z => n1.1 (by rw [← z]; exact s a m))]
              exact e
            refine ⟨vs, hH, hall.len, ⟨E.anc.put (g p (by simp)) (.inr ((hl p (by simp)).resolve_left (by rw [B.m0]; exact fun z => nomatch z))) _, ⟨(p :: (A5 ++ (A3 ++ []))) ++ A4, .cons (.own (.lst upd_same ?_) (fun a m => ?_) (.inl rfl)) (c3.ex (Ex.refl G) (hn A4 fun a m => by simp [m])), ?_, fun a m => g a ?_⟩, E.len, fun i j q e => ?_⟩⟩
            · exact OwnAll.append (hall.ex (Ex.refl G) (hn A5 fun a m => by simp [m])) (.cons (hU.ex (Ex.refl G) (hn A3 fun a m => by simp [m])) .nil)
            · rcases List.mem_cons.mp m with rfl | m
              · exact hl _ (by simp)
              · rcases List.mem_append.mp m with m | m
                · exact hl a (by simp [m])
                · exact hl2 a (by simpa using m)
            · simpa using n
            · simpa using m
            · exact absurd e (noAlis_get hal)
end
/-- a comprehension whose items are owned lists -/
theorem tlc_ofO {K : PySem.W.Frag} {B : Base} {ρ : List Slot} {α S γ δ ε β0 : Type} {m : R β0} {xs : β0 → List α} {ea : α → D} {eo : γ → OT} {ρ1 : β0 → List Slot} {vs ts : List Nat} {ρS : S → List Slot} {s0 : β0 → S} {ρB : α → S → List Slot} {c : α → S → R δ} {bn : δ → Bool} {me : α → S → R ε} {v : ε → γ} {st : ε → S}
    (hw : ∀ b, ρ1 b = ρS (s0 b)) (hpl : ∀ s, plainAt 0 vs (ρS s) = true) (hna : ∀ s, noAlis (ρS s) = true) (hts : ∀ i ∈ ts, i ∈ vs) (hplB : ∀ x s, plainAt 0 vs (ρB x s) = true) (hnaB : ∀ x s, noAlis (ρB x s) = true) (hun : ∀ x s s', unblot 0 vs (ρS s) (ρB x s') = ρS s')
    {σ : L2.St} {H : Hp} {Q : VK}
    (q : tJ K B ρ (m.bind fun b => (R.guard ((xs b).length ≤ sizeLine)).bind fun _ => compR (compF c bn me v st) (xs b) [] (s0 b)) (fun p => .own 0 (.lst (p.1.map eo))) (fun p => ρS p.2) σ H Q) :
    tLc (tJI K B ρ m (fun b => (xs b).map ea) ρ1) (fun w σ H Q => ∃ B' x s, B'.rs = B.rs ∧ tJN K B' (blot 0 vs (ρS s)) (ea x) ts (ρB x s) w σ H Q) (fun σ H Q => ∃ B' x s, B'.rs = B.rs ∧ tJT K B' (ρB x s) (c x s) bn (fun _ => ρB x s) σ H Q)
      (fun σ H Q => ∃ B' x s, B'.rs = B.rs ∧ tJ K B' (ρB x s) (me x s) (fun y => .own 0 (eo (v y))) (fun y => ρB x (st y)) σ H Q) vs σ H Q := by
  obtain ⟨G, E, q⟩ := q
  refine ⟨G, E, R.post_mono (R.post_bind.mp q) fun b q1 J G' H' xG E' Y p hp => ?_⟩
  obtain ⟨hsz, q2⟩ := R.post_guard (R.post_bind.mp q1)
  have hlen : ((xs b).map ea).length = (xs b).length := List.length_map _
  let W : Nat → Hp → Prop := fun i H1 => ∃ G1 s acc, Ex G' G1 ∧ En K B G1 H1 σ (ρS s) [(.ref p, .own 0 (.lst (acc.map eo)))] ∧ acc.length ≤ i ∧
    (compR (compF c bn me v st) ((xs b).drop i) acc s).post (fun r => ∀ w G2 H2, Ex G1 G2 → En K B G2 H2 σ (ρS r.2) [(w, .own 0 (.lst (r.1.map eo)))] → Q w H2) B.rs
  refine ⟨fun i mm H1 => mm = (xs b).length - i ∧ i ≤ (xs b).length ∧ W i H1, ⟨_, rfl, Nat.zero_le _, G', s0 b, [], Ex.refl _, ?_, Nat.le_refl _, R.post_mono q2 fun r h w G2 H2 x2 E2 => h w G2 H2 (xG.trans x2) E2⟩, ?_⟩
  · rw [hw b] at E'
    exact E'.newL (ds := []) hp .nil
  · rintro i mm H1 ⟨rfl, hi1, G1, s, acc, x1, E1, hacc, q3⟩
    by_cases hlt : i < (xs b).length
    · refine .inr ⟨Y.go i H1 (by rw [hlen]; exact hlt) (x1.trans E1.sub), fun H' => W (i + 1) H', fun H' w => ⟨_, ?_, rfl, hlt, w⟩, fun w H2 hy => ?_⟩
      · omega
      · obtain ⟨B', hB, Eh, back⟩ := E1.aside
        have hd : ((xs b).map ea)[i]? = some (ea (xs b)[i]) := by rw [List.getElem?_map, List.getElem?_eq_getElem hlt]; rfl
        obtain ⟨G2, x2, E2, r2⟩ := Y.yld _ i G1 H1 σ (ρS s) w H2 x1 Eh hy _ hd
        rw [List.drop_eq_getElem_cons hlt, compR] at q3
        generalize hx : (xs b)[i] = x at q3 r2
        have Eb : En K B' G2 H2 (wipe σ vs) (blot 0 vs (ρS s)) [] := E2.inB vs (hpl s) (hna s) (wipe_length σ vs) fun j hj => wipe_out hj
        refine ⟨B', x, s, hB, G2, Eb, r2, fun σ2 h2 l2 E3 => ?_⟩
        have l2' : σ2.length = σ.length := l2.trans (wipe_length σ vs)
        have k2 : ∀ j, j ∉ vs → σ2[j]? = σ[j]? := fun j hj => by
          rw [h2 j fun z => hj (hts j z), wipe_out hj]
        refine ⟨wipe_eq l2' k2, B', x, s, hB, G2, E3, ?_⟩
        unfold compF at q3
        have q4 := R.post_bind.mp (R.post_bind.mp q3)
        rw [hB]
        refine R.post_mono q4 fun d q5 G3 H3 x3 E3' => ?_
        cases hbn : bn d with
        | false =>
          rw [if_neg (by decide)]
          rw [hbn, if_neg (by decide)] at q5
          have Eo := E2.outB E3' x3 vs (hpl s) (hplB x s) (hna s) (hnaB x s) k2 l2'
          rw [hun x s s] at Eo
          have x13 := x2.trans x3
          have Ef := back G3 H3 σ _ [] x13 Eo (hna s)
          exact ⟨G3, s, acc, x1.trans x13, Ef, by omega, R.post_mono q5 fun r h w G4 H4 x4 E4 => h w G4 H4 (x13.trans x4) E4⟩
        | true =>
          rw [if_pos rfl]
          rw [hbn, if_pos rfl] at q5
          refine ⟨B', x, s, hB, G3, E3', ?_⟩
          rw [hB]
          refine R.post_mono (R.post_bind.mp q5) fun y q6 w2 G4 H4 x4 E4 => ?_
          obtain ⟨B2, hB2, E5, back2⟩ := E4.aside
          have Eo := E2.outB E5 (x3.trans x4) vs (hpl s) (hplB x _) (hna s) (hnaB x _) k2 l2'
          rw [hun x s (st y)] at Eo
          have x14 := x2.trans (x3.trans x4)
          have Ep := back2 G4 H4 σ _ [] (Ex.refl _) Eo (hna _)
          have Ef := back G4 H4 σ _ _ x14 Ep (hna _)
          obtain ⟨us, g1, g2, g3⟩ := Ef.appO (hna _)
          have hl : us.length = acc.length := by rw [g2, List.length_map]
          refine ⟨us, g1, by omega, G4, st y, acc ++ [v y], x1.trans x14, ?_, by rw [List.length_append]; simp; omega, R.post_mono q6 fun r h w G5 H5 x5 E5 => h w G5 H5 (x14.trans x5) E5⟩
          rw [List.map_append]
          exact g3
    · refine .inl ⟨Y.stop i H1 (by rw [hlen]; omega) (x1.trans E1.sub), ?_⟩
      rw [List.drop_eq_nil_of_le (by omega)] at q3
      exact q3 _ G1 H1 (Ex.refl _) E1
section
variable {X : Cx} {B : Base} {ρ : List Slot} {pos : Pos} {e a b tg it elt : Expr}
/-- such a comprehension, its items owned -/
theorem je_lcO {α S γ δ ε β0 : Type} {ifs : List Expr} {sc : Scope} {m : R β0} {xs : β0 → List α} {ea : α → D} {ρ1 : β0 → List Slot} (own : List (Str × Nat)) {ts : List Nat} (eo : γ → OT) (ρS : S → List Slot) (s0 : β0 → S) (ρB : α → S → List Slot) {c : α → S → R δ} {bn : δ → Bool} {me : α → S → R ε} (v : ε → γ) (st : ε → S)
    (hc : X.calm = true) (hN : X.N.Nodup) (hi : JI X B ρ tg it m (fun b => (xs b).map ea) ρ1) (ok : BlkOk X.N X.env.scope sc own) (hw : ∀ b, ρ1 b = ρS (s0 b))
    (hg : Blk X sc fun X' => ∀ B' : Base, B'.rs = B.rs → ∀ x s, JN X' B' (blot 0 (own.map (·.2)) (ρS s)) tg (ea x) ts (ρB x s))
    (ht : Blk X sc fun X' => ∀ B' : Base, B'.rs = B.rs → ∀ x s, JTs X' B' (ρB x s) ifs (c x s) bn)
    (he : Blk X sc fun X' => ∀ B' : Base, B'.rs = B.rs → ∀ x s, JE X' B' (ρB x s) elt (me x s) (fun y => .own 0 (eo (v y))) (fun y => ρB x (st y)))
    (hpl : ∀ s, plainAt 0 (own.map (·.2)) (ρS s) = true := by intro _; rfl) (hna : ∀ s, noAlis (ρS s) = true := by intro _; rfl) (hts : ∀ i ∈ ts, i ∈ own.map (·.2) := by decide) (hplB : ∀ x s, plainAt 0 (own.map (·.2)) (ρB x s) = true := by intro _ _; rfl)
    (hnaB : ∀ x s, noAlis (ρB x s) = true := by intro _ _; rfl) (hun : ∀ x s s', unblot 0 (own.map (·.2)) (ρS s) (ρB x s') = ρS s' := by intro _ _ _; rfl) (hs : ∀ x, foldedSetIterable it X.env x = pure x := by intro _; rfl) :
    JE X B ρ (.ListComp elt [⟨tg, it, ifs, 0⟩] sc pos) (m.bind fun b => (R.guard ((xs b).length ≤ sizeLine)).bind fun _ => compR (compF c bn me v st) (xs b) [] (s0 b)) (fun p => .own 0 (.lst (p.1.map eo))) (fun p => ρS p.2) := by
  refine PE_imp (pe_lc (own := own) hc hN hi ok (fun s H C cl fp => ?_) (fun s H C cl fp => ?_) (fun s H C cl fp => ?_) hs) fun σ H Q q => tlc_ofO (ts := ts) (ρB := ρB) (c := c) (bn := bn) (me := me) (v := v) (st := st) hw hpl hna hts hplB hnaB hun q
  · exact ⟨fun pins s σ H v u Q I r ⟨B', x, s', h, q⟩ => (hg _ _ _ _ _ B' h x s').run pins s σ H v u Q I r q⟩
  · exact ⟨fun pins s σ H Q I ⟨B', x, s', h, q⟩ => (ht _ _ _ _ _ B' h x s').run pins s σ H Q I q⟩
  · exact ⟨fun pins s σ H Q I ⟨B', x, s', h, q⟩ => (he _ _ _ _ _ B' h x s').run pins s σ H Q I q⟩
/-- and stored -/
theorem j1_setLcO (i : Nat) {y : Str} {py spos : Pos} {α S γ δ ε β0 : Type} {ifs : List Expr} {sc : Scope} {m : R β0} {xs : β0 → List α} {ea : α → D} {ρ1 : β0 → List Slot} (own : List (Str × Nat)) {ts : List Nat} (eo : γ → OT) (ρS : S → List Slot) (s0 : β0 → S) (ρB : α → S → List Slot) {c : α → S → R δ} {bn : δ → Bool} {me : α → S → R ε} (v : ε → γ) (st : ε → S)
    (hc : X.calm = true) (hN : X.N.Nodup) (hi : JI X B ρ tg it m (fun b => (xs b).map ea) ρ1) (ok : BlkOk X.N X.env.scope sc own) (hw : ∀ b, ρ1 b = ρS (s0 b))
    (hg : Blk X sc fun X' => ∀ B' : Base, B'.rs = B.rs → ∀ x s, JN X' B' (blot 0 (own.map (·.2)) (ρS s)) tg (ea x) ts (ρB x s))
    (ht : Blk X sc fun X' => ∀ B' : Base, B'.rs = B.rs → ∀ x s, JTs X' B' (ρB x s) ifs (c x s) bn)
    (he : Blk X sc fun X' => ∀ B' : Base, B'.rs = B.rs → ∀ x s, JE X' B' (ρB x s) elt (me x s) (fun y => .own 0 (eo (v y))) (fun y => ρB x (st y)))
    (hy : X.N[i]? = some y := by rfl) (hyl : X.env.scope.names.lookup y = some .local := by rfl) (hsw : swapsWith (.ListComp elt [⟨tg, it, ifs, 0⟩] sc pos) (some (.Name y py)) spos.line X.env = pure true := by exact sw_true rfl rfl rfl (by decide +kernel))
    (hpl : ∀ s, plainAt 0 (own.map (·.2)) (ρS s) = true := by intro _; rfl) (hna : ∀ s, noAlis (ρS s) = true := by intro _; rfl) (hts : ∀ i ∈ ts, i ∈ own.map (·.2) := by decide) (hplB : ∀ x s, plainAt 0 (own.map (·.2)) (ρB x s) = true := by intro _ _; rfl)
    (hnaB : ∀ x s, noAlis (ρB x s) = true := by intro _ _; rfl) (hun : ∀ x s s', unblot 0 (own.map (·.2)) (ρS s) (ρB x s') = ρS s' := by intro _ _ _; rfl) (hs : ∀ x, foldedSetIterable it X.env x = pure x := by intro _; rfl)
    (hlt : ∀ s, i < (ρS s).length := by intro _; exact of_decide_eq_true rfl) (hal : ∀ s, noAli i (ρS s) = true := by intro _; rfl) :
    J1 X B ρ (.Assign [.Name y py] (.ListComp elt [⟨tg, it, ifs, 0⟩] sc pos) spos) (m.bind fun b => (R.guard ((xs b).length ≤ sizeLine)).bind fun _ => compR (compF c bn me v st) (xs b) [] (s0 b)) (fun p => (ρS p.2).set i (.own 0 (.lst (p.1.map eo)))) := by
  have h1 := ps_setLc (X := X) (i := i) (own := own) (spos := spos) (py := py) (y := y) (elt := elt) (pos := pos) (g := fun w σ H Q => ∃ B' x s, B'.rs = B.rs ∧ tJN X.K B' (blot 0 (own.map (·.2)) (ρS s)) (ea x) ts (ρB x s) w σ H Q) (tt := fun σ H Q => ∃ B' x s, B'.rs = B.rs ∧ tJT X.K B' (ρB x s) (c x s) bn (fun _ => ρB x s) σ H Q)
    (te := fun σ H Q => ∃ B' x s, B'.rs = B.rs ∧ tJ X.K B' (ρB x s) (me x s) (fun y => .own 0 (eo (v y))) (fun y => ρB x (st y)) σ H Q) hc hN hy hyl hsw hi ok
    (fun s H C cl fp => ⟨fun pins s σ H v u Q I r ⟨B', x, s', h, q⟩ => (hg _ _ _ _ _ B' h x s').run pins s σ H v u Q I r q⟩)
    (fun s H C cl fp => ⟨fun pins s σ H Q I ⟨B', x, s', h, q⟩ => (ht _ _ _ _ _ B' h x s').run pins s σ H Q I q⟩)
    (fun s H C cl fp => ⟨fun pins s σ H Q I ⟨B', x, s', h, q⟩ => (he _ _ _ _ _ B' h x s').run pins s σ H Q I q⟩) hs
  refine PS_imp h1 fun D σ H ⟨G, E, q⟩ => ?_
  show tLc _ _ _ _ _ σ H (fun x H1 => D.nx (σ.set i (some x)) H1)
  refine tlc_ofO (ts := ts) (ρB := ρB) (c := c) (bn := bn) (me := me) (v := v) (st := st) (eo := eo) (ρS := ρS) (s0 := s0) hw hpl hna hts hplB hnaB hun ⟨G, E, R.post_mono q fun p q1 w G' H' x E' => q1 _ G' H' x (E'.set (hlt _) (fun _ _ z => nomatch z) (hal _))⟩
end
section
variable {K : PySem.W.Frag} {B B' : Base} {G G' H H' G1 G2 H1 : Hp} {σ σ1 : L2.St} {ρ ρ1 : List Slot}
/-- an owned thing put behind the items of a slot's list -/
theorem En.appS {i l : Nat} {os : List OT} {w : V} {u : OT} (E : En K B G H σ ρ [(w, .own 0 u)]) (h : ρ[i]? = some (.own l (.lst os))) (hal : noAlis ρ = true) : ∃ p vs, σ[i]? = some (some (.ref p)) ∧ H p = some (.lst vs) ∧ vs.length = os.length ∧ En K B G (upd H p (.lst (vs ++ [w]))) σ (ρ.set i (.own l (.lst (os ++ [u])))) [] := by
  obtain ⟨A0, c, n, g⟩ := E.own
  cases c with
  | @cons _ _ A1 _ _ A2 c1 cr =>
    cases c1 with
    | own hU hl2 hp2 =>
      obtain ⟨v, A, A3, e1, hO, ⟨hl, hp⟩, c2, pm⟩ := Cells.take1 (show Cells K B G H σ ρ A2 from cr) h
      cases hO with
      | @lst p vs _ A5 hH hall =>
        have n1 := List.nodup_append.mp n
        have n2 := List.nodup_append.mp (pm.nodup_iff.mp n1.2.1)
        have np : ∀ a, a ∈ A1 → a ≠ p := fun a m z => n1.2.2 a m p (pm.mem_iff.mpr (by simp)) z
        have np5 : ∀ a, a ∈ A5 → a ≠ p := fun a m z => (List.nodup_cons.mp n2.1).1 (by rw [← z]; exact m)
        have np3 : ∀ a, a ∈ A3 → a ≠ p := fun a m z => n2.2.2 p (by simp) a m z.symm
        have hG : G p = none := g p (List.mem_append_right _ (pm.mem_iff.mpr (by simp)))
        have c3 : Cells K B G (upd H p (.lst (vs ++ [w]))) σ (ρ.set i .non) A3 := c2.ex (Ex.refl G) fun a m u e => by
          rw [upd_ne (np3 a m)]
          exact e
        have hO2 : Own K G (upd H p (.lst (vs ++ [w]))) (.ref p) (.lst (os ++ [u])) (p :: (A5 ++ (A1 ++ []))) := .lst upd_same (OwnAll.append (hall.ex (Ex.refl G) fun a m u e => by
          rw [upd_ne (np5 a m)]
          exact e) (.cons (hU.ex (Ex.refl G) fun a m u e => by
          rw [upd_ne (np a m)]
          exact e) .nil))
        have hi : i < ρ.length := (List.getElem?_eq_some_iff.mp h).1
        obtain ⟨A8, c8, p8⟩ := c3.put1 (i := i) (l := l) (o := .lst (os ++ [u])) (v := .ref p) (A1 := p :: (A5 ++ (A1 ++ []))) (by rw [List.getElem?_set_self hi]) e1 hO2 ⟨fun a m => by
          rcases List.mem_cons.mp m with rfl | m
          · exact hl _ (by simp)
          · rcases List.mem_append.mp m with m | m
            · exact hl a (by simp [m])
            · exact .inr ((hl2 a (by simpa using m)).resolve_left (by rw [B.m0]; exact fun z => nomatch z)), hp⟩
        rw [List.set_set] at c8
        have perm : (p :: (A5 ++ (A1 ++ [])) ++ A3).Perm (A1 ++ A2) := by
          have q1 : (A1 ++ A2).Perm (A1 ++ ((p :: A5) ++ A3)) := pm.append_left A1
          have q2 : (A1 ++ ((p :: A5) ++ A3)).Perm (p :: (A5 ++ (A1 ++ [])) ++ A3) := by
            rw [← List.append_assoc]
            refine List.Perm.append_right A3 ?_
            rw [List.append_nil]
            exact List.perm_append_comm (l₁ := A1) (l₂ := p :: A5)
          exact (q1.trans q2).symm
        refine ⟨p, vs, e1, hH, hall.len, ⟨E.anc.put hG ((hl p (by simp)).elim (fun z => .inl ⟨l, z⟩) .inr) _, ⟨A8, c8, p8.nodup_iff.mpr (perm.nodup_iff.mpr n), fun a m => g a (perm.mem_iff.mp (p8.mem_iff.mp m))⟩, by rw [List.length_set]; exact E.len, fun k j q e => ?_⟩⟩
        by_cases hk : i = k
        · subst hk
          rw [List.getElem?_set_self hi] at e
          cases e
        · rw [List.getElem?_set_ne hk] at e
          exact absurd e (noAlis_get hal)
end
section
variable {X : Cx} {B : Base} {ρ : List Slot} {pos : Pos} {e : Expr} {es : List Expr}
/-- xs.append(an owned thing) -/
theorem je_appO (i : Nat) {x : Str} {px ap : Pos} {l l0 : Nat} {os0 : List OT} {β : Type} (os : β → List OT) {m : R β} {y : β → OT} {ρ' : β → List Slot} (he : JE X B ρ e m (fun b => .own 0 (y b)) ρ') (h : ∀ b, (ρ' b)[i]? = some (.own l (.lst (os b))) := by intro _; rfl) (hal : ∀ b, noAlis (ρ' b) = true := by intro _; rfl)
    (h0 : ρ[i]? = some (.own l0 (.lst os0)) := by rfl) (hN : X.N[i]? = some x := by rfl) (hv : Vis X.env.scope x := by first | exact Or.inl rfl | exact Or.inr (Or.inl rfl) | exact Or.inr (Or.inr rfl))
    (hd : (x == ("__debug__" : Str)) = false := by decide) (hcd : (x == ("__classdict__" : Str)) = false := by decide) (hst : starEach [e] X.env = (false, eval e X.env) :: starEach [] X.env := by rfl)
    (hbase : attributeBase (.Name x px) "append" X.env (eval (.Name x px) X.env) = eval (.Name x px) X.env := by rfl)
    (hone : ((backTo pos (starEach [e] X.env)).all (fun x => !x.1) && (backToKw pos (keywordEach [] X.env)).all (fun x => x.1.isSome) && decide ([e].length + ([] : List Keyword).length + (if ([] : List Keyword).isEmpty then 0 else 1) < 30)) = true := by rfl)
    (hline : (ap.endLine == pos.line) = true := by rfl) (hnil : (backTo pos (starEach [] X.env)).any (·.1) = false := by rfl) :
    JE X B ρ (.Call (.Attribute (.Name x px) "append" ap) [e] [] pos) (m.bind fun b => (R.guard ((os b).length < sizeLine)).bind fun _ => .ok b) (fun _ => .val .none) (fun b => (ρ' b).set i (.own l (.lst (os b ++ [y b])))) :=
  PE_imp (pe_bm PySem.F.plainAttrs_list PySem.F.slot_list_append PySem.F.type_list_append mt_append (pv (X := X) (pos := px) i hN hv hd hcd) (pa_cons he pa_nil hst) hbase hone hline hst hnil) fun σ H Q ⟨G, E, q⟩ => by
    obtain ⟨A, c, n, g⟩ := E.own
    obtain ⟨w, A1, A2, e1, hO, hl, c2, pm⟩ := Cells.take1 (show Cells X.K B G H σ ρ A from c) h0
    cases hO with
    | @lst a vs _ A3 ha hall =>
      refine ⟨.ref a, e1, .inl ⟨rfl, _, .inl (.inl ha)⟩, G, E, R.post_mono (R.post_bind.mp q) (fun b hb => ?_)⟩
      intro v G1 H1 x1 E1
      obtain ⟨p, vs1, g1, g2, g3, g4⟩ := E1.appS (h b) (hal b)
      have ep : p = a := by
        have z := g1.symm.trans e1
        injection z with z
        injection z with z
        injection z
      subst ep
      obtain ⟨hz, q⟩ := R.post_guard (R.post_bind.mp hb)
      exact ⟨p, vs1, v, rfl, rfl, g2, by omega, q _ G1 _ x1 (g4.push .non)⟩
/-- items that are owned things -/
def tJAo (K : PySem.W.Frag) (B : Base) (ρ : List Slot) {β : Type} (m : R β) (os : β → List OT) (ρ' : β → List Slot) : TA := fun σ H Q =>
  ∃ G, En K B G H σ ρ [] ∧ m.post (fun b => ∀ vs G' H', Ex G G' → vs.length = (os b).length → En K B G' H' σ (ρ' b) (vs.zip ((os b).map (Slot.own 0))) → Q vs H') B.rs
def JAo (X : Cx) (B : Base) (ρ : List Slot) (es : List Expr) {β : Type} (m : R β) (os : β → List OT) (ρ' : β → List Slot) : Prop := PA X es (tJAo X.K B ρ m os ρ')
theorem jao_nil : JAo X B ρ [] (.ok ()) (fun _ => []) (fun _ => ρ) := PA_imp pa_nil fun σ H Q ⟨G, E, q⟩ => q [] G H (Ex.refl G) rfl E
theorem jao_cons {α β : Type} {ma : R α} {xo : α → OT} {ρa : α → List Slot} {mb : α → R β} {os : α → β → List OT} {ρ' : α → β → List Slot} (h : JE X B ρ e ma (fun x => .own 0 (xo x)) ρa) (t : ∀ B' : Base, B'.rs = B.rs → ∀ x, JAo X B' (ρa x) es (mb x) (os x) (ρ' x)) (ha : ∀ x y, noAlis (ρ' x y) = true := by intro _ _; rfl)
    (hst : starEach (e :: es) X.env = (false, eval e X.env) :: starEach es X.env := by rfl) : JAo X B ρ (e :: es) (ma.bind fun x => (mb x).bind fun y => .ok (x, y)) (fun p => xo p.1 :: os p.1 p.2) (fun p => ρ' p.1 p.2) := by
  have t' : PA X es (fun σ H Q => ∃ B' x, B'.rs = B.rs ∧ tJAo X.K B' (ρa x) (mb x) (os x) (ρ' x) σ H Q) := ⟨fun ps pins s σ H Q I ⟨B', x, hB, q⟩ => (t B' hB x).run ps pins s σ H Q I q⟩
  exact PA_imp (pa_cons h t' hst) fun σ H Q ⟨G, E, q⟩ => ⟨G, E, R.post_mono (R.post_bind.mp q) fun x k v G1 H1 x1 E1 => by
    obtain ⟨B', hB, E2, back⟩ := E1.aside
    refine ⟨B', x, hB, G1, E2, ?_⟩
    rw [hB]
    exact R.post_mono (R.post_bind.mp k) fun y k vs G2 H2 x2 hl E3 => k (v :: vs) G2 H2 (x1.trans x2) (by simpa using hl) (back G2 H2 σ _ _ x2 E3 (ha x y))⟩
theorem cells_zip {K : PySem.W.Frag} {G H : Hp} {σ : L2.St} {ρ : List Slot} : ∀ {vs : List V} {os : List OT} {A : List Addr}, vs.length = os.length → Cells K B G H ((vs.zip (os.map (Slot.own 0))).map (fun p => some p.1) ++ σ) ((vs.zip (os.map (Slot.own 0))).map (·.2) ++ ρ) A →
    ∃ A1 A2, OwnAll K G H vs os A1 ∧ Cells K B G H σ ρ A2 ∧ A = A1 ++ A2 ∧ ∀ a ∈ A1, B.H0 a = none
  | [], [], A, _, c => ⟨[], A, .nil, c, rfl, fun _ m => nomatch m⟩
  | v :: vs, o :: os, _, h, .cons c r => by
    obtain ⟨A1, A2, h1, h2, h3, h4⟩ := cells_zip (vs := vs) (os := os) (by simpa using h) r
    cases c with
    | own hO hl hp =>
      subst h3
      refine ⟨_ ++ A1, A2, .cons hO h1, h2, by rw [List.append_assoc], fun a m => ?_⟩
      rcases List.mem_append.mp m with m | m
      · exact (hl a m).resolve_left (by rw [B.m0]; exact fun z => nomatch z)
      · exact h4 a m
theorem En.newO {K : PySem.W.Frag} {G H : Hp} {σ : L2.St} {ρ : List Slot} {vs : List V} {os : List OT} (hl : vs.length = os.length) (E : En K B G H σ ρ (vs.zip (os.map (Slot.own 0)))) {p : Addr} (hp : H p = none) (hal : noAlis ρ = true) : En K B G (upd H p (.lst vs)) σ ρ [(.ref p, .own 0 (.lst os))] := by
  obtain ⟨A, c, n, g⟩ := E.own
  obtain ⟨A1, A2, h1, h2, h3, h4⟩ := cells_zip hl c
  subst h3
  have hn : ∀ a u, H a = some u → upd H p (.lst vs) a = some u := fun a u e => by
    rw [upd_ne (ne_of_none e hp)]
    exact e
  have hpA : p ∉ A1 ++ A2 := fun m => by
    obtain ⟨u, e⟩ := c.there p m
    rw [hp] at e
    cases e
  have h0 := E.fresh hp
  refine ⟨E.anc.put (E.sub.back hp) (.inr h0) _, ⟨(p :: A1) ++ A2, .cons (.own (.lst upd_same (h1.ex (Ex.refl G) fun a _ u e => hn a u e)) (fun a m => ?_) (.inl rfl)) (h2.ex (Ex.refl G) fun a _ u e => hn a u e), List.nodup_cons.mpr ⟨hpA, n⟩, fun a m => ?_⟩, E.len, fun i j q e => absurd e (noAlis_get hal)⟩
  · rcases List.mem_cons.mp m with rfl | m
    · exact .inr h0
    · exact .inr (h4 a m)
  · rcases List.mem_cons.mp m with rfl | m
    · exact E.sub.back hp
    · exact g a m
/-- a list of owned things -/
theorem je_lstO {β : Type} {m : R β} {os : β → List OT} {ρ' : β → List Slot} (h : JAo X B ρ es m os ρ') (hl : ∀ b, (os b).length ≤ 1000 := by intro _; exact of_decide_eq_true rfl) (ha : ∀ b, noAlis (ρ' b) = true := by intro _; rfl) : JE X B ρ (.List es pos) m (fun b => .own 0 (.lst (os b))) ρ' :=
  PE_imp (pe_lst h) fun σ H Q ⟨G, E, q⟩ => ⟨G, E, R.post_mono q fun b k vs G1 H1 x1 hlen E1 => by
    refine ⟨?_, fun p hp => k _ G1 _ x1 (E1.newO hlen hp (ha b))⟩
    rw [hlen]
    exact Nat.le_of_lt (small1000 (hl b))⟩
end
end DL

/-! DL16: more that is walked -/
namespace DL
open PySem PySem.Spec L2
def enumL {α : Type} (xs : List α) : List (Int × α) := xs.zipIdx.map fun p => ((p.2 : Int), p.1)
theorem enumL_len {α : Type} (xs : List α) : (enumL xs).length = xs.length := by
  rw [enumL, List.length_map, List.length_zipIdx]
theorem enumL_get {α : Type} {xs : List α} {i : Nat} : (enumL xs)[i]? = (xs[i]?).map fun x => ((i : Int), x) := by
  rw [enumL, List.getElem?_map, List.getElem?_zipIdx]
  cases xs[i]? with
  | none => rfl
  | some x => simp
section
variable {X : Cx} {B : Base} {ρ : List Slot} {pos : Pos} {e tg it : Expr}
theorem ji_enum {α β : Type} {m : R β} {xs : β → List α} {f : α → D} {ρ' : β → List Slot} {p tpos : Pos} {elts : List Expr} {kk : Nat} (hg : Gl X "enumerate") (hm : X.mg "enumerate" = none) (h : JE X B ρ e m (fun b => .val (eL f (xs b))) ρ') (hst : starEach [e] X.env = (false, eval e X.env) :: starEach [] X.env := by rfl) (hs : starEach [e] X.env = [(false, eval e X.env)] := by rfl) :
    JI X B ρ (.Tuple elts kk tpos) (.Call (.Name "enumerate" p) [e] [] pos) m (fun b => (enumL (xs b)).map (eP2 D.int f)) ρ' :=
  PI_imp (pi_enum hg hm (pa_cons h pa_nil hst) hs) fun σ H Q ⟨G, E, q⟩ => ⟨G, E, R.post_mono q fun b q1 v G' H' x E' => by
    obtain ⟨a, vs, rfl, hS, hr⟩ := E'.top.lst_inv
    have hS' : SqL X.K G' a vs := .inl hS
    have hl : vs.length = (xs b).length := by rw [hr.len, List.length_map]
    have hl2 : ((enumL (xs b)).map (eP2 D.int f)).length = vs.length := by rw [List.length_map, enumL_len, hl]
    refine ⟨a, vs, rfl, E'.sub.l hS', q1 _ G' H' x E'.pop ⟨fun i H hi e => ⟨vs, vs[i]'(by rw [← hl2]; exact hi), e.l hS', List.getElem?_eq_getElem _⟩, fun i H hi e => ⟨vs, e.l hS', by rw [← hl2]; exact hi⟩, fun B i G1 H1 σ ρ w H' e E hy d hd => ?_⟩⟩
    obtain ⟨T, y, rfl, hT, rfl, hy⟩ := hy
    have hyi := hy vs ((e.trans E.sub).l hS')
    obtain ⟨d2, h1, h2⟩ := hr.getV hyi
    rw [List.getElem?_map, enumL_get] at hd
    rw [List.getElem?_map] at h1
    cases hx : (xs b)[i]? with
    | none =>
      rw [hx] at h1
      cases h1
    | some z =>
      rw [hx] at h1 hd
      injection h1 with h1
      injection hd with hd
      subst h1
      subst hd
      have e1 := Ex.new (o := HO.tup [.int (i : Nat), y]) (E.sub.back hT)
      exact ⟨_, e1, E.new hT _, .tup (.inl (.inl upd_same)) (.cons (.int _) (.cons (h2.ex (e.trans e1)) .nil))⟩⟩
end
end DL

/-! DL17: enumerate of a tuple -/
namespace DL
open PySem PySem.Spec L2
open Sem (wp)
section
variable {prog : Program} {w : World} {A : Around} {E : Value → Shared → Prop} {s : Shared}
theorem nextOf_tup_item {it t : Addr} {i : Nat} {items : Array Value} {x : Value} {Q : Value → Shared → Prop} (ti : s.heap.IsTupleIter it t i) (tt : s.heap.IsTuple t items) (tx : items[i]? = some x)
    (k : ∀ h', h'.IsTupleIter it t (i + 1) → Heap.SameBut it s.heap h' → Q x { s with heap := h' }) : wpAny (model prog w) A (Builtin.SmallTypes.nextOf (.ref it)) Q E s := by
  obtain ⟨o, go, gc, gd⟩ := id ti
  obtain ⟨ol, gl, _, nl, gdl⟩ := tt
  unfold Builtin.SmallTypes.nextOf
  refine wpAny_bind (wpAny_callSpecial?_slot (name := Str.ofString "__next__") ti.typeIs F.slot_tuple_iterator_next (wpAny_call_entry F.slot_tuple_iterator_next ti.typeIs F.entry_tuple_iterator_next ?_ (F.args_tuple_iterator_next_1 _)))
  show wpAny _ _ (field (.ref it) 0 >>= _) _ _ _
  refine wpAny_bind (wpAny_field go gd (x := .ref t) rfl ?_)
  show wpAny _ _ (if (Value.ref t == Value.none) = true then _ else _) _ E _
  rw [if_neg (show ¬ ((Value.ref t == Value.none) = true) by exact Bool.false_ne_true)]
  show wpAny _ _ (field (.ref it) 1 >>= _) _ _ _
  refine wpAny_bind (wpAny_field go gd (x := .int i 0) rfl ?_)
  show wpAny _ _ (seqItems? (.ref t) >>= _) _ E _
  refine wpAny_bind (wpAny_seqItems gl gdl ?_)
  simp only [Int.toNat_natCast, tx]
  refine wpAny_bind (wpAny_setField go gd (by simp) (wpAny_pure ⟨x, rfl, wpAny_pure (k _ ?_ (Heap.SameBut.update ..))⟩))
  exact ⟨_, Heap.get?_update_self _ go (Obj.isFreed_of_fields (Obj.data_mapFields gd _)), (Obj.cls_mapFields ..).trans gc, by rw [Obj.data_mapFields gd]; simp [rawInt]⟩
theorem nextOf_tup_end {it t : Addr} {i : Nat} {items : Array Value} {Q : Value → Shared → Prop} (hh : A.handled = none) (ti : s.heap.IsTupleIter it t i) (tt : s.heap.IsTuple t items) (tx : items[i]? = none)
    (k : ∀ h' e, Heap.ExtBut it s.heap h' → (∃ o, h'.get? e = some o ∧ o.cls = .type "StopIteration") → E (.ref e) { s with heap := h' }) : wpAny (model prog w) A (Builtin.SmallTypes.nextOf (.ref it)) Q E s := by
  obtain ⟨o, go, gc, gd⟩ := id ti
  obtain ⟨ol, gl, _, nl, gdl⟩ := tt
  unfold Builtin.SmallTypes.nextOf
  refine wpAny_bind (wpAny_callSpecial?_slot (name := Str.ofString "__next__") ti.typeIs F.slot_tuple_iterator_next (wpAny_call_entry F.slot_tuple_iterator_next ti.typeIs F.entry_tuple_iterator_next ?_ (F.args_tuple_iterator_next_1 _)))
  show wpAny _ _ (field (.ref it) 0 >>= _) _ _ _
  refine wpAny_bind (wpAny_field go gd (x := .ref t) rfl ?_)
  show wpAny _ _ (if (Value.ref t == Value.none) = true then _ else _) _ E _
  rw [if_neg (show ¬ ((Value.ref t == Value.none) = true) by exact Bool.false_ne_true)]
  show wpAny _ _ (field (.ref it) 1 >>= _) _ _ _
  refine wpAny_bind (wpAny_field go gd (x := .int i 0) rfl ?_)
  show wpAny _ _ (seqItems? (.ref t) >>= _) _ E _
  refine wpAny_bind (wpAny_seqItems gl gdl ?_)
  simp only [Int.toNat_natCast, tx]
  refine wpAny_bind (wpAny_rule (wpAny_bind (wpAny_setField go gd (by simp) ?_)))
  show wpAny _ _ (newExc (.type "StopIteration") [] >>= _) _ E _
  refine wpAny_bind ?_
  simp only [newExc, newTuple]
  refine wpAny_bind (wpAny_newObj_type ?_ (by size_fits))
  refine wpAny_bind (m := firstArgMember _ _) (wpAny_of_eq (a := Value.none) (by first | exact rfl | (simp only [firstArgMember]; rfl)) ?_)
  refine wpAny_newObj_type ?_ (by size_fits)
  simp only [raiseNew]
  refine wpAny_bind (wpAny_handled ?_)
  first | rw [show A.in1.handled = none by exact hh] | rw [hh]
  refine wpAny_bind (wpAny_pure (wpAny_throw ?_))
  exact k _ _ (((Heap.SameBut.update ..).extBut.push _).push _) ⟨_, by exact Heap.get?_push_size _ rfl, rfl⟩
end
theorem drawsT {prog : Program} {w : World} {A : Around} (hh : A.handled = none) (it t : Addr) (hne : t ≠ it) (items : Array Value) :
    Draws prog w A it [it, t] items.size (fun i v => items[i]? = some v) (fun i h => h.IsTupleIter it t i ∧ h.IsTuple t items) where
  live := fun _ _ st => let ⟨o, go, _⟩ := st.1; ⟨o, go⟩
  frame := fun _ _ _ st hk => ⟨let ⟨o, go, r⟩ := st.1; ⟨o, hk it (by simp) o go, r⟩, let ⟨o, go, r⟩ := st.2; ⟨o, hk t (by simp) o go, r⟩⟩
  item := fun i s Q E hi st hQ => nextOf_tup_item st.1 st.2 (x := items[i]) (by simp [hi]) fun h' ti hs => hQ _ h' s.toks (by simp [hi]) ⟨ti, st.2.extBut hs.extBut hne⟩ hs
  done := fun s Q E st hE => nextOf_tup_end hh st.1 st.2 (by simp) hE
theorem meets_enumT (l : Addr) (items : Array Value) (n : Nat) (dct : Option Addr) (sl : Array (Option Value)) : Meets (Builtin.«enumerate.__new__» ⟨[.type "enumerate", .ref l], []⟩)
    (fun _ R s => s.heap.get? l = some { cls := .type "tuple", dict := dct, data := .seq items n, slots := sl } ∧
      R (.ok (.ret (.ref (s.heap.push { cls := .type "tuple_iterator", data := .fields #[.ref l, .int 0 0] }).objs.size))) { s with heap := (s.heap.push { cls := .type "tuple_iterator", data := .fields #[.ref l, .int 0 0] }).push { cls := .type "enumerate", data := .fields #[.none, .bool false, .ref s.heap.objs.size, rawInt 0, .none, .none] } }) :=
  .of_wp fun prog w A R s h => by
    obtain ⟨hp, g, d, tk, os⟩ := s
    obtain ⟨gl, h⟩ := h
    have subE := sub_enumerate
    have tup : Heap.IsTuple (Shared.heap ⟨hp, g, d, tk, os⟩) l items := ⟨_, gl, rfl, n, rfl⟩
    wp_walk using AutoSeq1.wpAny_loadPart' gl
    refine wpAny_stack_any fun st => wpAny_pure ?_
    split
    · rename_i c _ _ _ _ _
      cases (c == Value.type "enumerate")
      · wp_walk using AutoSeq1.wpAny_loadPart' gl, wpAny_pyIter_tuple tup
        exact ⟨_, rfl, h⟩
      · wp_walk using AutoSeq1.wpAny_loadPart' gl, wpAny_pyIter_tuple tup
        exact ⟨_, rfl, h⟩
    · wp_walk using AutoSeq1.wpAny_loadPart' gl, wpAny_pyIter_tuple tup
      exact ⟨_, rfl, h⟩
section
variable {prog : Program} {w : World} {A : Around} {E : Value → Shared → Prop} {s : Shared}
theorem call_enumT {l : Addr} {items : Array Value} {Q : Value → Shared → Prop} (tt : s.heap.IsTuple l items)
    (k : ∀ h', IsEnum h' (s.heap.objs.size + 1) s.heap.objs.size 0 .none → h'.IsTupleIter s.heap.objs.size l 0 → (∀ b o, s.heap.get? b = some o → h'.get? b = some o) → Q (.ref (s.heap.objs.size + 1)) { s with heap := h' }) :
    wpAny (model prog w) A (call (.type "enumerate") [.ref l]) Q E s := by
  obtain ⟨⟨c, dct, dt, sl⟩, gl, gc, n, gd⟩ := tt
  replace gc : c = .type "tuple" := gc
  replace gd : dt = .seq items n := gd
  subst gc gd
  refine callType_new F.called_enumerate (by decide) (F.typeCall_enumerate_1 _) (F.newCall_enumerate_1 _) (fun obj => F.args_object_init_2 obj _) F.entry_enumerate_new (meets_enumT l items n dct sl) ⟨gl, ?_⟩
  have sz : (s.heap.push { cls := .type "tuple_iterator", data := .fields #[.ref l, .int 0 0] }).objs.size = s.heap.objs.size + 1 := Heap.size_push ..
  show _ ∧ _
  rw [sz]
  have ge : IsEnum ((s.heap.push { cls := .type "tuple_iterator", data := .fields #[.ref l, .int 0 0] }).push { cls := .type "enumerate", data := .fields #[.none, .bool false, .ref s.heap.objs.size, rawInt 0, .none, .none] }) (s.heap.objs.size + 1) s.heap.objs.size 0 .none := by
    have q := Heap.get?_push_size (s.heap.push { cls := .type "tuple_iterator", data := .fields #[.ref l, .int 0 0] }) (o := { cls := .type "enumerate", data := .fields #[.none, .bool false, .ref s.heap.objs.size, rawInt 0, .none, .none] }) rfl
    rw [sz] at q
    exact q
  exact ⟨⟨_, ge, rfl⟩, k _ ge ⟨_, Heap.get?_push_of_some _ (Heap.get?_push_size _ rfl), rfl, rfl⟩ fun b o x => Heap.get?_push_of_some _ (Heap.get?_push_of_some _ x)⟩
end
/-- a tuple's items in new pairs -/
def IteT (K : PySem.W.Frag) (a : Addr) (n : Nat) : It :=
  ⟨fun i H => ∃ (xs : List V) (x : V), SqT K H a xs ∧ xs.length = n ∧ xs[i]? = some x, fun i H v H' => ∃ T x, v = .ref T ∧ H T = none ∧ H' = upd H T (.tup [.int (i : Nat), x]) ∧ ∀ xs, SqT K H a xs → xs[i]? = some x, fun i H => ∃ xs : List V, SqT K H a xs ∧ xs.length = n ∧ n ≤ i⟩
theorem turn_enumT {P : Program} {w : World} {K : PySem.W.Frag} {elts : List Expr} {kk : Nat} {tpos : Pos} (a e it : Addr) (n : Nat) :
    Turn P w K (.Tuple elts kk tpos) (IteT K a n) [e, it] e (fun i h => (∃ old, IsEnum h e it ((i : Nat) : Int) old) ∧ h.IsTupleIter it a i ∧ e ≠ it ∧ i ≤ n) where
  mem := by simp
  obj := fun i h st b hb => by
    obtain ⟨⟨old, ge⟩, ⟨o, go, gc, gd⟩, _⟩ := st
    rcases (show b = e ∨ b = it by simpa using hb) with z | z
    · subst z
      exact ⟨_, ge, fun v q => nomatch q⟩
    · subst z
      exact ⟨o, go, fun v q => by
        rw [gd] at q
        cases q⟩
  keep := fun i h h' st k => by
    obtain ⟨⟨old, ge⟩, ⟨o, go, gr⟩, hne, hi⟩ := st
    exact ⟨⟨old, k e (by simp) _ ge⟩, ⟨o, k it (by simp) o go, gr⟩, hne, hi⟩
  item := by
    intro X hP hw hK hc i pins s σ H E I hf st hg
    subst hP hw hK
    obtain ⟨⟨old, ge⟩, ti, hne, _⟩ := st
    obtain ⟨xs, x, hq, hn, hx⟩ := hg
    obtain ⟨its, rv, tt, _⟩ := I.tuple hq
    have tt : s.heap.IsTuple a its.toArray := tt
    obtain ⟨u, hu, ru⟩ := rv.get hx
    have hel : e < s.heap.objs.size := Heap.lt_size ge
    have hil : it < s.heap.objs.size := by
      obtain ⟨_, q, _⟩ := ti
      exact Heap.lt_size q
    have ait : a ≠ it := fun z => by
      obtain ⟨o, go, gc, _⟩ := tt
      obtain ⟨o2, go2, gc2, _⟩ := ti
      subst z
      rw [go] at go2
      injection go2 with go2
      subst go2
      rw [gc] at gc2
      injection gc2 with q
      exact absurd q (by decide)
    have ae : e ≠ a := fun z => by
      obtain ⟨o, go, gc, _⟩ := tt
      subst z
      rw [show s.heap.get? e = _ from ge] at go
      injection go with go
      subst go
      injection gc with q
      exact absurd q (by decide)
    have hlen : xs.length = its.length := rv.length
    have hi : i < its.toArray.size := by
      have := (List.getElem?_eq_some_iff.mp hx).1
      simpa [← hlen] using this
    refine wpAny_pyNext_enum_itemD (drawsT (A := X.A.in1) (by exact I.ok.hd hc) it a ait its.toArray) ge ⟨ti, tt⟩ hi hne (by simp [hne, ae]) fun y h' tk hy ho hst' hT hsz hk => ?_
    have ey : y = u := by
      have h1 : its.toArray[i]? = some y := hy
      have h2 : its[i]? = some y := by simpa using h1
      rw [hu] at h2
      injection h2 with h2
      exact h2.symm
    subst ey
    refine ⟨_, rfl, wpAny_letOwnedTupleGo_enum (s := { s with heap := h', toks := tk + 1 }) ho fun h'' he' sb => ?_⟩
    have hT2 : h''.get? s.heap.objs.size = some { cls := .type "tuple", data := .seq #[.int i tk, y] } := (sb.2 _ (Nat.ne_of_gt hel)).trans hT
    have fresh : ObjOk X.prog X.w (upd H s.heap.objs.size (.tup [.int (i : Nat), x])) h'' s.heap.objs.size (.tup [.int (i : Nat), x]) := ⟨show 2 ≤ sizeLine by decide, [.int i tk, y], .cons ⟨_, rfl⟩ (.cons ru .nil), ⟨_, hT2, rfl, _, rfl⟩⟩
    have J : Inv X pins σ (upd H s.heap.objs.size (.tup [.int (i : Nat), x])) { s with heap := h'', toks := tk + 1 } :=
      I.turnedNew (ch := [e, it]) (fun b ob hb q => (sb.2 b fun z => hb (by simp [z])).trans (hk b ob (fun z => hb (by simp [z])) (fun z => hb (by simp [z])) q)) hf (Nat.le_refl _) fresh
    refine ⟨.ref s.heap.objs.size, _, J, rfl, ⟨_, x, rfl, I.hok.fresh (Nat.le_refl _), rfl, fun ys hy => by rw [I.tuple_inj hy hq]; exact hx⟩, ⟨⟨y, ?_⟩, ?_, hne, ?_⟩, fun b hb => ?_⟩
    · rw [show ((i + 1 : Nat) : Int) = (i : Int) + 1 by omega]
      exact he'
    · obtain ⟨o, go, gr⟩ := hst'.1
      exact ⟨o, (sb.2 it (Ne.symm hne)).trans go, gr⟩
    · have := (List.getElem?_eq_some_iff.mp hx).1
      omega
    · have hb' : b < s.heap.objs.size := by
        rcases (show b = e ∨ b = it by simpa using hb) with z | z <;> (rw [z]; assumption)
      rw [upd_ne (Nat.ne_of_lt hb')]
      exact (hf b hb).1
  done := by
    intro X hP hw hK hc i pins s σ H E I hf st hg
    subst hP hw hK
    obtain ⟨⟨old, ge⟩, ti, hne, hin⟩ := st
    obtain ⟨xs, hq, hn, hx⟩ := hg
    obtain ⟨its, rv, tt, _⟩ := I.tuple hq
    have tt : s.heap.IsTuple a its.toArray := tt
    have ait : a ≠ it := fun z => by
      obtain ⟨o, go, gc, _⟩ := tt
      obtain ⟨o2, go2, gc2, _⟩ := ti
      subst z
      rw [go] at go2
      injection go2 with go2
      subst go2
      rw [gc] at gc2
      injection gc2 with q
      exact absurd q (by decide)
    have hlen : xs.length = its.length := rv.length
    have ei : i = its.toArray.size := by
      rw [List.size_toArray]
      omega
    subst ei
    obtain ⟨f0, f1, f2, f3, f4, f5⟩ := hf it (by simp)
    exact wpAny_pyNext_enum_endD (drawsT (A := X.A.in1) (by exact I.ok.hd hc) it a ait its.toArray) ge ⟨ti, tt⟩ fun h' eb => ⟨rfl, I.turned (t' := s.toks) (fun b o hb q => eb b o hb q) f0 f1 f3 f4 f5⟩
  self := fun A i s Q E st h => by
    obtain ⟨⟨_, ge⟩, _⟩ := st
    exact wpAny_pyIter_enum ge h
end DL

/-! DL18: walks over enumerate of tuples -/
namespace DL
open PySem PySem.Spec PyProof.Rows L2
def iEnumT (K : PySem.W.Frag) (ta : TA) : TI := fun σ H R => ta σ H fun vs H1 => ∃ a xs, vs = [.ref a] ∧ SqT K H1 a xs ∧ R (IteT K a xs.length) H1
theorem pi_enumT {X : Cx} {e : Expr} {ta : TA} {p pos tpos : Pos} {elts : List Expr} {kk : Nat} (gl : Gl X "enumerate") (nm : X.mg "enumerate" = none) (ha : PA X [e] ta) (hs : starEach [e] X.env = [(false, eval e X.env)] := by rfl) :
    PI X (.Tuple elts kk tpos) (.Call (.Name "enumerate" p) [e] [] pos) (iEnumT X.K ta) := by
  refine ⟨fun pins s σ H R I h => Call_ (ld_blt I gl nm boot_enumerate (PyProof.Rows.callWith_type1 (thn (ha.run pos pins s σ H _ I h) fun us s1 ⟨vs, H1, I1, r1, q1⟩ => ?_) hs rfl))⟩
  obtain ⟨a, xs, rfl, hq, q⟩ := q1
  cases r1 with
  | cons r rr =>
    cases rr
    cases r
    obtain ⟨its, rv, tt, _⟩ := I1.tuple hq
    refine call_enumT (show s1.heap.IsTuple a its.toArray from tt) fun h' ge ti hk => wpAny_pyIter_enum ge ?_
    have I2 : Inv X pins σ H1 { s1 with heap := h' } := I1.kept (t' := s1.toks) hk
    refine ⟨s1.heap.objs.size + 1, [s1.heap.objs.size + 1, s1.heap.objs.size], _, _, H1, rfl, I2, turn_enumT a (s1.heap.objs.size + 1) s1.heap.objs.size xs.length, ⟨⟨.none, ge⟩, ti, Nat.succ_ne_self _, Nat.zero_le _⟩, fun b hb => ?_, q⟩
    have le : s1.heap.objs.size ≤ b := by
      rcases (show b = s1.heap.objs.size + 1 ∨ b = s1.heap.objs.size by simpa using hb) with z | z
      · exact z ▸ Nat.le_succ _
      · exact z ▸ Nat.le_refl _
    exact I1.fpOk le (I1.hok.fresh le)
section
variable {X : Cx} {B : Base} {ρ : List Slot} {pos : Pos} {e tg it : Expr}
theorem ji_enumT {α β : Type} {m : R β} {xs : β → List α} {f : α → D} {ρ' : β → List Slot} {p tpos : Pos} {elts : List Expr} {kk : Nat} (hg : Gl X "enumerate") (hm : X.mg "enumerate" = none) (h : JE X B ρ e m (fun b => .val (eT f (xs b))) ρ') (hst : starEach [e] X.env = (false, eval e X.env) :: starEach [] X.env := by rfl) (hs : starEach [e] X.env = [(false, eval e X.env)] := by rfl) :
    JI X B ρ (.Tuple elts kk tpos) (.Call (.Name "enumerate" p) [e] [] pos) m (fun b => (enumL (xs b)).map (eP2 D.int f)) ρ' :=
  PI_imp (pi_enumT hg hm (pa_cons h pa_nil hst) hs) fun σ H Q ⟨G, E, q⟩ => ⟨G, E, R.post_mono q fun b q1 v G' H' x E' => by
    obtain ⟨a, vs, rfl, hS, hr⟩ := E'.top.tup_inv
    have hl : vs.length = (xs b).length := by rw [hr.len, List.length_map]
    have hl2 : ((enumL (xs b)).map (eP2 D.int f)).length = vs.length := by rw [List.length_map, enumL_len, hl]
    refine ⟨a, vs, rfl, E'.sub.t hS, q1 _ G' H' x E'.pop ⟨fun i H hi e => ⟨vs, vs[i]'(by rw [← hl2]; exact hi), e.t hS, rfl, List.getElem?_eq_getElem _⟩, fun i H hi e => ⟨vs, e.t hS, rfl, by rw [← hl2]; exact hi⟩, fun B i G1 H1 σ ρ w H' e E hy d hd => ?_⟩⟩
    obtain ⟨T, y, rfl, hT, rfl, hy⟩ := hy
    have hyi := hy vs ((e.trans E.sub).t hS)
    obtain ⟨d2, h1, h2⟩ := hr.getV hyi
    rw [List.getElem?_map, enumL_get] at hd
    rw [List.getElem?_map] at h1
    cases hx : (xs b)[i]? with
    | none =>
      rw [hx] at h1
      cases h1
    | some z =>
      rw [hx] at h1 hd
      injection h1 with h1
      injection hd with hd
      subst h1
      subst hd
      have e1 := Ex.new (o := HO.tup [.int (i : Nat), y]) (E.sub.back hT)
      exact ⟨_, e1, E.new hT _, .tup (.inl (.inl upd_same)) (.cons (.int _) (.cons (h2.ex (e.trans e1)) .nil))⟩⟩
end
end DL

/-! DL19: list * n, a if c else b, is None -/
namespace DL
open PySem PySem.Spec L2
def repL {α : Type} (xs : List α) (k : Int) : List α := (List.replicate k.toNat xs).flatten
theorem rp_rep {K : PySem.W.Frag} {G : Hp} {vs : List V} {ds : List D} (h : RpAll K G vs ds) : ∀ n : Nat, RpAll K G (List.replicate n vs).flatten (List.replicate n ds).flatten
  | 0 => .nil
  | n + 1 => by
    rw [List.replicate_succ, List.replicate_succ, List.flatten_cons, List.flatten_cons]
    exact h.append (rp_rep h n)
theorem map_rep {α β : Type} (f : α → β) (xs : List α) (k : Int) : (repL xs k).map f = repL (xs.map f) k := by
  unfold repL
  rw [List.map_flatten, List.map_replicate]
section
variable {X : Cx} {B : Base} {ρ : List Slot} {pos : Pos} {a b c : Expr}
theorem je_rep {α β γ : Type} {f : γ → D} {ma : R α} {xs : α → List γ} {ρa : α → List Slot} {mb : α → R β} {k : α → β → Int} {ρ' : α → β → List Slot} (ha : JE X B ρ a ma (fun x => .own 0 (oL f (xs x))) ρa) (hb : ∀ B' : Base, B'.rs = B.rs → ∀ x, JE X B' (ρa x) b (mb x) (fun y => .val (.int (k x y))) (ρ' x)) (hna : ∀ x y, noAlis (ρ' x y) = true := by intro _ _; rfl) :
    JE X B ρ (.BinOp a .Mult b pos) (ma.bind fun x => (mb x).bind fun y => (R.guard (-(2 ^ 63) ≤ k x y ∧ k x y < 2 ^ 63 ∧ (xs x).length * (k x y).toNat ≤ sizeLine)).bind fun _ => .ok (x, y)) (fun p => .own 0 (oL f (repL (xs p.1) (k p.1 p.2)))) (fun p => ρ' p.1 p.2) := by
  have hb' : PE X b (fun σ H Q => ∃ B' x, B'.rs = B.rs ∧ tJ X.K B' (ρa x) (mb x) (fun y => .val (.int (k x y))) (ρ' x) σ H Q) := ⟨fun pins s σ H Q I ⟨B', x, hB, q⟩ => (hb B' hB x).run pins s σ H Q I q⟩
  refine PE_imp (pe_op op_rep ha hb') fun σ H Q ⟨G, E, q⟩ => ⟨G, E, R.post_mono (R.post_bind.mp q) fun x q1 vx G1 H1 x1 E1 => ?_⟩
  obtain ⟨B', hB, E2, back⟩ := E1.aside
  refine ⟨B', x, hB, G1, E2, ?_⟩
  rw [hB]
  refine R.post_mono (R.post_bind.mp q1) fun y q2 vy G2 H2 x2 E3 => ?_
  have hv := E3.top.int_inv
  subst hv
  obtain ⟨⟨c1, c2, c3⟩, q3⟩ := R.post_guard (R.post_bind.mp q2)
  have E4 := back G2 H2 σ _ _ x2 E3 (hna x y)
  obtain ⟨A, cs, n, g⟩ := E4.own
  cases cs with
  | cons c0 cr =>
    cases c0 with
    | own hO hl hp =>
      cases hO with
      | @lst l vs _ A3 hH hall =>
        obtain ⟨e3, r⟩ := own_dats_inv hall
        have hlen : vs.length = (xs x).length := by rw [r.len, List.length_map]
        refine ⟨l, k x y, vs, rfl, rfl, hH, c1, c2, by rw [hlen]; exact c3, fun p hp => q3 _ G2 _ (x1.trans x2) ?_⟩
        have hr := rp_rep r (k x y).toNat
        have E5 := E4.pop.pop.newL hp hr
        have e : (List.replicate (k x y).toNat ((xs x).map f)).flatten = (repL (xs x) (k x y)).map f := by rw [map_rep]; rfl
        rw [e] at E5
        exact E5
/-- a if c else b, both of them data of one kind -/
theorem je_if {α β γ δ : Type} {mc : R α} {bn : α → Bool} {ρc : α → List Slot} {ma mb : α → R β} {s : β → Slot} {ρ' : β → List Slot} (hc : JT X B ρ c mc bn ρc) (ha : ∀ x, JE X B (ρc x) a (ma x) s ρ') (hb : ∀ x, JE X B (ρc x) b (mb x) s ρ') :
    JE X B ρ (.IfExp c a b pos) (mc.bind fun x => if bn x = true then ma x else mb x) s ρ' := by
  have ha' : PE X a (fun σ H Q => ∃ x, tJ X.K B (ρc x) (ma x) s ρ' σ H Q) := ⟨fun pins s σ H Q I ⟨x, q⟩ => (ha x).run pins s σ H Q I q⟩
  have hb' : PE X b (fun σ H Q => ∃ x, tJ X.K B (ρc x) (mb x) s ρ' σ H Q) := ⟨fun pins s σ H Q I ⟨x, q⟩ => (hb x).run pins s σ H Q I q⟩
  refine PE_imp (pe_ifExp hc ha' hb') fun σ H Q ⟨G, E, q⟩ => ⟨G, E, R.post_mono (R.post_bind.mp q) fun x q1 G1 H1 x1 E1 => ?_⟩
  cases hx : bn x with
  | true =>
    rw [hx, if_pos rfl] at q1
    rw [if_pos rfl]
    exact ⟨x, G1, E1, R.post_mono q1 fun y k v G2 H2 x2 E2 => k v G2 H2 (x1.trans x2) E2⟩
  | false =>
    rw [hx, if_neg (by decide)] at q1
    rw [if_neg (by decide)]
    exact ⟨x, G1, E1, R.post_mono q1 fun y k v G2 H2 x2 E2 => k v G2 H2 (x1.trans x2) E2⟩
end
def isNon : D → Bool
  | .none => true
  | _ => false
section
variable {K : PySem.W.Frag} {B : Base}
theorem Rp.isNon {G : Hp} {v : V} {d : D} (h : Rp K G v d) : decide (v = .non) = DL.isNon d := by
  cases h <;> first | rfl | simp [DL.isNon]
theorem od_isN {d : D} : OpD K B (fun x y H Q => y = .non ∧ Q (.bl (decide (x = .non))) H) d .none (.ok ()) (fun _ => .val (.bool (isNon d))) := fun G H σ ρ vx vy Q E hx hy q => ⟨hy.non_inv, by
  rw [hx.isNon]
  exact q _ G H (Ex.refl G) (E.push (.bl _))⟩
theorem od_notN {d : D} : OpD K B (fun x y H Q => y = .non ∧ Q (.bl (!decide (x = .non))) H) d .none (.ok ()) (fun _ => .val (.bool (!isNon d))) := fun G H σ ρ vx vy Q E hx hy q => ⟨hy.non_inv, by
  rw [hx.isNon]
  exact q _ G H (Ex.refl G) (E.push (.bl _))⟩
end
end DL

/-! DL20: plain rows (tuples that are known to have no dict) -/
namespace DL
open PySem PySem.Spec PyProof.Rows L2
@[reducible] def eR {α : Type} (f : α → D) (l : List α) : D := .row (l.map f)
/-- whatever is d is d' too -/
def Wk (d d' : D) : Prop := ∀ (K : PySem.W.Frag) (G : Hp) (v : V), Rp K G v d → Rp K G v d'
theorem wk_refl (d : D) : Wk d d := fun _ _ _ h => h
theorem wk_R {α : Type} (f : α → D) (xs : List α) : Wk (eR f xs) (eT f xs) := fun K G v h => by
  cases h with
  | row h d r => exact .tup (.inl (.inr ⟨_, h⟩)) r
theorem wkAll {α : Type} {f g : α → D} (h : ∀ x, Wk (f x) (g x)) : ∀ (xs : List α) {K : PySem.W.Frag} {G : Hp} {vs : List V}, RpAll K G vs (xs.map f) → RpAll K G vs (xs.map g)
  | [], _, _, _, .nil => .nil
  | x :: xs, _, _, _, .cons a r => .cons (h x _ _ _ a) (wkAll h xs r)
theorem wk_T {α : Type} {f g : α → D} (h : ∀ x, Wk (f x) (g x)) (xs : List α) : Wk (eT f xs) (eT g xs) := fun K G v a => by
  cases a with
  | tup s r => exact .tup s (wkAll h xs r)
theorem wk_L {α : Type} {f g : α → D} (h : ∀ x, Wk (f x) (g x)) (xs : List α) : Wk (eL f xs) (eL g xs) := fun K G v a => by
  cases a with
  | lst s r => exact .lst s (wkAll h xs r)
theorem wk_P2 {α β : Type} {f f' : α → D} {g g' : β → D} (h : ∀ x, Wk (f x) (f' x)) (k : ∀ x, Wk (g x) (g' x)) (p : α × β) : Wk (eP2 f g p) (eP2 f' g' p) := fun K G v a => by
  cases a with
  | tup s r =>
    cases r with
    | cons a r =>
      cases r with
      | cons b r => exact .tup s (.cons (h _ _ _ _ a) (.cons (k _ _ _ _ b) r))
theorem Cells.wk {K : PySem.W.Frag} {B : Base} {G H : Hp} {v : V} {d d' : D} {σ : L2.St} {ρ : List Slot} {A : List Addr} (w : Wk d d') (h : Cells K B G H (some v :: σ) (.val d :: ρ) A) : Cells K B G H (some v :: σ) (.val d' :: ρ) A := by
  cases h with
  | cons c r =>
    cases c with
    | val h => exact .cons (.val (w _ _ _ h)) r
theorem En.wk {K : PySem.W.Frag} {B : Base} {G H : Hp} {v : V} {d d' : D} {σ : L2.St} {ρ : List Slot} {ex : List (V × Slot)} (w : Wk d d') (E : En K B G H σ ρ ((v, .val d) :: ex)) : En K B G H σ ρ ((v, .val d') :: ex) := by
  obtain ⟨A, c, n, g⟩ := E.own
  exact ⟨E.anc, ⟨A, Cells.wk w c, n, g⟩, E.len, E.ali⟩
section
variable {X : Cx} {B : Base} {ρ : List Slot} {pos : Pos} {e obj : Expr} {es : List Expr}
theorem je_wk {β : Type} {m : R β} {d d' : β → D} {ρ' : β → List Slot} (w : ∀ b, Wk (d b) (d' b)) (h : JE X B ρ e m (fun b => .val (d b)) ρ') : JE X B ρ e m (fun b => .val (d' b)) ρ' :=
  PE_imp h fun σ H Q ⟨G, E, q⟩ => ⟨G, E, R.post_mono q fun b k v G1 H1 x1 E1 => k v G1 H1 x1 (E1.wk (w b))⟩
/-- tuple(a list): a plain row -/
def rTupF (K : PySem.W.Frag) : List V → Hp → VK → Prop := fun xs H Q => ∃ p ys, xs = [.ref p] ∧ SqL K H p ys ∧ ∀ l ob, H l = none → ob.dict = none → Q (.ref l) (upd H l (.frz ob (.tup ys)))
theorem cr_tupF : CallR X (.type "tuple") (rTupF X.K) := by
  intro pins s σ H xs us Q I r h
  obtain ⟨p, ys, rfl, hq, q⟩ := h
  obtain ⟨u, rfl, rx⟩ := vals1 r
  cases rx
  obtain ⟨its, rv, pl, hz⟩ := I.list hq
  have hlen := rv.length
  refine call_tuple_list pl.isList (fun h' kp => ?_) (by simp only [List.size_toArray] <;> omega)
  have J : Inv X pins σ H { s with heap := h' } := I.kept (t' := s.toks) kp
  have at' : (h'.push { cls := .type "tuple", data := .seq its.toArray }).get? h'.objs.size = some { cls := .type "tuple", data := .seq its.toArray } := Heap.get?_push_size _ rfl
  have J2 : Inv X pins σ (upd H h'.objs.size (.frz { cls := .type "tuple", data := .seq its.toArray } (.tup ys))) { s with heap := h'.push { cls := .type "tuple", data := .seq its.toArray } } :=
    J.laid (t' := s.toks) (fun b o e => Heap.get?_push_of_some _ e) (Nat.le_refl _) (show ObjOk X.prog X.w _ _ _ (.frz _ (.tup ys)) from ⟨at', hz, its, rv, IsTup.new _ _⟩)
  exact ⟨.ref h'.objs.size, _, J2, rfl, q _ _ (J.hok.fresh (Nat.le_refl _)) rfl⟩
theorem cb_tupF {K : PySem.W.Frag} {α : Type} {f : α → D} {xs : List α} : CbD K B ρ (rTupF K) [.val (eL f xs)] (.ok ()) (fun _ => .val (eR f xs)) := fun G H σ vs Q E ok q => by
  obtain ⟨v, rfl, r⟩ := ok.one
  obtain ⟨a, ys, rfl, hS, hr⟩ := r.lst_inv
  refine ⟨a, ys, rfl, .inl (E.sub.rd hS), fun p ob hp ho => ?_⟩
  have e := Ex.new (o := HO.frz ob (.tup ys)) (E.sub.back hp)
  exact q _ _ _ e ((E.new hp _).push (.row upd_same ho (RpAll.ex e hr)))
/-- a method of a plain row -/
def tBMR (r : V → List V → Hp → VK → Prop) (to : TE) (t : TA) : TE := fun σ H Q => to σ H fun x H1 => (∃ a ob xs, x = .ref a ∧ H1 a = some (.frz ob (.tup xs)) ∧ ob.dict = none) ∧ t σ H1 fun xs H2 => r x xs H2 Q
theorem pe_bmR {o : Expr} {to : TE} {t : TA} {name : Str} {ap : Pos} {id : String} {r : V → List V → Hp → VK → Prop} (pa : PlainAttrs "tuple") (slot : PySem.Slot "tuple" name id) (hty : typeOf (.builtin id) = pure (.type "method_descriptor")) (hm : MtR X id r) (ho : PE X o to) (ha : PA X (e :: es) t)
    (base : attributeBase o name X.env (eval o X.env) = eval o X.env := by rfl)
    (few : ((backTo pos (starEach (e :: es) X.env)).all (fun x => !x.1) && (backToKw pos (keywordEach [] X.env)).all (fun x => x.1.isSome) && decide ((e :: es).length + ([] : List Keyword).length + (if ([] : List Keyword).isEmpty then 0 else 1) < 30)) = true := by rfl)
    (line : (ap.endLine == pos.line) = true := by rfl) (hs : starEach (e :: es) X.env = (false, eval e X.env) :: starEach es X.env := by rfl) (pl : (backTo pos (starEach es X.env)).any (·.1) = false := by rfl) :
    PE X (.Call (.Attribute o name ap) (e :: es) [] pos) (tBMR r to t) := by
  refine ⟨fun pins s σ H Q I h => wpAny_Call_method_late base few line rfl (thn (ho.run pins s σ H _ I h) fun v s1 ⟨x, H1, I1, r1, ⟨a, ob, xs, ex, hH, hd⟩, q1⟩ => ?_)⟩
  subst ex
  cases r1
  obtain ⟨g1, g2⟩ := I1.hok a _ hH
  obtain ⟨_, its, _, o2, g3, g4, _⟩ := g2
  rw [g1] at g3
  injection g3 with g3
  subst g3
  refine ⟨"tuple", id, pa, slot, hty, ⟨_, g1, g4⟩, fun b eb => by injection eb with eb; subst eb; exact ⟨_, g1, hd⟩, ?_⟩
  have hA := ha.run pos pins s1 σ H1 _ I1 q1
  rw [hs] at hA ⊢
  refine Calls.callWith_builtin (show (false || (backTo pos (starEach es X.env)).any (·.1)) = false by rw [pl] <;> rfl) (Calls.evalArgs_plain ?_)
  exact thn hA fun us s2 ⟨vs, H2, I2, r2, q2⟩ => hm pins s2 σ H2 (.ref a) vs (.ref a) us Q I2 rfl r2 q2
/-- row.index(k) -/
theorem je_rix {ap : Pos} {ns : List Int} {β : Type} {m : R β} {k : β → Int} {ρ' : β → List Slot} (ho : JP X B ρ obj (eR D.int ns)) (he : JE X B ρ e m (fun b => .val (.int (k b))) ρ') (hst : starEach [e] X.env = (false, eval e X.env) :: starEach [] X.env := by rfl)
    (base : attributeBase obj "index" X.env (eval obj X.env) = eval obj X.env := by rfl)
    (few : ((backTo pos (starEach [e] X.env)).all (fun x => !x.1) && (backToKw pos (keywordEach [] X.env)).all (fun x => x.1.isSome) && decide ([e].length + ([] : List Keyword).length + (if ([] : List Keyword).isEmpty then 0 else 1) < 30)) = true := by rfl)
    (line : (ap.endLine == pos.line) = true := by rfl) (pl : (backTo pos (starEach [] X.env)).any (·.1) = false := by rfl) :
    JE X B ρ (.Call (.Attribute obj "index" ap) [e] [] pos) (m.bind fun b => (R.some (ixOf (k b) ns)).bind fun j => .ok (b, j)) (fun p => .val (.int ((p.2 : Nat) : Int))) (fun p => ρ' p.1) := by
  refine PE_imp (pe_bmR PySem.F.plainAttrs_tuple PySem.F.slot_tuple_index PySem.F.type_tuple_index mt_tix ho (pa_cons he pa_nil hst) base few line hst pl) fun σ H Q ⟨G, E, q⟩ => ⟨G, E, fun v G1 H1 x1 E1 => ?_⟩
  have ht := E1.top
  obtain ⟨a, rfl⟩ : ∃ a, v = .ref a := by
    cases ht with
    | row => exact ⟨_, rfl⟩
  cases ht with
  | @row _ ob xs _ hH hd hr =>
    refine ⟨⟨a, ob, xs, rfl, E1.sub _ _ hH, hd⟩, G1, E1.pop, R.post_mono (R.post_bind.mp q) fun b q1 w G2 H2 x2 E2 => ?_⟩
    have hw := E2.top.int_inv
    subst hw
    obtain ⟨j, hj, q2⟩ := R.post_some (R.post_bind.mp q1)
    obtain ⟨g1, g2⟩ := ixOf_some hj
    have hx := hr.ints
    subst hx
    exact ⟨a, ns, k b, j, rfl, rfl, .inl (.inr ⟨ob, E2.sub _ _ (x2 _ _ hH)⟩), g1, g2, q2 _ G2 _ (x1.trans x2) (E2.pop.push (.int _))⟩
end
end DL

/-! DL21: list.index, more of rows -/
namespace DL
open PySem PySem.Spec PyProof.Rows L2
theorem toPys_get {α : Type} {f : α → D} : ∀ {xs : List α} {j : Nat}, (toPy.toPys (xs.map f))[j]? = (xs[j]?).map fun x => toPy (f x)
  | [], j => by simp [toPy.toPys]
  | x :: xs, 0 => by simp [toPy.toPys]
  | x :: xs, j + 1 => by
    rw [List.map_cons, toPy.toPys]
    simpa using toPys_get (xs := xs) (j := j)
section
variable {X : Cx} {B : Base} {ρ : List Slot} {pos : Pos} {e obj : Expr}
/-- xs.index(y) -/
theorem je_lix {ap : Pos} {α : Type} [DecidableEq α] {n : Nat} {f : α → D} {xs : List α} {β : Type} {m : R β} {y : β → α} {ρ' : β → List Slot} (hu : X.A.units + 65 < cLine) (hq : EqE n f) (ho : JP X B ρ obj (eL f xs)) (he : JE X B ρ e m (fun b => .val (f (y b))) ρ') (hn : n + 1 ≤ 64 := by decide) (hst : starEach [e] X.env = (false, eval e X.env) :: starEach [] X.env := by rfl)
    (base : attributeBase obj "index" X.env (eval obj X.env) = eval obj X.env := by rfl)
    (few : ((backTo pos (starEach [e] X.env)).all (fun x => !x.1) && (backToKw pos (keywordEach [] X.env)).all (fun x => x.1.isSome) && decide ([e].length + ([] : List Keyword).length + (if ([] : List Keyword).isEmpty then 0 else 1) < 30)) = true := by rfl)
    (line : (ap.endLine == pos.line) = true := by rfl) (pl : (backTo pos (starEach [] X.env)).any (·.1) = false := by rfl) :
    JE X B ρ (.Call (.Attribute obj "index" ap) [e] [] pos) (m.bind fun b => (R.some (ixOf (y b) xs)).bind fun j => .ok (b, j)) (fun p => .val (.int ((p.2 : Nat) : Int))) (fun p => ρ' p.1) := by
  refine PE_imp (pe_bm PySem.F.plainAttrs_list PySem.F.slot_list_index PySem.F.type_list_index (mt_indexD hu) ho (pa_cons he pa_nil hst) base few line hst pl) fun σ H Q ⟨G, E, q⟩ => ⟨G, E, fun v G1 H1 x1 E1 => ?_⟩
  have ht := E1.top
  obtain ⟨a, vs, rfl, hS, hr⟩ := ht.lst_inv
  refine ⟨.inl ⟨rfl, vs, .inl (E1.sub.rd hS)⟩, G1, E1.pop, R.post_mono (R.post_bind.mp q) fun b q1 w G2 H2 x2 E2 => ?_⟩
  obtain ⟨j, hj, q2⟩ := R.post_some (R.post_bind.mp q1)
  obtain ⟨g1, g2⟩ := ixOf_some hj
  have hL := ee_L hq
  have d1 := (ht.ex x2).dp E2.sub (hL.lay xs)
  have d2 := E2.top.dp E2.sub (hq.lay (y b))
  have e1 : toPy (eL f xs) = .list (toPy.toPys (xs.map f)) := by rw [toPy]
  have s1 := hL.shaped hn xs
  rw [e1] at d1 s1
  refine ⟨a, w, toPy (f (y b)), toPy.toPys (xs.map f), j, toPy (f (y b)), rfl, rfl, d1, d2, s1, hq.shaped (by omega) _, by rw [toPys_get, g1]; rfl, by rw [hq.eqv]; simp, fun i z' hi hz' => ?_, q2 _ G2 _ (x1.trans x2) (E2.pop.push (.int _))⟩
  rw [toPys_get] at hz'
  cases hx : xs[i]? with
  | none =>
    rw [hx] at hz'
    cases hz'
  | some x0 =>
    rw [hx] at hz'
    injection hz' with hz'
    subst hz'
    rw [hq.eqv]
    exact decide_eq_false fun z => g2 i hi (by rw [hx, z])
end
theorem wk_trans {a b c : D} (h : Wk a b) (k : Wk b c) : Wk a c := fun K G v r => k K G v (h K G v r)
end DL

/-! DL22: flatness of rows and of owned lists of lists -/
namespace DL
open PySem PySem.Spec L2
theorem fl_R {α : Type} {f : α → D} (h : ∀ x, Flat (f x)) (xs : List α) : Flat (eR f xs) := by
  rw [eR, Flat]
  exact FlatL.of h xs
theorem flatOL_LL {α : Type} {f : α → D} (h : ∀ x, Flat (f x)) : ∀ rows : List (List α), FlatOL (rows.map (oL f))
  | [] => by
    rw [List.map_nil, FlatOL]
    trivial
  | r :: rows => by
    rw [List.map_cons, FlatOL]
    exact ⟨fl_oL h r, flatOL_LL h rows⟩
theorem fl_oLL {α : Type} {f : α → D} (h : ∀ x, Flat (f x)) (rows : List (List α)) : FlatO (oLL f rows) := fl_lst (flatOL_LL h rows)
end DL

/-! DL23: repr of data -/
namespace DL
open PySem PySem.Spec L2 PyProof.Rows
mutual
def pdOf : D → PyData
  | .none => .none
  | .bool b => .bool b
  | .int i => .int i
  | .str x => .str x
  | .list ds => .list (pdOfs ds)
  | .tuple ds => .tuple (pdOfs ds)
  | .row ds => .tuple (pdOfs ds)
  | .scr ns => .list (ns.map PyData.int)
  | .dict _ => .none
def pdOfs : List D → List PyData
  | [] => []
  | d :: ds => pdOf d :: pdOfs ds
end
mutual
def plainD : D → Bool
  | .dict _ => false
  | .list ds => plainDs ds
  | .tuple ds => plainDs ds
  | .row ds => plainDs ds
  | .none => true
  | .bool _ => true
  | .int _ => true
  | .str _ => true
  | .scr _ => true
def plainDs : List D → Bool
  | [] => true
  | d :: ds => plainD d && plainDs ds
end
def isRefD : D → Bool
  | .list _ => true
  | .tuple _ => true
  | .row _ => true
  | _ => false
mutual
theorem plain_noDict : ∀ d : D, plainD d = true → (pdOf d).hasDict = false
  | .none, _ => by rw [pdOf, PyData.hasDict]
  | .bool _, _ => by rw [pdOf, PyData.hasDict]
  | .int _, _ => by rw [pdOf, PyData.hasDict]
  | .str _, _ => by rw [pdOf, PyData.hasDict]
  | .list ds, h => by
    rw [pdOf, PyData.hasDict]
    exact plains_noDict ds (by rw [plainD] at h; exact h)
  | .tuple ds, h => by
    rw [pdOf, PyData.hasDict]
    exact plains_noDict ds (by rw [plainD] at h; exact h)
  | .row ds, h => by
    rw [pdOf, PyData.hasDict]
    exact plains_noDict ds (by rw [plainD] at h; exact h)
  | .scr ns, _ => by
    rw [pdOf, PyData.hasDict]
    induction ns with
    | nil => rw [List.map_nil, PyData.hasDictAll]
    | cons n ns ih => rw [List.map_cons, PyData.hasDictAll, PyData.hasDict, ih (by rw [plainD])]; rfl
  | .dict _, h => by
    rw [plainD] at h
    cases h
theorem plains_noDict : ∀ ds : List D, plainDs ds = true → PyData.hasDictAll (pdOfs ds) = false
  | [], _ => by rw [pdOfs, PyData.hasDictAll]
  | d :: ds, h => by
    rw [plainDs, Bool.and_eq_true] at h
    rw [pdOfs, PyData.hasDictAll, plain_noDict d h.1, plains_noDict ds h.2]
    rfl
end
section
variable {X : Cx} {pins : List (Addr × Obj)} {σ : L2.St} {G H : Hp} {s : Shared}
theorem reads_ints (h : Heap) : ∀ (ns : List Int) (us : List Value), Vals (ns.map V.int) us → ∃ as, ReadsAll h us (ns.map PyData.int) as
  | [], _, .nil => ⟨[], .nil⟩
  | n :: ns, _, .cons r t => by
    obtain ⟨tk, rfl⟩ := r
    obtain ⟨as, q⟩ := reads_ints h ns _ t
    exact ⟨_, .cons (.int n tk) q⟩
mutual
theorem Rp.reads (I : Inv X pins σ H s) (e : Ex G H) : ∀ {v : V} {d : D}, Rp X.K G v d → ∀ {u : Value}, RelV v u → plainD d = true → ∃ as, Reads s.heap u (pdOf d) as
  | _, _, .non, u, r, _ => by
    cases r
    rw [pdOf]
    exact ⟨_, .none⟩
  | _, _, .bl b, u, r, _ => by
    cases r
    rw [pdOf]
    exact ⟨_, .bool b⟩
  | _, _, .int i, u, r, _ => by
    obtain ⟨t, rfl⟩ := r
    rw [pdOf]
    exact ⟨_, .int i t⟩
  | _, _, .str x, u, r, _ => by
    obtain ⟨t, rfl⟩ := r
    rw [pdOf]
    exact ⟨_, .str x t⟩
  | _, _, .lst h q, u, r, p => by
    cases r
    rw [pdOf]
    rw [plainD] at p
    obtain ⟨its, vs, pl, _⟩ := I.list (.inl (e.rd h))
    obtain ⟨o, n, g1, g2, g3, g4⟩ := pl
    obtain ⟨as, ra⟩ := RpAll.reads I e q vs p
    exact ⟨_, .list g1 g2 g4 (by simpa using ra)⟩
  | _, _, .tup h q, u, r, p => by
    cases r
    rw [pdOf]
    rw [plainD] at p
    obtain ⟨its, vs, ⟨o, g1, g2, n, g4⟩, _⟩ := I.tuple (e.t h)
    obtain ⟨as, ra⟩ := RpAll.reads I e q vs p
    exact ⟨_, .tuple g1 g2 g4 (by simpa using ra)⟩
  | _, _, .row h d q, u, r, p => by
    cases r
    rw [pdOf]
    rw [plainD] at p
    obtain ⟨its, vs, ⟨o, g1, g2, n, g4⟩, _⟩ := I.tuple (.inl (.inr ⟨_, e _ _ h⟩))
    obtain ⟨as, ra⟩ := RpAll.reads I e q vs p
    exact ⟨_, .tuple g1 g2 g4 (by simpa using ra)⟩
  | _, _, .scr h, u, r, _ => by
    cases r
    rw [pdOf]
    obtain ⟨its, vs, pl, _⟩ := I.list (e.l h)
    obtain ⟨o, n, g1, g2, g3, g4⟩ := pl
    obtain ⟨as, ra⟩ := reads_ints s.heap _ _ vs
    exact ⟨_, .list g1 g2 g4 (by simpa using ra)⟩
  | _, _, .dK h q, u, r, p => by
    rw [plainD] at p
    cases p
  | _, _, .dT h q, u, r, p => by
    rw [plainD] at p
    cases p
theorem RpAll.reads (I : Inv X pins σ H s) (e : Ex G H) : ∀ {vs : List V} {ds : List D}, RpAll X.K G vs ds → ∀ {us : List Value}, Vals vs us → plainDs ds = true → ∃ as, ReadsAll s.heap us (pdOfs ds) as
  | _, _, .nil, _, .nil, _ => by
    rw [pdOfs]
    exact ⟨_, .nil⟩
  | _, _, .cons h q, _, .cons r t, p => by
    rw [plainDs, Bool.and_eq_true] at p
    rw [pdOfs]
    obtain ⟨as, a⟩ := Rp.reads I e h r p.1
    obtain ⟨bs, b⟩ := RpAll.reads I e q t p.2
    exact ⟨_, .cons a b⟩
end
/-- it can be shown -/
def repOk (d : D) : Prop := plainD d = true ∧ isRefD d = true ∧ (pdOf d).showable = true ∧ (pdOf d).shown.length ≤ sizeLine ∧ (pdOf d).depth ≤ 60
instance (d : D) : Decidable (repOk d) := by unfold repOk; exact inferInstance
def reprD (d : D) : Str := (pdOf d).shown
def rRep (K : PySem.W.Frag) : List V → Hp → VK → Prop := fun xs H Q => ∃ v G d, xs = [v] ∧ Ex G H ∧ Rp K G v d ∧ repOk d ∧ Q (.str (reprD d)) H
theorem call_reprD (hg : X.A.guards = some []) (hu : X.A.units + 64 < cLine) : CallR X (.builtin "repr") (rRep X.K) := by
  intro pins s σ H xs us Q I r h
  obtain ⟨v, G, d, rfl, e, q, ⟨p1, p2, p3, p4, p5⟩, hq⟩ := h
  cases r with
  | cons r t =>
    cases t
    obtain ⟨as, rd⟩ := q.reads I e r p1
    have hsm : (pdOf d).hasDict = true → sysModules ∉ as := fun z => by
      rw [plain_noDict d p1] at z
      cases z
    have isr : ∃ a, v = .ref a := by
      cases q <;> first | exact ⟨_, rfl⟩ | (simp [isRefD] at p2)
    obtain ⟨a, rfl⟩ := isr
    cases r
    exact repr_of_reads' rd p3 hsm hg (by omega) (fun _ _ z => z) (fun h' u tk hk => ⟨.str _, H, I.kept hk, ⟨u, rfl⟩, hq⟩) p4
theorem cb_repr {K : PySem.W.Frag} {B : Base} {ρ : List Slot} {d : D} : CbD K B ρ (rRep K) [.val d] (R.guard (repOk d)) (fun _ => .val (.str (reprD d))) := fun G H σ vs Q E ok q => by
  obtain ⟨hc, q⟩ := R.post_guard q
  obtain ⟨v, rfl, r⟩ := ok.one
  exact ⟨v, G, d, rfl, E.sub, r, hc, q _ G H (Ex.refl G) (E.push (.str _))⟩
end
/-! ### tuples of one thing -/
@[reducible] def eP1 {α : Type} (f : α → D) (p : α) : D := .tuple [f p]
theorem fl_P1 {α : Type} {f : α → D} (h : ∀ x, Flat (f x)) (p : α) : Flat (eP1 f p) := by
  rw [eP1, Flat, FlatL, FlatL]
  exact ⟨h p, trivial⟩
/-! ### how long it is -/
mutual
/-- no texts, all ints of less than B signs -/
def shortD (B : Nat) : D → Prop
  | .none => True
  | .bool _ => True
  | .int i => i.natAbs < 10 ^ B
  | .list ds => shortDs B ds
  | .tuple ds => shortDs B ds
  | .row ds => shortDs B ds
  | .str _ => False
  | .scr _ => False
  | .dict _ => False
def shortDs (B : Nat) : List D → Prop
  | [] => True
  | d :: ds => shortD B d ∧ shortDs B ds
end
mutual
def wide (B : Nat) : D → Nat
  | .list ds => 3 + wides B ds
  | .tuple ds => 3 + wides B ds
  | .row ds => 3 + wides B ds
  | .none => B + 5
  | .bool _ => B + 5
  | .int _ => B + 5
  | .str _ => B + 5
  | .scr _ => B + 5
  | .dict _ => B + 5
def wides (B : Nat) : List D → Nat
  | [] => 0
  | d :: ds => (wide B d + 2) + wides B ds
end
mutual
def deepD : D → Nat
  | .list ds => deepDs ds + 1
  | .tuple ds => deepDs ds + 1
  | .row ds => deepDs ds + 1
  | .none => 0
  | .bool _ => 0
  | .int _ => 0
  | .str _ => 0
  | .scr _ => 0
  | .dict _ => 0
def deepDs : List D → Nat
  | [] => 0
  | d :: ds => max (deepD d) (deepDs ds)
end
theorem shown_int_len {B : Nat} (hB : 0 < B) {i : Int} (h : i.natAbs < 10 ^ B) : (PyData.shown (.int i)).length ≤ B + 1 := by
  rw [PyData.shown_int]
  show (Str.ofString (toString i)).length ≤ B + 1
  rw [PySem.ofString_length]
  exact int_text_length_le10 hB h
theorem log2_lt10 {B : Nat} (hB : B < 570) {i : Int} (h : i.natAbs < 10 ^ B) : i.natAbs.log2 < 1920 := by
  by_cases h0 : i.natAbs = 0
  · rw [h0]
    decide
  · refine (Nat.log2_lt h0).mpr (Nat.lt_of_lt_of_le h ?_)
    exact Nat.le_trans (Nat.pow_le_pow_right (by decide) (show B ≤ 570 by omega)) (by decide +kernel)
mutual
theorem shortD_ok {B : Nat} (h0 : 0 < B) (hB : B < 570) : ∀ d : D, shortD B d → plainD d = true ∧ (pdOf d).showable = true ∧ (pdOf d).depth = deepD d ∧ (pdOf d).shown.length ≤ wide B d
  | .none, h => by
    rw [plainD, pdOf, PyData.showable, PyData.depth, deepD, wide, PyData.shown_none]
    exact ⟨rfl, rfl, rfl, Nat.le_trans (show _ ≤ 5 by decide) (by omega)⟩
  | .bool b, h => by
    rw [plainD, pdOf, PyData.showable, PyData.depth, deepD, wide, PyData.shown_bool]
    refine ⟨rfl, rfl, rfl, Nat.le_trans (show _ ≤ 5 from ?_) (by omega)⟩
    cases b <;> decide
  | .int i, h => by
    rw [shortD] at h
    rw [plainD, pdOf, PyData.showable, PyData.depth, deepD, wide]
    exact ⟨rfl, decide_eq_true (log2_lt10 hB h), rfl, Nat.le_trans (shown_int_len h0 h) (by omega)⟩
  | .str _, h => by
    rw [shortD] at h
    exact h.elim
  | .scr _, h => by
    rw [shortD] at h
    exact h.elim
  | .dict _, h => by
    rw [shortD] at h
    exact h.elim
  | .list ds, h => by
    rw [shortD] at h
    obtain ⟨a, b, c, d⟩ := shortDs_ok h0 hB ds h
    rw [plainD, pdOf, PyData.showable, PyData.depth, deepD, wide, PyData.shown, a, b, c]
    refine ⟨rfl, rfl, rfl, Nat.le_trans (listText_len_le _) ?_⟩
    rw [PyData.shownAll_length]
    omega
  | .tuple ds, h => by
    rw [shortD] at h
    obtain ⟨a, b, c, d⟩ := shortDs_ok h0 hB ds h
    rw [plainD, pdOf, PyData.showable, PyData.depth, deepD, wide, PyData.shown, a, b, c]
    refine ⟨rfl, rfl, rfl, Nat.le_trans (tupleText_len_le _) ?_⟩
    rw [PyData.shownAll_length]
    omega
  | .row ds, h => by
    rw [shortD] at h
    obtain ⟨a, b, c, d⟩ := shortDs_ok h0 hB ds h
    rw [plainD, pdOf, PyData.showable, PyData.depth, deepD, wide, PyData.shown, a, b, c]
    refine ⟨rfl, rfl, rfl, Nat.le_trans (tupleText_len_le _) ?_⟩
    rw [PyData.shownAll_length]
    omega
theorem shortDs_ok {B : Nat} (h0 : 0 < B) (hB : B < 570) : ∀ ds : List D, shortDs B ds → plainDs ds = true ∧ PyData.showableAll (pdOfs ds) = true ∧ PyData.depthAll (pdOfs ds) = deepDs ds ∧ ((PyData.shownAll (pdOfs ds)).map (·.length)).sum + 2 * (pdOfs ds).length ≤ wides B ds
  | [], _ => by
    rw [plainDs, pdOfs, PyData.showableAll, PyData.depthAll, deepDs, wides, PyData.shownAll]
    exact ⟨rfl, rfl, rfl, Nat.le_refl _⟩
  | d :: ds, h => by
    rw [shortDs] at h
    obtain ⟨a, b, c, e⟩ := shortD_ok h0 hB d h.1
    obtain ⟨a2, b2, c2, e2⟩ := shortDs_ok h0 hB ds h.2
    rw [plainDs, pdOfs, PyData.showableAll, PyData.depthAll, deepDs, wides, PyData.shownAll, a, b, c, a2, b2, c2]
    refine ⟨rfl, rfl, rfl, ?_⟩
    rw [List.map_cons, List.sum_cons, List.length_cons]
    omega
end
theorem repOk_of {B : Nat} {d : D} (h0 : 0 < B) (hB : B < 570) (h : shortD B d) (hr : isRefD d = true) (hd : deepD d ≤ 60) (hw : wide B d ≤ 1000000) : repOk d := by
  obtain ⟨a, b, c, e⟩ := shortD_ok h0 hB d h
  exact ⟨a, hr, b, Nat.le_trans e (Nat.le_trans hw (by decide)), by rw [c]; exact hd⟩
/-- lists of things alike -/
theorem shortDs_map {α : Type} {B : Nat} {f : α → D} : ∀ {xs : List α}, (∀ x ∈ xs, shortD B (f x)) → shortDs B (xs.map f)
  | [], _ => by rw [List.map_nil, shortDs]; trivial
  | x :: xs, h => by
    rw [List.map_cons, shortDs]
    exact ⟨h x List.mem_cons_self, shortDs_map fun y m => h y (List.mem_cons_of_mem _ m)⟩
theorem wides_map {α : Type} {B c : Nat} {f : α → D} : ∀ {xs : List α}, (∀ x ∈ xs, wide B (f x) ≤ c) → wides B (xs.map f) ≤ xs.length * (c + 2)
  | [], _ => by rw [List.map_nil, wides]; exact Nat.zero_le _
  | x :: xs, h => by
    rw [List.map_cons, wides, List.length_cons, Nat.succ_mul]
    have h1 := h x List.mem_cons_self
    have h2 := wides_map (B := B) (c := c) (f := f) (xs := xs) fun y m => h y (List.mem_cons_of_mem _ m)
    omega
theorem deepDs_map {α : Type} {c : Nat} {f : α → D} : ∀ {xs : List α}, (∀ x ∈ xs, deepD (f x) ≤ c) → deepDs (xs.map f) ≤ c
  | [], _ => by rw [List.map_nil, deepDs]; exact Nat.zero_le _
  | x :: xs, h => by
    rw [List.map_cons, deepDs]
    exact Nat.max_le.mpr ⟨h x List.mem_cons_self, deepDs_map fun y m => h y (List.mem_cons_of_mem _ m)⟩
end DL

/-! DL24: more of equality -/
namespace DL
open PySem PySem.Spec L2
theorem EqE.up {α : Type} [DecidableEq α] {n : Nat} {f : α → D} (h : EqE n f) : EqE (n + 1) f := ⟨h.lay, fun x => Nat.le_succ_of_le (h.dep x), h.eqv⟩
theorem od_eqS {K : PySem.W.Frag} {B : Base} {i j : Str} : OpD K B rEq (.str i) (.str j) (.ok ()) (fun _ => .val (.bool (decide (i = j)))) := od_val0 (w := .bl (decide (i = j))) (fun G H vx vy Q _ hx hy q => by
  rw [hx.str_inv, hy.str_inv]
  refine ⟨rfl, ?_⟩
  have : decide (V.str i = V.str j) = decide (i = j) := decide_eq_decide.mpr ⟨fun h => by injection h, fun h => by rw [h]⟩
  rw [this]
  exact q) fun _ => .bl _
theorem od_neS {K : PySem.W.Frag} {B : Base} {i j : Str} : OpD K B rNe (.str i) (.str j) (.ok ()) (fun _ => .val (.bool (!decide (i = j)))) := od_val0 (w := .bl (!decide (i = j))) (fun G H vx vy Q _ hx hy q => by
  rw [hx.str_inv, hy.str_inv]
  refine ⟨rfl, ?_⟩
  have : decide (V.str i = V.str j) = decide (i = j) := decide_eq_decide.mpr ⟨fun h => by injection h, fun h => by rw [h]⟩
  rw [this]
  exact q) fun _ => .bl _
theorem ee_U : EqE 0 eU := ⟨fun _ => by simp [toPy, PyData.canLay0], fun _ => by simp [toPy, PyData.depth], fun x y => by
  simp [toPy, PyData.eqv]⟩
theorem ee_p1 {α : Type} [DecidableEq α] {n : Nat} {f : α → D} (hf : EqE n f) : EqE (n + 1) (eP1 f) := by
  refine ⟨fun x => ?_, fun x => ?_, fun x y => ?_⟩
  · simp [toPy, toPy.toPys, PyData.canLay0, PyData.canLayAll0, hf.lay]
  · have h1 := hf.dep x
    simp [toPy, toPy.toPys, PyData.depth, PyData.depthAll]
    omega
  · simp only [toPy, toPy.toPys, PyData.eqv, PyData.eqvAll, hf.eqv, Bool.and_true]
theorem ee_p4 {α β γ δ : Type} [DecidableEq α] [DecidableEq β] [DecidableEq γ] [DecidableEq δ] {n : Nat} {f : α → D} {g : β → D} {h : γ → D} {k : δ → D} (hf : EqE n f) (hg : EqE n g) (hh : EqE n h) (hk : EqE n k) : EqE (n + 1) (eP4 f g h k) := by
  refine ⟨fun x => ?_, fun x => ?_, fun x y => ?_⟩
  · simp [toPy, toPy.toPys, PyData.canLay0, PyData.canLayAll0, hf.lay, hg.lay, hh.lay, hk.lay]
  · have h1 := hf.dep x.1
    have h2 := hg.dep x.2.1
    have h3 := hh.dep x.2.2.1
    have h4 := hk.dep x.2.2.2
    simp [toPy, toPy.toPys, PyData.depth, PyData.depthAll]
    omega
  · obtain ⟨a, b, c, d⟩ := x
    obtain ⟨a', b', c', d'⟩ := y
    simp only [toPy, toPy.toPys, PyData.eqv, PyData.eqvAll, hf.eqv, hg.eqv, hh.eqv, hk.eqv, Bool.and_true]
    rw [← Bool.decide_and, ← Bool.decide_and, ← Bool.decide_and]
    exact decide_eq_decide.mpr ⟨fun h => by rw [h.1, h.2.1, h.2.2.1, h.2.2.2], fun h => by
      injection h with h1 h2
      injection h2 with h2 h3
      injection h3 with h3 h4
      exact ⟨h1, h2, h3, h4⟩⟩
/-! ### what may be None -/
@[reducible] def eO {α : Type} (f : α → D) : Option α → D
  | .none => .none
  | .some x => f x
/-- never None -/
def NotN {α : Type} (f : α → D) : Prop := ∀ x, PyData.eqv .none (toPy (f x)) = false ∧ PyData.eqv (toPy (f x)) .none = false
theorem ee_O {α : Type} [DecidableEq α] {n : Nat} {f : α → D} (hf : EqE n f) (nn : NotN f) : EqE n (eO f) := by
  refine ⟨fun x => ?_, fun x => ?_, fun x y => ?_⟩
  · cases x with
    | none => simp [toPy, PyData.canLay0]
    | some x => exact hf.lay x
  · cases x with
    | none => simp [toPy, PyData.depth]
    | some x => exact hf.dep x
  · cases x with
    | none =>
      cases y with
      | none => simp [toPy, PyData.eqv]
      | some y =>
        show PyData.eqv (toPy .none) (toPy (f y)) = _
        rw [toPy, (nn y).1]
        simp
    | some x =>
      cases y with
      | none =>
        show PyData.eqv (toPy (f x)) (toPy .none) = _
        rw [toPy, (nn x).2]
        simp
      | some y =>
        show PyData.eqv (toPy (f x)) (toPy (f y)) = _
        rw [hf.eqv]
        simp
theorem nn_int : NotN D.int := fun x => by simp [toPy, PyData.eqv]
theorem nn_str : NotN D.str := fun x => by simp [toPy, PyData.eqv]
theorem nn_bool : NotN D.bool := fun x => by simp [toPy, PyData.eqv]
theorem nn_T {α : Type} {f : α → D} : NotN (eT f) := fun x => by simp [toPy, PyData.eqv]
theorem nn_L {α : Type} {f : α → D} : NotN (eL f) := fun x => by simp [toPy, PyData.eqv]
theorem nn_P1 {α : Type} {f : α → D} : NotN (eP1 f) := fun x => by simp [toPy, PyData.eqv]
theorem nn_P2 {α β : Type} {f : α → D} {g : β → D} : NotN (eP2 f g) := fun x => by simp [toPy, PyData.eqv]
theorem nn_P3 {α β γ : Type} {f : α → D} {g : β → D} {h : γ → D} : NotN (eP3 f g h) := fun x => by simp [toPy, PyData.eqv]
theorem nn_P4 {α β γ δ : Type} {f : α → D} {g : β → D} {h : γ → D} {k : δ → D} : NotN (eP4 f g h k) := fun x => by simp [toPy, PyData.eqv]
end DL

/-! DL25: environments told outright -/
namespace DL
open PySem PySem.Spec L2
section
variable {X : Cx} {B : Base} {ρ : List Slot} {e a b : Expr} {es : List Expr} {rest : List Stmt} {pos : Pos} {N L T α : Type} {F : Fin N L T}
variable {CX : CXT} {k : Nat} {f : Addr} {fd : FuncData} {ps : List Str} {EE : XK} {x : Str} {p : Pos}
theorem je_callQE {α β γ : Type} {ins : α → List Slot} {mf : α → R β} {sl : β → Slot} {outs : β → List Slot} (F : FnG X.prog X.w X.K X.mg X.base CX k f fd ps (spM X.K ins mf sl outs)) (hr : RoomG k X.A) (hg : Gl X x) (hm : X.mg x = some (.ref f)) (hk : PySem.W.keepIn X.K (.ref f) = true)
    (hb : Binds X.K fd ps []) (hx : Passes CX X EE) {ma : R γ} {as : γ → List Ar} {ρa : γ → List Slot} (arg : γ → α) (ρ' : γ × β → List Slot) (ha : JA X B ρ (e :: es) ma as ρa) (hne : ∀ e, ¬ B.rs e) (hi : ∀ c, goodIn (ρa c) (as c) = true := by intro _; rfl) (hins : ∀ c, insAt 0 (ρa c) (as c) = ins (arg c) := by intro _; rfl)
    (ho : ∀ c b, goodOut 0 (as c) (outs b) = true := by intro _ _; rfl) (hal : ∀ c, aliOk (ρa c) (as c) = true := by intro _; rfl) (hres : ∀ b, resOk (sl b) = true := by intro _; rfl) (hρ : ∀ c b, backAt (ρa c) (movedAt (ρa c) (as c)) (as c) (outs b) = ρ' (c, b) := by intro _ _; rfl)
    (hdb : (x == ("__debug__" : Str)) = false := by decide) (he : starEach (e :: es) X.env = (false, eval e X.env) :: starEach es X.env := by rfl) (hpl : (backTo pos (starEach es X.env)).any (·.1) = false := by rfl) :
    JE X B ρ (.Call (.Name x p) (e :: es) [] pos) (ma.bind fun c => (mf (arg c)).bind fun b => .ok (c, b)) (fun y => sl y.2) ρ' := by
  have h := je_call (pos := pos) (p := p) F hr hg hm hk hb hx arg ha hne hi hins ho hal hres hdb he hpl
  have e1 : (fun y : γ × β => backAt (ρa y.1) (movedAt (ρa y.1) (as y.1)) (as y.1) (outs y.2)) = ρ' := funext fun y => hρ y.1 y.2
  rw [e1] at h
  exact h
theorem je_callQ {α β : Type} {ins : α → List Slot} {mf : α → R β} {sl : β → Slot} {outs : β → List Slot} (F : FnG X.prog X.w X.K X.mg X.base CX k f fd ps (spM X.K ins mf sl outs)) (hr : RoomG k X.A) (hg : Gl X x) (hm : X.mg x = some (.ref f)) (hk : PySem.W.keepIn X.K (.ref f) = true)
    (hb : Binds X.K fd ps []) (hx : Passes CX X EE) {as : List Ar} (arg : α) (ρ' : β → List Slot) (ha : JA X B ρ (e :: es) (.ok ()) (fun _ => as) (fun _ => ρ)) (hne : ∀ e, ¬ B.rs e) (hi : goodIn ρ as = true := by rfl) (hins : insAt 0 ρ as = ins arg := by rfl)
    (ho : ∀ b, goodOut 0 as (outs b) = true := by intro _; rfl) (hal : aliOk ρ as = true := by rfl) (hres : ∀ b, resOk (sl b) = true := by intro _; rfl) (hρ : ∀ b, backAt ρ (movedAt ρ as) as (outs b) = ρ' b := by intro _; rfl)
    (hdb : (x == ("__debug__" : Str)) = false := by decide) (he : starEach (e :: es) X.env = (false, eval e X.env) :: starEach es X.env := by rfl) (hpl : (backTo pos (starEach es X.env)).any (·.1) = false := by rfl) :
    JE X B ρ (.Call (.Name x p) (e :: es) [] pos) (mf arg) sl ρ' := by
  have h := je_callP (pos := pos) (p := p) F hr hg hm hk hb hx arg ha hne hi hins ho hal hres hdb he hpl
  have e1 : (fun y => backAt ρ (movedAt ρ as) as (outs y)) = ρ' := funext hρ
  rw [e1] at h
  exact h
theorem js_setPQ (i : Nat) {x : Str} {pos' : Pos} (en : α → D) (v : α) (ρ2 : α → List Slot) {k : α → R (Fl N L T)} (hN : X.N.Nodup) (h : JP X B ρ e (en v)) (r : ∀ x, JSs X B (ρ2 x) rest (k x) F) (hq : ∀ x, ρ.set i (.val (en x)) = ρ2 x := by intro _; rfl) (hi : X.N[i]? = some x := by rfl) (hx : Loc X.env.scope x := by first | exact Or.inl rfl | exact Or.inr rfl)
    (hlt : i < ρ.length := by exact of_decide_eq_true rfl) (hal : noAli i ρ = true := by rfl) (hs : swapsWith e (some (.Name x pos')) pos.line X.env = pure false := by rfl) (hf : X.fn x = true ∨ X.env.scope.names.lookup x = some .local := by first | exact .inl rfl | exact .inr rfl) :
    JSs X B ρ (.Assign [.Name x pos'] e pos :: rest) (lt v k) F :=
  js_setP i en v hN h (fun x => by rw [hq x]; exact r x) hi hx hlt hal hs hf
theorem js_setEQ (i : Nat) {x : Str} {pos' : Pos} (en : α → D) {β : Type} {m : R β} (v : β → α) {ρ' : β → List Slot} (ρ2 : β → α → List Slot) {k : β → α → R (Fl N L T)} (hN : X.N.Nodup) (h : JE X B ρ e m (fun b => .val (en (v b))) ρ') (r : ∀ b x, JSs X B (ρ2 b x) rest (k b x) F) (hq : ∀ b x, (ρ' b).set i (.val (en x)) = ρ2 b x := by intro _ _; rfl) (hi : X.N[i]? = some x := by rfl) (hx : Loc X.env.scope x := by first | exact Or.inl rfl | exact Or.inr rfl)
    (hlt : ∀ b, i < (ρ' b).length := by intro _; exact of_decide_eq_true rfl) (hal : ∀ b, noAli i (ρ' b) = true := by intro _; rfl) (hs : swapsWith e (some (.Name x pos')) pos.line X.env = pure false := by rfl) (hf : X.fn x = true ∨ X.env.scope.names.lookup x = some .local := by first | exact .inl rfl | exact .inr rfl) :
    JSs X B ρ (.Assign [.Name x pos'] e pos :: rest) (m.bind fun b => lt (v b) (k b)) F :=
  js_setE i en v hN h (fun b x => by rw [hq b x]; exact r b x) hi hx hlt hal hs hf
theorem js_setOQ (i : Nat) {x : Str} {pos' : Pos} (on : α → OT) {β : Type} {m : R β} (v : β → α) {ρ' : β → List Slot} (ρ2 : β → α → List Slot) {k : β → α → R (Fl N L T)} (hN : X.N.Nodup) (h : JE X B ρ e m (fun b => .own 0 (on (v b))) ρ') (r : ∀ b x, JSs X B (ρ2 b x) rest (k b x) F) (hq : ∀ b x, (ρ' b).set i (.own 0 (on x)) = ρ2 b x := by intro _ _; rfl) (hi : X.N[i]? = some x := by rfl) (hx : Loc X.env.scope x := by first | exact Or.inl rfl | exact Or.inr rfl)
    (hlt : ∀ b, i < (ρ' b).length := by intro _; exact of_decide_eq_true rfl) (hal : ∀ b, noAli i (ρ' b) = true := by intro _; rfl) (hs : swapsWith e (some (.Name x pos')) pos.line X.env = pure false := by rfl) (hf : X.fn x = true ∨ X.env.scope.names.lookup x = some .local := by first | exact .inl rfl | exact .inr rfl) :
    JSs X B ρ (.Assign [.Name x pos'] e pos :: rest) (m.bind fun b => lt (v b) (k b)) F :=
  js_setO i on v hN h (fun b x => by rw [hq b x]; exact r b x) hi hx hlt hal hs hf
theorem js_consQ1 {st : Stmt} {β : Type} {m : R β} {ρ' : β → List Slot} (ρ2 : β → List Slot) {k : β → R (Fl N L T)} (h : J1 X B ρ st m ρ') (r : ∀ b, JSs X B (ρ2 b) rest (k b) F) (hq : ∀ b, ρ' b = ρ2 b := by intro _; rfl) : JSs X B ρ (st :: rest) (m.bind k) F :=
  js_cons1 h fun b => by rw [hq b]; exact r b
theorem js_consQP {st : Stmt} {ρ' : List Slot} (ρ2 : List Slot) {k : R (Fl N L T)} (h : J1 X B ρ st (.ok ()) (fun _ => ρ')) (r : JSs X B ρ2 rest k F) (hq : ρ' = ρ2 := by rfl) : JSs X B ρ (st :: rest) k F :=
  js_consP h (by rw [hq]; exact r)
end
end DL

/-! DM1: plain laws about mirrors -/
namespace DL
open PySem L2

section
variable {α β γ N N1 L T S : Type}
theorem bind_ok (a : α) (f : α → R β) : (R.ok a).bind f = f a := rfl
theorem bind_assoc (m : R α) (f : α → R β) (g : β → R γ) : (m.bind f).bind g = m.bind fun a => (f a).bind g := by cases m <;> rfl
theorem lt_eq (v : α) (k : α → β) : lt v k = k v := rfl
theorem bindF_nx (n : N1) (k : N1 → R (Fl N L T)) : bindF (.ok (.nx n)) k = k n := rfl
theorem bindF_rt (t : T) (k : N1 → R (Fl N L T)) : bindF (.ok (.rt t)) k = .ok (.rt t) := rfl
theorem bindF_ct (t : L) (k : N1 → R (Fl N L T)) : bindF (.ok (.ct t)) k = .ok (.ct t) := rfl
theorem bindF_bk (t : L) (k : N1 → R (Fl N L T)) : bindF (.ok (.bk t)) k = .ok (.bk t) := rfl
theorem fin0_rt (t : T) : fin0 (.ok (.rt t) : R (Fl N L T)) = .ok t := rfl
theorem finN_nx (t : N) : finN (.ok (.nx t) : R (Fl N L T)) = .ok t := rfl
theorem guard_ok {c : Prop} [Decidable c] (h : c) : R.guard c = .ok () := if_pos h
theorem some_ok (a : α) : R.some (.some a) = .ok a := rfl
theorem and2_ok (a : α) (f : α → Bool) (m : R Bool) : and2 (.ok a) f m = if f a = true then m else .ok false := rfl
theorem or2_ok (a : α) (f : α → Bool) (m : R Bool) : or2 (.ok a) f m = if f a = true then .ok true else m := rfl
theorem op2_ok {δ : Type} (a : α) (f : α → R β) (g : α → β → R δ) : op2 (.ok a) f g = (f a).bind fun y => (g a y).bind fun z => .ok (a, y, z) := rfl
/-- a loop that goes through -/
theorem forR_ok {f : α → S → R (Fl S S T)} (P : S → Prop) : ∀ {xs : List α} {s : S}, P s → (∀ x ∈ xs, ∀ s, P s → ∃ s', (f x s = .ok (.nx s') ∨ f x s = .ok (.ct s')) ∧ P s') → ∃ s', (forR f xs s : R (Fl S L T)) = .ok (.nx s') ∧ P s'
  | [], s, h, _ => ⟨s, rfl, h⟩
  | x :: xs, s, h, k => by
    obtain ⟨s', h1, h2⟩ := k x (List.mem_cons_self) s h
    obtain ⟨s2, h3, h4⟩ := forR_ok P (xs := xs) h2 fun y m => k y (List.mem_cons_of_mem _ m)
    refine ⟨s2, ?_, h4⟩
    rw [forR]
    rcases h1 with h1 | h1 <;> rw [h1] <;> exact h3
/-- .. with the turn told -/
theorem forR_okI {f : α → S → R (Fl S S T)} (P : Nat → S → Prop) : ∀ {xs : List α} {i : Nat} {s : S}, P i s → (∀ (k : Nat) x, xs[k]? = some x → ∀ s, P (i + k) s → ∃ s', (f x s = .ok (.nx s') ∨ f x s = .ok (.ct s')) ∧ P (i + k + 1) s') → ∃ s', (forR f xs s : R (Fl S L T)) = .ok (.nx s') ∧ P (i + xs.length) s'
  | [], i, s, h, _ => ⟨s, rfl, h⟩
  | x :: xs, i, s, h, k => by
    obtain ⟨s', h1, h2⟩ := k 0 x rfl s h
    obtain ⟨s2, h3, h4⟩ := forR_okI P (xs := xs) (i := i + 1) h2 fun j y m s hs => by
      have := k (j + 1) y (by simpa using m) s (by rw [show i + (j + 1) = i + 1 + j by omega]; exact hs)
      rw [show i + (j + 1) + 1 = i + 1 + j + 1 by omega] at this
      exact this
    refine ⟨s2, ?_, by rw [List.length_cons, show i + (xs.length + 1) = i + 1 + xs.length by omega]; exact h4⟩
    rw [forR]
    rcases h1 with h1 | h1 <;> rw [h1] <;> exact h3
theorem whR_true {c : S → R Bool} {f : S → R (Fl S S T)} {s s' : S} {y : Fl S L T} (hc : c s = .ok true) (hf : f s = .ok (.nx s')) (h : whR (L := L) c f s' = .ok y) : whR (L := L) c f s = .ok y := by
  have hx : ∃ n, whN (L := L) c f n s' ≠ .bad := by
    apply Classical.byContradiction
    intro z
    unfold whR at h
    rw [dif_neg z] at h
    cases h
  obtain ⟨n, hn⟩ := hx
  rw [whR_of hn] at h
  have e : whN (L := L) c f (n + 1) s = .ok y := by
    rw [whN, hc]
    simp only [R.bind, if_true, hf]
    exact h
  have e2 : whN (L := L) c f (n + 1) s ≠ .bad := by
    rw [e]
    exact fun z => nomatch z
  rw [whR_of e2]
  exact e
theorem whR_false {c : S → R Bool} {f : S → R (Fl S S T)} {s : S} (hc : c s = .ok false) : whR (L := L) c f s = .ok (.nx s) := by
  have e : whN (L := L) c f 1 s = .ok (.nx s) := by
    rw [whN, hc]
    rfl
  rw [whR_of (n := 1) (by rw [e]; exact fun z => nomatch z)]
  exact e
end
/-! ### numbers -/
theorem mulx {i j : Int} (a : Nat) (hi : i.natAbs < 2 ^ a) (hj : j.natAbs < 2 ^ a) (h : a ≤ 67108864 := by decide) : CMulX i j := mulx_ok hi hj (by omega)
theorem div_ok {i j : Int} (h : j ≠ 0) (hj : j.natAbs < 2 ^ 8000) : divOk i j := by
  refine ⟨h, PyProof.noPylong_of_log2 ?_⟩
  have := (Nat.log2_lt (n := j.natAbs) (k := 8000) (by omega)).mpr hj
  omega
theorem divp_ok' {i j : Int} (h : 0 < j) (hj : j < 2 ^ 8000) : CDivP i j := ⟨h, (div_ok (i := i) (j := j) (by omega) (by omega)).2⟩
theorem rng_ok {i : Int} (h : 0 ≤ i) (h2 : i < 1000000) : rngOk i := ⟨by omega, by omega⟩
theorem mem_rng {lo hi x : Int} (h : x ∈ rng lo hi) : lo ≤ x ∧ x < hi := by
  unfold rng at h
  obtain ⟨k, hk, rfl⟩ := List.mem_map.mp h
  have := List.mem_range.mp hk
  omega
/-- two whole numbers cleared: what stands behind -/
theorem fr_low {n d g : Int} (hg : g = (if d < 0 then -(Int.gcd n d : Int) else (Int.gcd n d : Int))) (hd : d ≠ 0) : g ≠ 0 ∧ n.fdiv g * g = n ∧ d.fdiv g * g = d ∧ 0 < d.fdiv g ∧ Int.gcd (n.fdiv g) (d.fdiv g) = 1 := by
  have h0 : 0 < Int.gcd n d := Nat.pos_of_ne_zero fun z => hd (Int.gcd_eq_zero_iff.mp z).2
  have hn : (Int.gcd n d : Int) ∣ n := Int.gcd_dvd_left ..
  have hdd : (Int.gcd n d : Int) ∣ d := Int.gcd_dvd_right ..
  have hg0 : g ≠ 0 := by
    rw [hg]
    split <;> omega
  have gn : g ∣ n := by
    rw [hg]
    split
    · exact Int.neg_dvd.mpr hn
    · exact hn
  have gd : g ∣ d := by
    rw [hg]
    split
    · exact Int.neg_dvd.mpr hdd
    · exact hdd
  have e1 : n.fdiv g * g = n := Int.fdiv_mul_cancel gn
  have e2 : d.fdiv g * g = d := Int.fdiv_mul_cancel gd
  refine ⟨hg0, e1, e2, ?_, ?_⟩
  · have hs : 0 < d.fdiv g * g * g := by
      rw [e2, hg]
      split
      · rename_i h
        exact Int.mul_pos_of_neg_of_neg h (by omega)
      · rename_i h
        exact Int.mul_pos (by omega) (by omega)
    have hgg : 0 < g * g := by
      rcases Int.lt_or_gt_of_ne hg0 with h | h
      · exact Int.mul_pos_of_neg_of_neg h h
      · exact Int.mul_pos h h
    rw [Int.mul_assoc] at hs
    apply Classical.byContradiction
    intro z
    have := Int.mul_nonneg (show 0 ≤ -(d.fdiv g) by omega) (Int.le_of_lt hgg)
    rw [Int.neg_mul] at this
    omega
  · have hgcd : Int.gcd (n.fdiv g * g) (d.fdiv g * g) = Int.gcd (n.fdiv g) (d.fdiv g) * g.natAbs := Int.gcd_mul_right ..
    rw [e1, e2] at hgcd
    have ga : g.natAbs = Int.gcd n d := by
      rw [hg]
      split <;> simp
    rw [ga] at hgcd
    have : Int.gcd n d * 1 = Int.gcd n d * Int.gcd (n.fdiv g) (d.fdiv g) := by
      rw [Nat.mul_one, Nat.mul_comm]
      exact hgcd
    exact (Nat.eq_of_mul_eq_mul_left h0 this).symm
theorem cell_ok (ns : List Int) (k : Int) (h0 : 0 ≤ k) : ∃ c, atI (cut ns (some k) (some (k + (1 : Int))) ++ [(0 : Int)]) (0 : Int) = some c ∧ (cut ns (some k) (some (k + (1 : Int)))).length ≤ 1 := by
  have hc : (cut ns (some k) (some (k + 1))).length ≤ 1 := by
    unfold cut
    rw [List.length_take]
    simp only [HT.sIx]
    rw [if_neg (by omega), if_neg (by omega)]
    omega
  generalize cut ns (some k) (some (k + 1)) = l at *
  match l, hc with
  | [], _ => exact ⟨0, rfl, by simp⟩
  | [c], _ => exact ⟨c, rfl, by simp⟩
theorem line_ok {n : Nat} (h : n ≤ 1000) : n ≤ sizeLine := Nat.le_of_lt (small1000 h)
end DL

/-! DM2: mirrors step by step -/
namespace DL
open PySem L2
/-- it comes to a value, of which P holds -/
def Ok {α : Type} (m : R α) (P : α → Prop) : Prop := ∃ a, m = .ok a ∧ P a
/-- what holds of a block's ends -/
def fl {N L T : Type} (Pn : N → Prop) (Pc Pb : L → Prop) (Pt : T → Prop) : Fl N L T → Prop
  | .nx n => Pn n
  | .ct l => Pc l
  | .bk l => Pb l
  | .rt t => Pt t
/-- .. of one that just goes on or returns -/
abbrev fn {N L T : Type} (Pn : N → Prop) (Pt : T → Prop) : Fl N L T → Prop := fl Pn (fun _ => False) (fun _ => False) Pt
namespace Ok
section
variable {α β γ δ ε N N1 L T S : Type}
theorem ret {a : α} {P : α → Prop} (h : P a) : Ok (.ok a) P := ⟨a, rfl, h⟩
theorem mono {m : R α} {P Q : α → Prop} (h : Ok m P) (k : ∀ a, P a → Q a) : Ok m Q := let ⟨a, e, p⟩ := h; ⟨a, e, k a p⟩
theorem bind {m : R α} {f : α → R β} {P : α → Prop} {Q : β → Prop} (h : Ok m P) (k : ∀ a, P a → Ok (f a) Q) : Ok (m.bind f) Q := by
  obtain ⟨a, rfl, p⟩ := h
  exact k a p
theorem bind1 {m : R α} {f : α → R β} {Q : β → Prop} {a : α} (h : m = .ok a) (k : Ok (f a) Q) : Ok (m.bind f) Q := by
  rw [h]
  exact k
theorem of_eq {m : R α} {a : α} {Q : α → Prop} (h : m = .ok a) (k : Q a) : Ok m Q := ⟨a, h, k⟩
theorem eq {m : R α} {a : α} (h : Ok m (fun b => b = a)) : m = .ok a := by
  obtain ⟨b, e, rfl⟩ := h
  exact e
theorem grd {c : Prop} [Decidable c] {P : Unit → Prop} (h : c) (k : P ()) : Ok (R.guard c) P := ⟨(), guard_ok h, k⟩
theorem grdB {c : Prop} [Decidable c] {f : Unit → R β} {Q : β → Prop} (h : c) (k : Ok (f ()) Q) : Ok ((R.guard c).bind f) Q := bind1 (guard_ok h) k
theorem som {o : Option α} {a : α} {P : α → Prop} (h : o = .some a) (k : P a) : Ok (R.some o) P := ⟨a, by rw [h]; rfl, k⟩
theorem somB {o : Option α} {a : α} {f : α → R β} {Q : β → Prop} (h : o = .some a) (k : Ok (f a) Q) : Ok ((R.some o).bind f) Q := bind1 (by rw [h]; rfl) k
theorem okB {a : α} {f : α → R β} {Q : β → Prop} (k : Ok (f a) Q) : Ok ((R.ok a).bind f) Q := k
theorem ltI {v : α} {k : α → R β} {Q : β → Prop} (h : Ok (k v) Q) : Ok (lt v k) Q := h
theorem ite {b : Bool} {m m' : R α} {Q : α → Prop} (h1 : b = true → Ok m Q) (h2 : b = false → Ok m' Q) : Ok (if b = true then m else m') Q := by
  cases b with
  | true => exact h1 rfl
  | false => exact h2 rfl
theorem iteT {b : Bool} {m m' : R α} {Q : α → Prop} (h : b = true) (h1 : Ok m Q) : Ok (if b = true then m else m') Q := by rw [if_pos h]; exact h1
theorem iteF {b : Bool} {m m' : R α} {Q : α → Prop} (h : b = false) (h1 : Ok m' Q) : Ok (if b = true then m else m') Q := by rw [if_neg (by rw [h]; decide)]; exact h1
theorem bF {m : R (Fl N1 L T)} {k : N1 → R (Fl N L T)} {Pn : N1 → Prop} {Qn : N → Prop} {Pc Pb : L → Prop} {Pt : T → Prop} (h : Ok m (fl Pn Pc Pb Pt)) (r : ∀ n, Pn n → Ok (k n) (fl Qn Pc Pb Pt)) : Ok (bindF m k) (fl Qn Pc Pb Pt) := by
  obtain ⟨a, rfl, p⟩ := h
  cases a with
  | nx n => exact r n p
  | ct n => exact ⟨_, rfl, p⟩
  | bk n => exact ⟨_, rfl, p⟩
  | rt n => exact ⟨_, rfl, p⟩
theorem nx {n : N} {Pn : N → Prop} {Pc Pb : L → Prop} {Pt : T → Prop} (h : Pn n) : Ok (.ok (.nx n) : R (Fl N L T)) (fl Pn Pc Pb Pt) := ⟨_, rfl, h⟩
theorem rt {n : T} {Pn : N → Prop} {Pc Pb : L → Prop} {Pt : T → Prop} (h : Pt n) : Ok (.ok (.rt n) : R (Fl N L T)) (fl Pn Pc Pb Pt) := ⟨_, rfl, h⟩
theorem ct {n : L} {Pn : N → Prop} {Pc Pb : L → Prop} {Pt : T → Prop} (h : Pc n) : Ok (.ok (.ct n) : R (Fl N L T)) (fl Pn Pc Pb Pt) := ⟨_, rfl, h⟩
theorem bk {n : L} {Pn : N → Prop} {Pc Pb : L → Prop} {Pt : T → Prop} (h : Pb n) : Ok (.ok (.bk n) : R (Fl N L T)) (fl Pn Pc Pb Pt) := ⟨_, rfl, h⟩
theorem f0 {m : R (Fl N L T)} {P : T → Prop} (h : Ok m (fl (fun _ => False) (fun _ => False) (fun _ => False) P)) : Ok (fin0 m) P := by
  obtain ⟨a, rfl, p⟩ := h
  cases a with
  | rt t => exact ⟨t, rfl, p⟩
  | nx _ => exact p.elim
  | ct _ => exact p.elim
  | bk _ => exact p.elim
theorem fN {m : R (Fl N L T)} {P : N → Prop} (h : Ok m (fl P (fun _ => False) (fun _ => False) (fun _ => False))) : Ok (finN m) P := by
  obtain ⟨a, rfl, p⟩ := h
  cases a with
  | nx t => exact ⟨t, rfl, p⟩
  | rt _ => exact p.elim
  | ct _ => exact p.elim
  | bk _ => exact p.elim
theorem and2 {ma : R α} {xa : α → Bool} {mb : R Bool} {P : α → Prop} {Q : Bool → Prop} (h : Ok ma P) (k1 : ∀ a, P a → xa a = true → Ok mb Q) (k2 : ∀ a, P a → xa a = false → Q false) : Ok (DL.and2 ma xa mb) Q := by
  obtain ⟨a, rfl, p⟩ := h
  unfold DL.and2
  cases e : xa a with
  | true => exact bind1 rfl (iteT e (k1 a p e))
  | false => exact bind1 rfl (iteF e (ret (k2 a p e)))
theorem or2 {ma : R α} {xa : α → Bool} {mb : R Bool} {P : α → Prop} {Q : Bool → Prop} (h : Ok ma P) (k1 : ∀ a, P a → xa a = true → Q true) (k2 : ∀ a, P a → xa a = false → Ok mb Q) : Ok (DL.or2 ma xa mb) Q := by
  obtain ⟨a, rfl, p⟩ := h
  unfold DL.or2
  cases e : xa a with
  | true => exact bind1 rfl (iteT e (ret (k1 a p e)))
  | false => exact bind1 rfl (iteF e (k2 a p e))
theorem op2 {ma : R α} {mb : α → R β} {mr : α → β → R γ} {P : α → Prop} {P2 : α → β → Prop} {Q : α × β × γ → Prop} (h : Ok ma P) (k : ∀ a, P a → Ok (mb a) (P2 a)) (r : ∀ a b, P a → P2 a b → Ok (mr a b) fun c => Q (a, b, c)) : Ok (DL.op2 ma mb mr) Q := by
  unfold DL.op2
  refine h.bind fun a pa => (k a pa).bind fun b pb => (r a b pa pb).bind fun c q => ret q
/-- a loop by the turn told -/
theorem forR {f : α → S → R (Fl S S T)} (I : Nat → S → Prop) {Pn : S → Prop} {Pc Pb : L → Prop} {Pt : T → Prop} {xs : List α} {s : S} (h0 : I 0 s)
    (hs : ∀ i x s, xs[i]? = some x → I i s → Ok (f x s) (fl (I (i + 1)) (I (i + 1)) Pn Pt)) (hn : ∀ s, I xs.length s → Pn s) : Ok (DL.forR f xs s : R (Fl S L T)) (fl Pn Pc Pb Pt) := by
  have go : ∀ (ys : List α) (i : Nat) (s : S), (∀ k, ys[k]? = xs[i + k]?) → i + ys.length = xs.length → I i s → Ok (DL.forR f ys s : R (Fl S L T)) (fl Pn Pc Pb Pt) := by
    intro ys
    induction ys with
    | nil =>
      intro i s hk hl h
      rw [List.length_nil, Nat.add_zero] at hl
      exact ⟨_, rfl, hn s (hl ▸ h)⟩
    | cons y ys ih =>
      intro i s hk hl h
      have h1 := hs i y s (by rw [← Nat.add_zero i, ← hk 0]; rfl) h
      have nxt : ∀ s', I (i + 1) s' → Ok (DL.forR f ys s' : R (Fl S L T)) (fl Pn Pc Pb Pt) := fun s' h' => ih (i + 1) s' (fun k => by
        have := hk (k + 1)
        rw [show i + 1 + k = i + (k + 1) by omega, ← this]
        rfl) (by rw [List.length_cons] at hl; omega) h'
      obtain ⟨a, e, p⟩ := h1
      rw [DL.forR, e]
      cases a with
      | nx s' => exact nxt s' p
      | ct s' => exact nxt s' p
      | bk s' => exact ⟨_, rfl, p⟩
      | rt t => exact ⟨_, rfl, p⟩
  exact go xs 0 s (fun k => by rw [Nat.zero_add]) (by rw [Nat.zero_add]) h0
/-- .. one invariant for all turns -/
theorem forC {f : α → S → R (Fl S S T)} (I : S → Prop) {Pc Pb : L → Prop} {Pt : T → Prop} {xs : List α} {s : S} (h0 : I s)
    (hs : ∀ x ∈ xs, ∀ s, I s → Ok (f x s) (fl I I I Pt)) : Ok (DL.forR f xs s : R (Fl S L T)) (fl I Pc Pb Pt) :=
  forR (fun _ => I) h0 (fun i x s e h => hs x (List.mem_of_getElem? e) s h) fun _ h => h
theorem whR {c : S → R Bool} {f : S → R (Fl S S T)} (I : S → Prop) (μ : S → Nat) {Pn : S → Prop} {Pc Pb : L → Prop} {Pt : T → Prop} {s : S} (h0 : I s)
    (hs : ∀ s, I s → ∃ b, c s = .ok b ∧ (b = true → Ok (f s) (fl (fun s' => I s' ∧ μ s' < μ s) (fun s' => I s' ∧ μ s' < μ s) Pn Pt)) ∧ (b = false → Pn s)) : Ok (DL.whR c f s : R (Fl S L T)) (fl Pn Pc Pb Pt) := by
  have go : ∀ (n : Nat) (s : S), μ s < n → I s → ∃ r : Fl S L T, (DL.whN c f n s : R (Fl S L T)) = .ok r ∧ fl Pn Pc Pb Pt r := by
    intro n
    induction n with
    | zero => intro s h; omega
    | succ n ih =>
      intro s hm h
      obtain ⟨b, e, h1, h2⟩ := hs s h
      rw [DL.whN, e]
      cases b with
      | false => exact ⟨_, rfl, h2 rfl⟩
      | true =>
        obtain ⟨a, e2, p⟩ := h1 rfl
        simp only [R.bind, if_true, e2]
        cases a with
        | nx s' => exact ih s' (by have := p.2; omega) p.1
        | ct s' => exact ih s' (by have := p.2; omega) p.1
        | bk s' => exact ⟨_, rfl, p⟩
        | rt t => exact ⟨_, rfl, p⟩
  obtain ⟨r, e, p⟩ := go (μ s + 1) s (Nat.lt_succ_self _) h0
  refine ⟨r, ?_, p⟩
  rw [whR_of (n := μ s + 1) (by rw [e]; exact fun z => nomatch z)]
  exact e
theorem compF {c : α → S → R δ} {bn : δ → Bool} {me : α → S → R ε} {v : ε → γ} {st : ε → S} {x : α} {s : S} {P : δ → Prop} {Q : Option γ × S → Prop} (h : Ok (c x s) P) (k1 : ∀ d, P d → bn d = true → Ok (me x s) fun y => Q (some (v y), st y)) (k2 : ∀ d, P d → bn d = false → Q (none, s)) :
    Ok (DL.compF c bn me v st x s) Q := by
  unfold DL.compF
  refine h.bind fun d p => ite (fun e => (k1 d p e).bind fun y q => ret q) fun e => ret (k2 d p e)
/-- a comprehension by the turn told -/
theorem compR {f : α → S → R (Option γ × S)} (I : Nat → List γ → S → Prop) {xs : List α} {s : S} (h0 : I 0 [] s)
    (hs : ∀ i x acc s, xs[i]? = some x → I i acc s → Ok (f x s) fun p => I (i + 1) (match p.1 with | some v => acc ++ [v] | none => acc) p.2) : Ok (DL.compR f xs [] s) fun p => I xs.length p.1 p.2 := by
  have go : ∀ (ys : List α) (i : Nat) (acc : List γ) (s : S), (∀ k, ys[k]? = xs[i + k]?) → i + ys.length = xs.length → I i acc s → Ok (DL.compR f ys acc s) fun p => I xs.length p.1 p.2 := by
    intro ys
    induction ys with
    | nil =>
      intro i acc s hk hl h
      rw [List.length_nil, Nat.add_zero] at hl
      exact ⟨_, rfl, hl ▸ h⟩
    | cons y ys ih =>
      intro i acc s hk hl h
      have h1 := hs i y acc s (by rw [← Nat.add_zero i, ← hk 0]; rfl) h
      rw [DL.compR]
      refine h1.bind fun p q => ih (i + 1) _ _ (fun k => by
        have := hk (k + 1)
        rw [show i + 1 + k = i + (k + 1) by omega, ← this]
        rfl) (by rw [List.length_cons] at hl; omega) q
  exact go xs 0 [] s (fun k => by rw [Nat.zero_add]) (by rw [Nat.zero_add]) h0
end
end Ok
theorem rng_get {lo hi : Int} {i : Nat} {x : Int} (h : (rng lo hi)[i]? = some x) : x = lo + i ∧ x < hi := by
  unfold rng at h
  rw [List.getElem?_map] at h
  cases e : (List.range (hi - lo).toNat)[i]? with
  | none => rw [e] at h; cases h
  | some k =>
    rw [e] at h
    have h : lo + (k : Int) = x := by simpa using h
    obtain ⟨h1, h2⟩ := List.getElem?_eq_some_iff.mp e
    rw [List.getElem_range] at h2
    rw [List.length_range] at h1
    omega
theorem rng_len (lo hi : Int) : (rng lo hi).length = (hi - lo).toNat := by
  unfold rng
  rw [List.length_map, List.length_range]
theorem atI_nat {α : Type} {l : List α} {k : Int} {x : α} (h0 : 0 ≤ k) (h : l[k.toNat]? = some x) : atI l k = some x := by
  have hl := (List.getElem?_eq_some_iff.mp h).1
  unfold atI ixN
  rw [if_pos h0, if_pos (by omega)]
  exact h
theorem ixN_nat {n : Nat} {k : Int} (h0 : 0 ≤ k) (h : k < n) : ixN n k = some k.toNat := by
  unfold ixN
  rw [if_pos h0, if_pos (by omega)]
theorem atI_ok {α : Type} {l : List α} {k : Int} (h0 : 0 ≤ k) (h : k < l.length) : ∃ x, atI l k = some x ∧ l[k.toNat]? = some x ∧ x ∈ l := by
  have hk : k.toNat < l.length := by omega
  exact ⟨l[k.toNat], atI_nat h0 (List.getElem?_eq_getElem hk), List.getElem?_eq_getElem hk, List.getElem_mem hk⟩
end DL

namespace W
open PySem PySem.Spec L2 DL
def topS (i : Nat) : Stmt := PySem.Challenge.pw_restdraw_k37_farthest.main.body.getD i (.Pass ⟨0, 0, 0, 0⟩)
structure Top (K : PySem.W.Frag) (mg : Str → Option Value) where
  law_pot : DT K mg "_law_pot" (topS 11) ["_law_script", "_law_k"]
  law_digit : DT K mg "_law_digit" (topS 12) ["_law_pot_here", "_law_many"]
  law_common : DT K mg "_law_common" (topS 13) ["_law_one", "_law_other"]
  law_cut : DT K mg "_law_cut" (topS 14) ["_law_n", "_law_d"]
  law_fraction : DT K mg "_law_fraction" (topS 15) ["_law_pot_here", "_law_most"]
  law_drawing : DT K mg "_law_drawing" (topS 16) ["_law_pot_here", "_law_many", "_law_most"]
  law_put : DT K mg "_law_put" (topS 17) ["_law_pot_here", "_law_drawing_here", "_law_most"]
  law_is : DT K mg "_law_is" (topS 20) ["_law_found", "_law_due_here"]
  without_sign : DT K mg "without_sign" (topS 6) ["one"]
  divisor : DT K mg "divisor" (topS 1) ["one", "other"]
  fraction : DT K mg "fraction" (topS 2) ["n", "d"]
  less : DT K mg "less" (topS 3) ["one", "other"]
  sign : DT K mg "sign" (topS 4) ["one"]
  greater : DT K mg "greater" (topS 7) ["one", "other"]
  gap : DT K mg "gap" (topS 8) ["point", "other"]
  farthest : DT K mg "farthest" (topS 9) ["drawing", "other"]
  law_off : DT K mg "_law_off" (topS 18) ["_law_one", "_law_other"]
  law_due : DT K mg "_law_due" (topS 19) ["_law_drawing_here", "_law_other"]
  law : DT K mg "law" (topS 21) ["_law_script"]
  z_abs : mg "abs" = none
  z_any : mg "any" = none
  z_bool : mg "bool" = none
  z_divmod : mg "divmod" = none
  z_int : mg "int" = none
  z_isinstance : mg "isinstance" = none
  z_len : mg "len" = none
  z_list : mg "list" = none
  z_max : mg "max" = none
  z_min : mg "min" = none
  z_range : mg "range" = none
  z_repr : mg "repr" = none
  z_tuple : mg "tuple" = none
/-! law_pot -/
abbrev s_law_pot : Stmt := topS 11
theorem sc_law_pot : FnScope ["_law_script", "_law_k", "_law_cell"] ["_law_script", "_law_k"] (defScope s_law_pot) := ⟨rfl, rfl, rfl, by decide +kernel, rfl, by decide +kernel, by decide +kernel⟩
noncomputable def mb_law_pot (v_script : List Int) (v_k : Int) : R (Fl Unit Unit (List Int)) :=
(((R.guard (List.length (cut v_script (some v_k) (some (v_k + (1 : Int)))) + List.length [(0 : Int)] ≤ sizeLine)).bind fun (x13 : Unit) => (R.some (atI ((cut v_script (some v_k) (some (v_k + (1 : Int)))) ++ [(0 : Int)]) (0 : Int))).bind fun (z15 : Int) => R.ok (x13, z15)).bind fun (b17 : (Unit × Int)) => lt b17.2 fun v_cell_16 =>
(R.ok (.rt [(max (0 : Int) (v_cell_16 - ((10 : Int) ^ (Int.toNat (18 : Int))))), (((((if v_cell_16 < 0 then -v_cell_16 else v_cell_16) + ((7919 : Int) * v_k)) + (3 : Int)) % (2147483629 : Int)) + (1 : Int))])))
noncomputable def m_law_pot (a : (List Int × Int)) : R (List Int) := fin0 (mb_law_pot a.1 a.2)
abbrev i_law_pot (a : (List Int × Int)) : List Slot := [.val (D.scr a.1), .val (D.int a.2)]
abbrev l_law_pot (b : (List Int)) : Slot := .own 0 ((oL D.int) b)
abbrev o_law_pot (b : (List Int)) : List Slot := [.non, .non]
theorem ok_law_pot {P : Program} {w : World} {K : PySem.W.Frag} {mg : Str → Option Value} {base : Heap} (T : Top K mg) : FnG P w K mg base CX0 1 T.law_pot.a T.law_pot.d ["_law_script", "_law_k"] (spM K i_law_pot m_law_pot l_law_pot o_law_pot) := by
  show FnG P w K mg base CX0 (0 + 1) T.law_pot.a T.law_pot.d ["_law_script", "_law_k"] (spM K i_law_pot (fun (a : (List Int × Int)) => fin0 (mb_law_pot a.1 a.2)) l_law_pot o_law_pot)
  refine fn_ok (n1 := fun _ => []) (c1 := fun _ => []) (k1 := fun _ => []) (ins := i_law_pot) (sl := l_law_pot) (outs := o_law_pot) (fun (a : (List Int × Int)) => mb_law_pot a.1 a.2) 1 T.law_pot.f sc_law_pot rfl (fun _ => rfl) (fun _ => rfl) (fun _ => rfl) (fun cdv A outer s H E hr B hB a => ?_)
  show JSs _ B _ _ (mb_law_pot a.1 a.2) _
  unfold mb_law_pot
  exact ((js_setEQ 2 D.int (fun (b17 : (Unit × Int)) => b17.2) (fun (b17 : (Unit × Int)) (v_cell_16 : Int) => [.val (D.scr a.1), .val (D.int a.2), .val (D.int v_cell_16)]) sc_law_pot.nd (je_opLG (ρa := fun _ => _) (s := fun (x13 : Unit) (z15 : Int) => (.val (D.int z15))) (xa := fun (x13 : Unit) => (eL D.int) ((cut a.1 (some a.2) (some (a.2 + (1 : Int)))) ++ [(0 : Int)])) (y := fun (x13 : Unit) => D.int (0 : Int)) (fun _ _ ha hb => pe_ix ix_list ha hb (fun _ _ => rfl)) (je_frzL (v := fun (b12 : Unit) => ((cut a.1 (some a.2) (some (a.2 + (1 : Int)))) ++ [(0 : Int)])) (je_op (fun _ _ ha hb => pe_op op_catR ha hb) (je_frzL (v := fun (b7 : Unit) => (cut a.1 (some a.2) (some (a.2 + (1 : Int))))) (je_slS (jp_var 0) (fun _ => (jo_some (jp_var 1))) (fun _ => (jo_some (je_op (fun _ _ ha hb => pe_op op_add ha hb) (jp_var 1) jp_int od_add))))) (je_frzL (v := fun (b11 : Unit) => [(0 : Int)]) (je_lstT D.int (fun (b10 : Unit) => ([(0 : Int)] : List Int)) (ja_p jp_int ja_nil))) od_catm)) (fun x13 => jp_int) (fun x13 => od_ixLm)) fun b17 v_cell_16 =>
(js_one (js_retP [(max (0 : Int) (v_cell_16 - ((10 : Int) ^ (Int.toNat (18 : Int))))), (((((if v_cell_16 < 0 then -v_cell_16 else v_cell_16) + ((7919 : Int) * a.2)) + (3 : Int)) % (2147483629 : Int)) + (1 : Int))] [false, false, false] (je_lstT D.int (fun (b32 : Unit) => ([(max (0 : Int) (v_cell_16 - ((10 : Int) ^ (Int.toNat (18 : Int))))), (((((if v_cell_16 < 0 then -v_cell_16 else v_cell_16) + ((7919 : Int) * a.2)) + (3 : Int)) % (2147483629 : Int)) + (1 : Int))] : List Int)) (ja_p (je_cb (fun _ ht => pe_callB (call_max2 rfl) (by rfl) T.z_max (by decide +kernel) ht) (ja_p jp_int (ja_p (je_op (fun _ _ ha hb => pe_op op_sub ha hb) (jp_var 2) (je_op (fun _ _ ha hb => pe_op op_pow ha hb) jp_int jp_int od_powC) od_sub) ja_nil)) cb_max) (ja_p (je_op (fun _ _ ha hb => pe_op op_add ha hb) (je_op (fun _ _ ha hb => pe_op op_mod ha hb) (je_op (fun _ _ ha hb => pe_op op_add ha hb) (je_op (fun _ _ ha hb => pe_op op_add ha hb) (je_cb (fun _ ht => pe_callB call_abs (by rfl) T.z_abs (by decide +kernel) ht) (ja_p (jp_var 2) ja_nil) cb_abs) (je_op (fun _ _ ha hb => pe_op op_mul ha hb) jp_int (jp_var 1) od_mulC) od_add) jp_int od_add) jp_int od_modC) jp_int od_add) ja_nil)))))))
/-! law_digit -/
abbrev s_law_digit : Stmt := topS 12
theorem sc_law_digit : FnScope ["_law_pot_here", "_law_many", "_law_digit_here"] ["_law_pot_here", "_law_many"] (defScope s_law_digit) := ⟨rfl, rfl, rfl, by decide +kernel, rfl, by decide +kernel, by decide +kernel⟩
noncomputable def mb_law_digit (v_pot_here : (List Int)) (v_many : Int) : R (Fl Unit Unit (Int × (List Int))) :=
(bindF ((R.some (atI v_pot_here (0 : Int))).bind fun (b44 : Int) => if (decide (b44 > (0 : Int))) = true then ((((R.some (atI v_pot_here (0 : Int))).bind fun (c46 : Int) => (R.guard (CDivP c46 v_many)).bind fun (z47 : Unit) => R.ok (c46, z47)).bind fun (b48 : (Int × Unit)) => ((R.some (ixN (List.length v_pot_here) (0 : Int))).bind fun (j49 : Nat) => (R.ok ()).bind fun (c_ : Unit) => R.ok (j49, c_)).bind fun (p50 : (Nat × Unit)) => R.ok (b48, p50)).bind fun (p51 : (Int × Unit) × (Nat × Unit)) =>
(R.ok (.rt ((p51.1.1 / v_many, p51.1.1 % v_many).2, (List.set v_pot_here p51.2.1 ((p51.1.1 / v_many, p51.1.1 % v_many).1)))))) else (R.ok (.nx ()))) fun n52 =>
(((R.some (atI v_pot_here (1 : Int))).bind fun (b62 : Int) => (R.some (ixN (List.length v_pot_here) (1 : Int))).bind fun (j63 : Nat) => R.ok (b62, j63)).bind fun (p64 : Int × Nat) =>
(((op2 (R.some (atI (List.set v_pot_here p64.2 (((p64.1 * (48271 : Int)) + (39373 : Int)) % (2147483647 : Int))) (1 : Int))) (fun (x65 : Int) => (R.some (atI (List.set v_pot_here p64.2 (((p64.1 * (48271 : Int)) + (39373 : Int)) % (2147483647 : Int))) (1 : Int)))) (fun (x65 : Int) (y66 : Int) => R.guard (CMulX x65 y66))).bind fun (x73 : (Int × Int × Unit)) => (R.guard (v_many ≠ (0 : Int))).bind fun (z75 : Unit) => R.ok (x73, z75)).bind fun (b76 : ((Int × Int × Unit) × Unit)) => R.ok (.rt ((Int.fmod (((b76.1.1 * b76.1.2.1) % (2147483629 : Int)) / (3 : Int)) v_many), (List.set v_pot_here p64.2 (((p64.1 * (48271 : Int)) + (39373 : Int)) % (2147483647 : Int))))))))
noncomputable def m_law_digit (a : ((List Int) × Int)) : R (Int × (List Int)) := fin0 (mb_law_digit a.1 a.2)
abbrev i_law_digit (a : ((List Int) × Int)) : List Slot := [.own 1 ((oL D.int) a.1), .val (D.int a.2)]
abbrev l_law_digit (b : (Int × (List Int))) : Slot := .val (D.int b.1)
abbrev o_law_digit (b : (Int × (List Int))) : List Slot := [.own 1 ((oL D.int) b.2), .non]
theorem ok_law_digit {P : Program} {w : World} {K : PySem.W.Frag} {mg : Str → Option Value} {base : Heap} (T : Top K mg) : FnG P w K mg base CX0 1 T.law_digit.a T.law_digit.d ["_law_pot_here", "_law_many"] (spM K i_law_digit m_law_digit l_law_digit o_law_digit) := by
  show FnG P w K mg base CX0 (0 + 1) T.law_digit.a T.law_digit.d ["_law_pot_here", "_law_many"] (spM K i_law_digit (fun (a : ((List Int) × Int)) => fin0 (mb_law_digit a.1 a.2)) l_law_digit o_law_digit)
  refine fn_ok (n1 := fun _ => []) (c1 := fun _ => []) (k1 := fun _ => []) (ins := i_law_digit) (sl := l_law_digit) (outs := o_law_digit) (fun (a : ((List Int) × Int)) => mb_law_digit a.1 a.2) 1 T.law_digit.f sc_law_digit rfl (fun _ => rfl) (fun _ => rfl) (fun _ => rfl) (fun cdv A outer s H E hr B hB a => ?_)
  show JSs _ B _ _ (mb_law_digit a.1 a.2) _
  unfold mb_law_digit
  exact ((js_cons (ρ1 := fun (n52 : Unit) => [.own 1 ((oL D.int) a.1), .val (D.int a.2), .non]) (js_if (jt_opL (ρa := fun _ => _) (bn := fun (x41 : Int) => (decide (x41 > (0 : Int)))) (xa := fun (x41 : Int) => D.int x41) (y := fun (x41 : Int) => D.int (0 : Int)) (fun _ _ ha hb => pt_cmpR op_gt ha hb (nomark _)) (je_ixO 0 (xs := a.1) (en := D.int) (k := (0 : Int)) rfl jp_int) (fun x41 => jp_int) (fun x41 => od_gt)) (fun b44 => (js_consQ1 (fun (p51 : (Int × Unit) × (Nat × Unit)) => [.own 1 ((oL D.int) (List.set a.1 p51.2.1 ((p51.1.1 / a.2, p51.1.1 % a.2).1))), .val (D.int a.2), .val (D.int ((p51.1.1 / a.2, p51.1.1 % a.2).2))]) (j1_asg (d := fun (b48 : (Int × Unit)) => (eP2 D.int D.int) (b48.1 / a.2, b48.1 % a.2)) (je_cb2 (ρa := fun _ => _) (s := fun (c46 : Int) (z47 : Unit) => .val ((eP2 D.int D.int) (c46 / a.2, c46 % a.2))) (fun _ ht => pe_callB call_divmodW (by rfl) T.z_divmod (by decide +kernel) ht) (ja_el (ρa := fun _ => _) (xa := fun (x45 : Int) => D.int x45) (je_ixO 0 (xs := a.1) (en := D.int) (k := (0 : Int)) rfl jp_int) (fun x45 => (ja_p (jp_var 1) ja_nil))) (fun c46 => cb_divmod)) (fun b48 => jg_tup rfl (jgs_cons (jg_sub 0 (xs := a.1) (en := D.int) (y := (b48.1 / a.2, b48.1 % a.2).1) (k := (0 : Int)) rfl jp_int) (fun j49 => (jgs_p (jg_name 2 sc_law_digit.nd) jgs_nil))))) fun p51 =>
(js_one (js_retP ((p51.1.1 / a.2, p51.1.1 % a.2).2, (List.set a.1 p51.2.1 ((p51.1.1 / a.2, p51.1.1 % a.2).1))) [true, false, false] (jp_var 2))))) (fun b44 => (js_nil [true, true, true] ()))) fun n52 =>
(js_consQ1 (fun (p64 : Int × Nat) => [.own 1 ((oL D.int) (List.set a.1 p64.2 (((p64.1 * (48271 : Int)) + (39373 : Int)) % (2147483647 : Int)))), .val (D.int a.2), .non]) (j1_asg (d := fun (b62 : Int) => D.int (((b62 * (48271 : Int)) + (39373 : Int)) % (2147483647 : Int))) (je_opL (ρa := fun _ => _) (s := fun (x59 : Int) => (.val (D.int (((x59 * (48271 : Int)) + (39373 : Int)) % (2147483647 : Int))))) (xa := fun (x59 : Int) => D.int ((x59 * (48271 : Int)) + (39373 : Int))) (y := fun (x59 : Int) => D.int (2147483647 : Int)) (fun _ _ ha hb => pe_op op_mod ha hb) (je_opL (ρa := fun _ => _) (s := fun (x56 : Int) => (.val (D.int ((x56 * (48271 : Int)) + (39373 : Int))))) (xa := fun (x56 : Int) => D.int (x56 * (48271 : Int))) (y := fun (x56 : Int) => D.int (39373 : Int)) (fun _ _ ha hb => pe_op op_add ha hb) (je_opL (ρa := fun _ => _) (s := fun (x53 : Int) => (.val (D.int (x53 * (48271 : Int))))) (xa := fun (x53 : Int) => D.int x53) (y := fun (x53 : Int) => D.int (48271 : Int)) (fun _ _ ha hb => pe_op op_mul ha hb) (je_ixO 0 (xs := a.1) (en := D.int) (k := (1 : Int)) rfl jp_int) (fun x53 => jp_int) (fun x53 => od_mulC)) (fun x56 => jp_int) (fun x56 => od_add)) (fun x59 => jp_int) (fun x59 => od_modC)) (fun b62 => (jg_sub 0 (xs := a.1) (en := D.int) (y := (((b62 * (48271 : Int)) + (39373 : Int)) % (2147483647 : Int))) (k := (1 : Int)) rfl jp_int))) fun p64 =>
(js_one (js_ret (fun (b76 : ((Int × Int × Unit) × Unit)) => ((Int.fmod (((b76.1.1 * b76.1.2.1) % (2147483629 : Int)) / (3 : Int)) a.2), (List.set a.1 p64.2 (((p64.1 * (48271 : Int)) + (39373 : Int)) % (2147483647 : Int))))) [true, false, true] (je_opLG (ρa := fun _ => _) (s := fun (x73 : (Int × Int × Unit)) (z75 : Unit) => (.val (D.int (Int.fmod (((x73.1 * x73.2.1) % (2147483629 : Int)) / (3 : Int)) a.2)))) (xa := fun (x73 : (Int × Int × Unit)) => D.int (((x73.1 * x73.2.1) % (2147483629 : Int)) / (3 : Int))) (y := fun (x73 : (Int × Int × Unit)) => D.int a.2) (fun _ _ ha hb => pe_op op_modN ha hb) (je_opL (ρa := fun _ => _) (s := fun (x70 : (Int × Int × Unit)) => (.val (D.int (((x70.1 * x70.2.1) % (2147483629 : Int)) / (3 : Int))))) (xa := fun (x70 : (Int × Int × Unit)) => D.int ((x70.1 * x70.2.1) % (2147483629 : Int))) (y := fun (x70 : (Int × Int × Unit)) => D.int (3 : Int)) (fun _ _ ha hb => pe_op op_fdiv ha hb) (je_opL (ρa := fun _ => _) (s := fun (x67 : (Int × Int × Unit)) => (.val (D.int ((x67.1 * x67.2.1) % (2147483629 : Int))))) (xa := fun (x67 : (Int × Int × Unit)) => D.int (x67.1 * x67.2.1)) (y := fun (x67 : (Int × Int × Unit)) => D.int (2147483629 : Int)) (fun _ _ ha hb => pe_op op_mod ha hb) (je_op2 (ρa := fun _ => _) (ρb := fun _ _ => _) (s := fun (x65 : Int) (y66 : Int) (z0 : Unit) => (.val (D.int (x65 * y66)))) (xa := fun (x65 : Int) => D.int x65) (xb := fun (x65 : Int) (y66 : Int) => D.int y66) (fun _ _ ha hb => pe_op op_mulX ha hb) (je_ixO 0 (xs := (List.set a.1 p64.2 (((p64.1 * (48271 : Int)) + (39373 : Int)) % (2147483647 : Int)))) (en := D.int) (k := (1 : Int)) rfl jp_int) (fun x65 => (je_ixO 0 (xs := (List.set a.1 p64.2 (((p64.1 * (48271 : Int)) + (39373 : Int)) % (2147483647 : Int)))) (en := D.int) (k := (1 : Int)) rfl jp_int)) (fun x65 y66 => od_mul)) (fun x67 => jp_int) (fun x67 => od_modC)) (fun x70 => jp_int) (fun x70 => od_fdivC)) (fun x73 => (jp_var 1)) (fun x73 => od_mod)))))))
/-! law_common -/
abbrev s_law_common : Stmt := topS 13
theorem sc_law_common : FnScope ["_law_one", "_law_other", "_law_a", "_law_b"] ["_law_one", "_law_other"] (defScope s_law_common) := ⟨rfl, rfl, rfl, by decide +kernel, rfl, by decide +kernel, by decide +kernel⟩
noncomputable def mb_law_common (v_one : Int) (v_other : Int) : R (Fl Unit Unit Int) :=
(bindF (whR (fun (s86 : (Int × Int)) => R.ok (decide (s86.2 > (0 : Int)))) (fun s86 =>
((R.guard (s86.2 ≠ (0 : Int))).bind fun (b94 : Unit) =>
(R.ok (.nx (s86.2, (Int.fmod s86.1 s86.2)))))) (v_one, v_other)) fun n87 =>
(R.ok (.rt n87.1)))
noncomputable def m_law_common (a : (Int × Int)) : R Int := fin0 (mb_law_common a.1 a.2)
abbrev i_law_common (a : (Int × Int)) : List Slot := [.val (D.int a.1), .val (D.int a.2)]
abbrev l_law_common (b : Int) : Slot := .val (D.int b)
abbrev o_law_common (b : Int) : List Slot := [.non, .non]
theorem ok_law_common {P : Program} {w : World} {K : PySem.W.Frag} {mg : Str → Option Value} {base : Heap} (T : Top K mg) : FnG P w K mg base CX0 1 T.law_common.a T.law_common.d ["_law_one", "_law_other"] (spM K i_law_common m_law_common l_law_common o_law_common) := by
  show FnG P w K mg base CX0 (0 + 1) T.law_common.a T.law_common.d ["_law_one", "_law_other"] (spM K i_law_common (fun (a : (Int × Int)) => fin0 (mb_law_common a.1 a.2)) l_law_common o_law_common)
  refine fn_ok (n1 := fun _ => []) (c1 := fun _ => []) (k1 := fun _ => []) (ins := i_law_common) (sl := l_law_common) (outs := o_law_common) (fun (a : (Int × Int)) => mb_law_common a.1 a.2) 2 T.law_common.f sc_law_common rfl (fun _ => rfl) (fun _ => rfl) (fun _ => rfl) (fun cdv A outer s H E hr B hB a => ?_)
  show JSs _ B _ _ (mb_law_common a.1 a.2) _
  unfold mb_law_common
  exact ((js_consQP [.val (D.int a.1), .val (D.int a.2), .val (D.int a.1), .val (D.int a.2)] (j1_par 2 3 (d1 := fun (b85 : Unit) => D.int a.1) (d2 := fun (b85 : Unit) => D.int a.2) rfl sc_law_common.nd (ja_p (jp_var 0) (ja_p (jp_var 1) ja_nil)))
(js_cons (ρ1 := fun (n87 : (Int × Int)) => [.val (D.int a.1), .val (D.int a.2), .val (D.int n87.1), .val (D.int n87.2)]) (js_while (fun (s86 : (Int × Int)) => [.val (D.int a.1), .val (D.int a.2), .val (D.int s86.1), .val (D.int s86.2)]) PassesOwn.never (a.1, a.2) [true, true, true, true] rfl (fun s86 => (jt_pb (jt_op (fun _ _ ha hb => pt_cmpR op_gt ha hb (nomark _)) (jp_var 3) jp_int od_gt))) (fun s86 =>
(js_consQ1 (fun (b94 : Unit) => [.val (D.int a.1), .val (D.int a.2), .val (D.int s86.2), .val (D.int (Int.fmod s86.1 s86.2))]) (j1_par 2 3 (d1 := fun (b94 : Unit) => D.int s86.2) (d2 := fun (b94 : Unit) => D.int (Int.fmod s86.1 s86.2)) rfl sc_law_common.nd (ja_p (jp_var 3) (ja_el (ρa := fun _ => _) (xa := fun (x93 : Unit) => D.int (Int.fmod s86.1 s86.2)) (je_op (fun _ _ ha hb => pe_op op_modN ha hb) (jp_var 2) (jp_var 3) od_mod) (fun x93 => ja_nil)))) fun b94 =>
(js_nil [true, true, true, true] (s86.2, (Int.fmod s86.1 s86.2)))))) fun n87 =>
(js_one (js_retP n87.1 [false, false, false, false] (jp_var 2))))))
/-! law_cut -/
abbrev s_law_cut : Stmt := topS 14
theorem sc_law_cut : FnScope ["_law_n", "_law_d", "_law_by"] ["_law_n", "_law_d"] (defScope s_law_cut) := ⟨rfl, rfl, rfl, by decide +kernel, rfl, by decide +kernel, by decide +kernel⟩
noncomputable def mb_law_cut (v_n : Int) (v_d : Int) : R (Fl Unit Unit (Int × Int)) :=
((m_law_common ((if v_n < 0 then -v_n else v_n), v_d)).bind fun (b96 : Int) => lt b96 fun v_by_95 =>
(((R.guard (divOk v_n v_by_95)).bind fun (x99 : Unit) => (R.guard (divOk v_d v_by_95)).bind fun (z103 : Unit) => R.ok (x99, z103)).bind fun (b104 : (Unit × Unit)) => R.ok (.rt ((Int.fdiv v_n v_by_95), (Int.fdiv v_d v_by_95)))))
noncomputable def m_law_cut (a : (Int × Int)) : R (Int × Int) := fin0 (mb_law_cut a.1 a.2)
abbrev i_law_cut (a : (Int × Int)) : List Slot := [.val (D.int a.1), .val (D.int a.2)]
abbrev l_law_cut (b : (Int × Int)) : Slot := .val ((eP2 D.int D.int) b)
abbrev o_law_cut (b : (Int × Int)) : List Slot := [.non, .non]
theorem ok_law_cut {P : Program} {w : World} {K : PySem.W.Frag} {mg : Str → Option Value} {base : Heap} (T : Top K mg) : FnG P w K mg base CX0 2 T.law_cut.a T.law_cut.d ["_law_n", "_law_d"] (spM K i_law_cut m_law_cut l_law_cut o_law_cut) := by
  show FnG P w K mg base CX0 (1 + 1) T.law_cut.a T.law_cut.d ["_law_n", "_law_d"] (spM K i_law_cut (fun (a : (Int × Int)) => fin0 (mb_law_cut a.1 a.2)) l_law_cut o_law_cut)
  refine fn_ok (n1 := fun _ => []) (c1 := fun _ => []) (k1 := fun _ => []) (ins := i_law_cut) (sl := l_law_cut) (outs := o_law_cut) (fun (a : (Int × Int)) => mb_law_cut a.1 a.2) 1 T.law_cut.f sc_law_cut rfl (fun _ => rfl) (fun _ => rfl) (fun _ => rfl) (fun cdv A outer s H E hr B hB a => ?_)
  show JSs _ B _ _ (mb_law_cut a.1 a.2) _
  unfold mb_law_cut
  exact ((js_setEQ 2 D.int (fun (b96 : Int) => b96) (fun (b96 : Int) (v_by_95 : Int) => [.val (D.int a.1), .val (D.int a.2), .val (D.int v_by_95)]) sc_law_cut.nd (je_callV (ins := i_law_common) (mf := m_law_common) (sl := l_law_common) (outs := o_law_common) (ok_law_common T) (hr.mono (by decide)) (by rfl) T.law_common.g T.law_common.f.kp T.law_common.b pass0 (arg := ((if a.1 < 0 then -a.1 else a.1), a.2)) (ja_p (je_cb (fun _ ht => pe_callB call_abs (by rfl) T.z_abs (by decide +kernel) ht) (ja_p (jp_var 0) ja_nil) cb_abs) (ja_p (jp_var 1) ja_nil)) hB) fun b96 v_by_95 =>
(js_one (js_ret (fun (b104 : (Unit × Unit)) => ((Int.fdiv a.1 v_by_95), (Int.fdiv a.2 v_by_95))) [false, false, false] (je_tup (ja_e (ρ' := fun _ _ => _) (ρa := fun _ => _) (xa := fun (x99 : Unit) => D.int (Int.fdiv a.1 v_by_95)) (je_op (fun _ _ ha hb => pe_op op_fdivZ ha hb) (jp_var 0) (jp_var 2) od_fdiv) (fun x99 => (ja_el (ρa := fun _ => _) (xa := fun (x102 : Unit) => D.int (Int.fdiv a.2 v_by_95)) (je_op (fun _ _ ha hb => pe_op op_fdivZ ha hb) (jp_var 1) (jp_var 2) od_fdiv) (fun x102 => ja_nil)))))))))
/-! law_fraction -/
abbrev s_law_fraction : Stmt := topS 15
theorem sc_law_fraction : FnScope ["_law_pot_here", "_law_most"] ["_law_pot_here", "_law_most"] (defScope s_law_fraction) := ⟨rfl, rfl, rfl, by decide +kernel, rfl, by decide +kernel, by decide +kernel⟩
noncomputable def mb_law_fraction (v_pot_here : (List Int)) (v_most : Int) : R (Fl Unit Unit ((Int × Int) × (List Int))) :=
((((m_law_digit (v_pot_here, (((2 : Int) * v_most) + (1 : Int)))).bind fun (x113 : (Int × (List Int))) => (((m_law_digit (x113.2, (3 : Int))).bind fun (y119 : (Int × (List Int))) => (R.some (atI [(1 : Int), (5 : Int), v_most] y119.1)).bind fun (z121 : Int) => R.ok (y119, z121)).bind fun (c123 : ((Int × (List Int)) × Int)) => (m_law_digit (c123.1.2, c123.2)).bind fun (z124 : (Int × (List Int))) => R.ok (c123, z124)).bind fun (z128 : (((Int × (List Int)) × Int) × (Int × (List Int)))) => R.ok (x113, z128)).bind fun (c129 : ((Int × (List Int)) × (((Int × (List Int)) × Int) × (Int × (List Int))))) => (m_law_cut ((c129.1.1 - v_most), ((1 : Int) + c129.2.2.1))).bind fun (z130 : (Int × Int)) => R.ok (c129, z130)).bind fun (b131 : (((Int × (List Int)) × (((Int × (List Int)) × Int) × (Int × (List Int)))) × (Int × Int))) => R.ok (.rt (b131.2, b131.1.2.2.2)))
noncomputable def m_law_fraction (a : ((List Int) × Int)) : R ((Int × Int) × (List Int)) := fin0 (mb_law_fraction a.1 a.2)
abbrev i_law_fraction (a : ((List Int) × Int)) : List Slot := [.own 1 ((oL D.int) a.1), .val (D.int a.2)]
abbrev l_law_fraction (b : ((Int × Int) × (List Int))) : Slot := .val ((eP2 D.int D.int) b.1)
abbrev o_law_fraction (b : ((Int × Int) × (List Int))) : List Slot := [.own 1 ((oL D.int) b.2), .non]
theorem ok_law_fraction {P : Program} {w : World} {K : PySem.W.Frag} {mg : Str → Option Value} {base : Heap} (T : Top K mg) : FnG P w K mg base CX0 3 T.law_fraction.a T.law_fraction.d ["_law_pot_here", "_law_most"] (spM K i_law_fraction m_law_fraction l_law_fraction o_law_fraction) := by
  show FnG P w K mg base CX0 (2 + 1) T.law_fraction.a T.law_fraction.d ["_law_pot_here", "_law_most"] (spM K i_law_fraction (fun (a : ((List Int) × Int)) => fin0 (mb_law_fraction a.1 a.2)) l_law_fraction o_law_fraction)
  refine fn_ok (n1 := fun _ => []) (c1 := fun _ => []) (k1 := fun _ => []) (ins := i_law_fraction) (sl := l_law_fraction) (outs := o_law_fraction) (fun (a : ((List Int) × Int)) => mb_law_fraction a.1 a.2) 0 T.law_fraction.f sc_law_fraction rfl (fun _ => rfl) (fun _ => rfl) (fun _ => rfl) (fun cdv A outer s H E hr B hB a => ?_)
  show JSs _ B _ _ (mb_law_fraction a.1 a.2) _
  unfold mb_law_fraction
  exact ((js_one (js_ret (fun (b131 : (((Int × (List Int)) × (((Int × (List Int)) × Int) × (Int × (List Int)))) × (Int × Int))) => (b131.2, b131.1.2.2.2)) [true, false] (je_callVE (ins := i_law_cut) (mf := m_law_cut) (sl := l_law_cut) (outs := o_law_cut) (ok_law_cut T) (hr.mono (by decide)) (by rfl) T.law_cut.g T.law_cut.f.kp T.law_cut.b pass0 (arg := fun (c129 : ((Int × (List Int)) × (((Int × (List Int)) × Int) × (Int × (List Int))))) => ((c129.1.1 - a.2), ((1 : Int) + c129.2.2.1))) (ja_e (xa := fun (x113 : (Int × (List Int))) => D.int (x113.1 - a.2)) (je_opL (s := fun (x110 : (Int × (List Int))) => (.val (D.int (x110.1 - a.2)))) (xa := fun (x110 : (Int × (List Int))) => D.int x110.1) (y := fun (x110 : (Int × (List Int))) => D.int a.2) (fun _ _ ha hb => pe_op op_sub ha hb) (je_callQ (ins := i_law_digit) (mf := m_law_digit) (sl := l_law_digit) (outs := o_law_digit) (ok_law_digit T) (hr.mono (by decide)) (by rfl) T.law_digit.g T.law_digit.f.kp T.law_digit.b pass0 (arg := (a.1, (((2 : Int) * a.2) + (1 : Int)))) (fun (b109 : (Int × (List Int))) => [.own 1 ((oL D.int) b109.2), .val (D.int a.2)]) (ja_s 0 (ja_p (je_op (fun _ _ ha hb => pe_op op_add ha hb) (je_op (fun _ _ ha hb => pe_op op_mul ha hb) jp_int (jp_var 1) od_mulC) jp_int od_add) ja_nil)) hB) (fun x110 => (jp_var 1)) (fun x110 => od_sub)) (fun x113 => (ja_el (xa := fun (x127 : (((Int × (List Int)) × Int) × (Int × (List Int)))) => D.int ((1 : Int) + x127.2.1)) (je_opR (s := fun (y115 : (((Int × (List Int)) × Int) × (Int × (List Int)))) => (.val (D.int ((1 : Int) + y115.2.1)))) (xb := fun (y115 : (((Int × (List Int)) × Int) × (Int × (List Int)))) => D.int y115.2.1) (fun _ _ ha hb => pe_op op_add ha hb) jp_int (je_callQE (ins := i_law_digit) (mf := m_law_digit) (sl := l_law_digit) (outs := o_law_digit) (ok_law_digit T) (hr.mono (by decide)) (by rfl) T.law_digit.g T.law_digit.f.kp T.law_digit.b pass0 (arg := fun (c123 : ((Int × (List Int)) × Int)) => (c123.1.2, c123.2)) (fun (b125 : ((Int × (List Int)) × Int) × (Int × (List Int))) => [.own 1 ((oL D.int) b125.2.2), .val (D.int a.2)]) (ja_s 0 (ja_el (xa := fun (x122 : ((Int × (List Int)) × Int)) => D.int x122.2) (je_opRG (s := fun (y119 : (Int × (List Int))) (z121 : Int) => (.val (D.int z121))) (xb := fun (y119 : (Int × (List Int))) => D.int y119.1) (fun _ _ ha hb => pe_ix ix_list ha hb (fun _ _ => rfl)) (je_frzL (v := fun (b117 : Unit) => [(1 : Int), (5 : Int), a.2]) (je_lstT D.int (fun (b116 : Unit) => ([(1 : Int), (5 : Int), a.2] : List Int)) (ja_p jp_int (ja_p jp_int (ja_p (jp_var 1) ja_nil))))) (je_callQ (ins := i_law_digit) (mf := m_law_digit) (sl := l_law_digit) (outs := o_law_digit) (ok_law_digit T) (hr.mono (by decide)) (by rfl) T.law_digit.g T.law_digit.f.kp T.law_digit.b pass0 (arg := (x113.2, (3 : Int))) (fun (b120 : (Int × (List Int))) => [.own 1 ((oL D.int) b120.2), .val (D.int a.2)]) (ja_s 0 (ja_p jp_int ja_nil)) hB) (fun y119 => od_ixLm)) (fun x122 => ja_nil))) hB) (fun y115 => od_add)) (fun x127 => ja_nil)))) hB))))
/-! law_drawing -/
abbrev s_law_drawing : Stmt := topS 16
theorem sc_law_drawing : FnScope ["_law_pot_here", "_law_many", "_law_most", "_law_k"] ["_law_pot_here", "_law_many", "_law_most"] (defScope s_law_drawing) := ⟨rfl, rfl, rfl, by decide +kernel, rfl, by decide +kernel, by decide +kernel⟩
noncomputable def mb_law_drawing (v_pot_here : (List Int)) (v_many : Int) (v_most : Int) : R (Fl Unit Unit ((List ((Int × Int) × (Int × Int))) × (List Int))) :=
(((R.guard (rngOk v_many)).bind fun (b81 : Unit) => (R.guard (List.length (rng 0 v_many) ≤ sizeLine)).bind fun _ => compR (compF (fun (x83 : Int) (s82 : (List Int)) => R.ok ()) (fun (z138 : Unit) => true) (fun (x83 : Int) (s82 : (List Int)) => (((m_law_fraction (s82, v_most)).bind fun (x133 : ((Int × Int) × (List Int))) => (m_law_fraction (x133.2, v_most)).bind fun (z136 : ((Int × Int) × (List Int))) => R.ok (x133, z136)).bind fun (y137 : (((Int × Int) × (List Int)) × ((Int × Int) × (List Int)))) => R.ok ((y137.1.1, y137.2.1), y137.2.2))) Prod.fst Prod.snd) (rng 0 v_many) [] v_pot_here).bind fun (b144 : ((List ((Int × Int) × (Int × Int))) × (List Int))) => R.ok (.rt (b144.1, b144.2)))
noncomputable def m_law_drawing (a : ((List Int) × Int × Int)) : R ((List ((Int × Int) × (Int × Int))) × (List Int)) := fin0 (mb_law_drawing a.1 a.2.1 a.2.2)
abbrev i_law_drawing (a : ((List Int) × Int × Int)) : List Slot := [.own 1 ((oL D.int) a.1), .val (D.int a.2.1), .val (D.int a.2.2)]
abbrev l_law_drawing (b : ((List ((Int × Int) × (Int × Int))) × (List Int))) : Slot := .val ((eT (eP2 (eP2 D.int D.int) (eP2 D.int D.int))) b.1)
abbrev o_law_drawing (b : ((List ((Int × Int) × (Int × Int))) × (List Int))) : List Slot := [.own 1 ((oL D.int) b.2), .non, .non]
theorem ok_law_drawing {P : Program} {w : World} {K : PySem.W.Frag} {mg : Str → Option Value} {base : Heap} (T : Top K mg) : FnG P w K mg base CX0 4 T.law_drawing.a T.law_drawing.d ["_law_pot_here", "_law_many", "_law_most"] (spM K i_law_drawing m_law_drawing l_law_drawing o_law_drawing) := by
  show FnG P w K mg base CX0 (3 + 1) T.law_drawing.a T.law_drawing.d ["_law_pot_here", "_law_many", "_law_most"] (spM K i_law_drawing (fun (a : ((List Int) × Int × Int)) => fin0 (mb_law_drawing a.1 a.2.1 a.2.2)) l_law_drawing o_law_drawing)
  refine fn_ok (n1 := fun _ => []) (c1 := fun _ => []) (k1 := fun _ => []) (ins := i_law_drawing) (sl := l_law_drawing) (outs := o_law_drawing) (fun (a : ((List Int) × Int × Int)) => mb_law_drawing a.1 a.2.1 a.2.2) 1 T.law_drawing.f sc_law_drawing rfl (fun _ => rfl) (fun _ => rfl) (fun _ => rfl) (fun cdv A outer s H E hr B hB a => ?_)
  show JSs _ B _ _ (mb_law_drawing a.1 a.2.1 a.2.2) _
  unfold mb_law_drawing
  exact ((js_one (js_ret (fun (b144 : ((List ((Int × Int) × (Int × Int))) × (List Int))) => (b144.1, b144.2)) [true, false, false, true] (je_cbN (s := fun (c142 : ((List ((Int × Int) × (Int × Int))) × (List Int))) => .val ((eT (eP2 (eP2 D.int D.int) (eP2 D.int D.int))) c142.1)) (fun _ ht => pe_callTy call_tuple_of (by rfl) T.z_tuple (by decide +kernel) ht) (ja_el (xa := fun (x141 : ((List ((Int × Int) × (Int × Int))) × (List Int))) => (eL (eP2 (eP2 D.int D.int) (eP2 D.int D.int))) x141.1) (je_frzL (v := fun (b140 : ((List ((Int × Int) × (Int × Int))) × (List Int))) => b140.1) (je_lc (xs := fun (b81 : Unit) => (rng 0 a.2.1)) (ea := D.int) (ts := [3]) (c := fun (x83 : Int) (s82 : (List Int)) => R.ok ()) (bn := fun (z138 : Unit) => true) (me := fun (x83 : Int) (s82 : (List Int)) => (((m_law_fraction (s82, a.2.2)).bind fun (x133 : ((Int × Int) × (List Int))) => (m_law_fraction (x133.2, a.2.2)).bind fun (z136 : ((Int × Int) × (List Int))) => R.ok (x133, z136)).bind fun (y137 : (((Int × Int) × (List Int)) × ((Int × Int) × (List Int)))) => R.ok ((y137.1.1, y137.2.1), y137.2.2))) [("_law_k", 3)] (eP2 (eP2 D.int D.int) (eP2 D.int D.int)) (fun (s82 : (List Int)) => [.own 1 ((oL D.int) s82), .val (D.int a.2.1), .val (D.int a.2.2), .non]) (fun (b81 : Unit) => a.1) (fun (x83 : Int) (s82 : (List Int)) => [.own 1 ((oL D.int) s82), .val (D.int a.2.1), .val (D.int a.2.2), .val (D.int x83)]) Prod.fst Prod.snd rfl sc_law_drawing.nd (ji_rng1P (i := a.2.1) T.z_range (ja_p (jp_var 1) ja_nil)) (blkOk_by (N := ["_law_pot_here", "_law_many", "_law_most", "_law_k"]) (sc := defScope s_law_drawing) (by decide +kernel)) (fun _ => rfl) (fun _ _ _ _ _ _ hB84 x83 s82 => (have hB := noRs hB84 hB; (jn_name 3 sc_law_drawing.nd))) (fun _ _ _ _ _ _ hB84 x83 s82 => (have hB := noRs hB84 hB; jts_nil)) (fun _ _ _ _ _ _ hB84 x83 s82 => (have hB := noRs hB84 hB; (je_mapS (en := (eP2 (eP2 D.int D.int) (eP2 D.int D.int))) (v := fun (y137 : (((Int × Int) × (List Int)) × ((Int × Int) × (List Int)))) => (y137.1.1, y137.2.1)) (st := fun (y137 : (((Int × Int) × (List Int)) × ((Int × Int) × (List Int)))) => y137.2.2) (ρ' := fun (s139 : (List Int)) => [.own 1 ((oL D.int) s139), .val (D.int a.2.1), .val (D.int a.2.2), .val (D.int x83)]) (je_tup (ja_e (xa := fun (x133 : ((Int × Int) × (List Int))) => (eP2 D.int D.int) x133.1) (je_callQ (ins := i_law_fraction) (mf := m_law_fraction) (sl := l_law_fraction) (outs := o_law_fraction) (ok_law_fraction T) (hr.mono (by decide)) (by rfl) T.law_fraction.g T.law_fraction.f.kp T.law_fraction.b pass0 (arg := (s82, a.2.2)) (fun (b132 : ((Int × Int) × (List Int))) => [.own 1 ((oL D.int) b132.2), .val (D.int a.2.1), .val (D.int a.2.2), .val (D.int x83)]) (ja_s 0 (ja_p (jp_var 2) ja_nil)) hB) (fun x133 => (ja_el (xa := fun (x135 : ((Int × Int) × (List Int))) => (eP2 D.int D.int) x135.1) (je_callQ (ins := i_law_fraction) (mf := m_law_fraction) (sl := l_law_fraction) (outs := o_law_fraction) (ok_law_fraction T) (hr.mono (by decide)) (by rfl) T.law_fraction.g T.law_fraction.f.kp T.law_fraction.b pass0 (arg := (x133.2, a.2.2)) (fun (b134 : ((Int × Int) × (List Int))) => [.own 1 ((oL D.int) b134.2), .val (D.int a.2.1), .val (D.int a.2.2), .val (D.int x83)]) (ja_s 0 (ja_p (jp_var 2) ja_nil)) hB) (fun x135 => ja_nil)))))))))) (fun x141 => ja_nil)) (fun c142 => cb_tupL)))))
/-! law_put -/
abbrev s_law_put : Stmt := topS 17
theorem sc_law_put : FnScope ["_law_pot_here", "_law_drawing_here", "_law_most", "_law_found", "_law_far", "_law_k", "_law_place", "_law_x", "_law_y", "_law_kind"] ["_law_pot_here", "_law_drawing_here", "_law_most"] (defScope s_law_put) := ⟨rfl, rfl, rfl, by decide +kernel, rfl, by decide +kernel, by decide +kernel⟩
noncomputable def mb_law_put (v_pot_here : (List Int)) (v_drawing_here : (List ((Int × Int) × (Int × Int)))) (v_most : Int) : R (Fl Unit Unit ((List ((Int × Int) × (Int × Int))) × (List Int))) :=
((R.ok ()).bind fun (b156 : Unit) => lt v_drawing_here fun v_found_155 =>
((m_law_digit (v_pot_here, (4 : Int))).bind fun (b162 : (Int × (List Int))) => lt ((1 : Int) + b162.1) fun v_far_161 =>
(bindF (((m_law_digit (b162.2, (((List.length v_drawing_here : Nat) : Int) + (1 : Int)))).bind fun (b167 : (Int × (List Int))) => (R.guard (rngOk b167.1)).bind fun z168 => R.ok b167).bind fun (b169 : (Int × (List Int))) => forR (fun (x172 : Int) (s170 : ((List Int) × (List ((Int × Int) × (Int × Int))))) =>
((m_law_digit (s170.1, ((List.length v_drawing_here : Nat) : Int))).bind fun (b175 : (Int × (List Int))) => lt b175.1 fun v_place_174 =>
((R.some (atI v_drawing_here v_place_174)).bind fun (b178 : ((Int × Int) × (Int × Int))) =>
((m_law_digit (b175.2, (4 : Int))).bind fun (b181 : (Int × (List Int))) => lt b181.1 fun v_kind_180 =>
(bindF (if (decide (v_kind_180 = (0 : Int))) = true then (((R.guard (CMulX v_far_161 b178.1.2)).bind fun (b214 : Unit) => (R.some (ixN (List.length s170.2) v_place_174)).bind fun (j215 : Nat) => R.ok (b214, j215)).bind fun (p216 : Unit × Nat) =>
(R.ok (.nx (List.set s170.2 p216.2 (((b178.1.1 + (v_far_161 * b178.1.2)), b178.1.2), b178.2))))) else (R.ok (.nx s170.2))) fun n217 =>
(bindF (if (decide (v_kind_180 = (1 : Int))) = true then (((R.guard (CMulX v_far_161 b178.2.2)).bind fun (b250 : Unit) => (R.some (ixN (List.length n217) v_place_174)).bind fun (j251 : Nat) => R.ok (b250, j251)).bind fun (p252 : Unit × Nat) =>
(R.ok (.nx (List.set n217 p252.2 (b178.1, ((b178.2.1 - (v_far_161 * b178.2.2)), b178.2.2)))))) else (R.ok (.nx n217))) fun n253 =>
(bindF (if (decide (v_kind_180 = (2 : Int))) = true then (((m_law_fraction (b181.2, v_most)).bind fun (b264 : ((Int × Int) × (List Int))) => (R.some (ixN (List.length n253) v_place_174)).bind fun (j265 : Nat) => R.ok (b264, j265)).bind fun (p266 : ((Int × Int) × (List Int)) × Nat) =>
(R.ok (.nx (p266.1.2, (List.set n253 p266.2 (p266.1.1, b178.2)))))) else (R.ok (.nx (b181.2, n253)))) fun n267 =>
(R.ok (.nx (n267.1, n267.2)))))))))) (rng 0 b169.1) (b169.2, v_found_155)) fun n171 =>
(R.ok (.rt (n171.2, n171.1))))))
noncomputable def m_law_put (a : ((List Int) × (List ((Int × Int) × (Int × Int))) × Int)) : R ((List ((Int × Int) × (Int × Int))) × (List Int)) := fin0 (mb_law_put a.1 a.2.1 a.2.2)
abbrev i_law_put (a : ((List Int) × (List ((Int × Int) × (Int × Int))) × Int)) : List Slot := [.own 1 ((oL D.int) a.1), .val ((eT (eP2 (eP2 D.int D.int) (eP2 D.int D.int))) a.2.1), .val (D.int a.2.2)]
abbrev l_law_put (b : ((List ((Int × Int) × (Int × Int))) × (List Int))) : Slot := .val ((eT (eP2 (eP2 D.int D.int) (eP2 D.int D.int))) b.1)
abbrev o_law_put (b : ((List ((Int × Int) × (Int × Int))) × (List Int))) : List Slot := [.own 1 ((oL D.int) b.2), .non, .non]
theorem ok_law_put {P : Program} {w : World} {K : PySem.W.Frag} {mg : Str → Option Value} {base : Heap} (T : Top K mg) : FnG P w K mg base CX0 4 T.law_put.a T.law_put.d ["_law_pot_here", "_law_drawing_here", "_law_most"] (spM K i_law_put m_law_put l_law_put o_law_put) := by
  show FnG P w K mg base CX0 (3 + 1) T.law_put.a T.law_put.d ["_law_pot_here", "_law_drawing_here", "_law_most"] (spM K i_law_put (fun (a : ((List Int) × (List ((Int × Int) × (Int × Int))) × Int)) => fin0 (mb_law_put a.1 a.2.1 a.2.2)) l_law_put o_law_put)
  refine fn_ok (n1 := fun _ => []) (c1 := fun _ => []) (k1 := fun _ => []) (ins := i_law_put) (sl := l_law_put) (outs := o_law_put) (fun (a : ((List Int) × (List ((Int × Int) × (Int × Int))) × Int)) => mb_law_put a.1 a.2.1 a.2.2) 7 T.law_put.f sc_law_put rfl (fun _ => rfl) (fun _ => rfl) (fun _ => rfl) (fun cdv A outer s H E hr B hB a => ?_)
  show JSs _ B _ _ (mb_law_put a.1 a.2.1 a.2.2) _
  unfold mb_law_put
  exact ((js_setOQ 3 (oL (eP2 (eP2 D.int D.int) (eP2 D.int D.int))) (fun (b156 : Unit) => a.2.1) (fun (b156 : Unit) (v_found_155 : (List ((Int × Int) × (Int × Int)))) => [.own 1 ((oL D.int) a.1), .val ((eT (eP2 (eP2 D.int D.int) (eP2 D.int D.int))) a.2.1), .val (D.int a.2.2), .own 0 ((oL (eP2 (eP2 D.int D.int) (eP2 D.int D.int))) v_found_155), .non, .non, .non, .non, .non, .non]) sc_law_put.nd (je_cb (fun _ ht => pe_callTy call_list_of (by rfl) T.z_list (by decide +kernel) ht) (ja_p (jp_var 1) ja_nil) cb_lstT) fun b156 v_found_155 =>
(js_setEQ 4 D.int (fun (b162 : (Int × (List Int))) => ((1 : Int) + b162.1)) (fun (b162 : (Int × (List Int))) (v_far_161 : Int) => [.own 1 ((oL D.int) b162.2), .val ((eT (eP2 (eP2 D.int D.int) (eP2 D.int D.int))) a.2.1), .val (D.int a.2.2), .own 0 ((oL (eP2 (eP2 D.int D.int) (eP2 D.int D.int))) v_found_155), .val (D.int v_far_161), .non, .non, .non, .non, .non]) sc_law_put.nd (je_opR (s := fun (y158 : (Int × (List Int))) => (.val (D.int ((1 : Int) + y158.1)))) (xb := fun (y158 : (Int × (List Int))) => D.int y158.1) (fun _ _ ha hb => pe_op op_add ha hb) jp_int (je_callQ (ins := i_law_digit) (mf := m_law_digit) (sl := l_law_digit) (outs := o_law_digit) (ok_law_digit T) (hr.mono (by decide)) (by rfl) T.law_digit.g T.law_digit.f.kp T.law_digit.b pass0 (arg := (a.1, (4 : Int))) (fun (b159 : (Int × (List Int))) => [.own 1 ((oL D.int) b159.2), .val ((eT (eP2 (eP2 D.int D.int) (eP2 D.int D.int))) a.2.1), .val (D.int a.2.2), .own 0 ((oL (eP2 (eP2 D.int D.int) (eP2 D.int D.int))) v_found_155), .non, .non, .non, .non, .non, .non]) (ja_s 0 (ja_p jp_int ja_nil)) hB) (fun y158 => od_add)) fun b162 v_far_161 =>
(js_cons (ρ1 := fun (n171 : ((List Int) × (List ((Int × Int) × (Int × Int))))) => [.own 1 ((oL D.int) n171.1), .val ((eT (eP2 (eP2 D.int D.int) (eP2 D.int D.int))) a.2.1), .val (D.int a.2.2), .own 0 ((oL (eP2 (eP2 D.int D.int) (eP2 D.int D.int))) n171.2), .val (D.int v_far_161), .non, .non, .non, .non, .non]) (js_for (en := D.int) (xs := fun (b169 : (Int × (List Int))) => (rng 0 b169.1)) (s0 := fun (b169 : (Int × (List Int))) => (b169.2, v_found_155)) (fun (s170 : ((List Int) × (List ((Int × Int) × (Int × Int))))) => [.own 1 ((oL D.int) s170.1), .val ((eT (eP2 (eP2 D.int D.int) (eP2 D.int D.int))) a.2.1), .val (D.int a.2.2), .own 0 ((oL (eP2 (eP2 D.int D.int) (eP2 D.int D.int))) s170.2), .val (D.int v_far_161), .non, .non, .non, .non, .non]) (fun (x172 : Int) (s170 : ((List Int) × (List ((Int × Int) × (Int × Int))))) => [.own 1 ((oL D.int) s170.1), .val ((eT (eP2 (eP2 D.int D.int) (eP2 D.int D.int))) a.2.1), .val (D.int a.2.2), .own 0 ((oL (eP2 (eP2 D.int D.int) (eP2 D.int D.int))) s170.2), .val (D.int v_far_161), .val (D.int x172), .non, .non, .non, .non]) PassesOwn.never rfl (ji_rng1 (fun (b167 : (Int × (List Int))) => b167.1) T.z_range (ja_el (xa := fun (x166 : (Int × (List Int))) => D.int x166.1) (je_callQ (ins := i_law_digit) (mf := m_law_digit) (sl := l_law_digit) (outs := o_law_digit) (ok_law_digit T) (hr.mono (by decide)) (by rfl) T.law_digit.g T.law_digit.f.kp T.law_digit.b pass0 (arg := (b162.2, (((List.length a.2.1 : Nat) : Int) + (1 : Int)))) (fun (b165 : (Int × (List Int))) => [.own 1 ((oL D.int) b165.2), .val ((eT (eP2 (eP2 D.int D.int) (eP2 D.int D.int))) a.2.1), .val (D.int a.2.2), .own 0 ((oL (eP2 (eP2 D.int D.int) (eP2 D.int D.int))) v_found_155), .val (D.int v_far_161), .non, .non, .non, .non, .non]) (ja_s 0 (ja_p (je_op (fun _ _ ha hb => pe_op op_add ha hb) (je_cb (fun _ ht => pe_callB call_len_seq (by rfl) T.z_len (by decide +kernel) ht) (ja_p (jp_var 1) ja_nil) cb_lenTm) jp_int od_add) ja_nil)) hB) (fun x166 => ja_nil))) [true, true, true, true, true, true, true, true, true, true] (fun _ => rfl) (fun x172 s170 => (jg_name 5 sc_law_put.nd)) (fun x172 s170 =>
(js_setEQ 6 D.int (fun (b175 : (Int × (List Int))) => b175.1) (fun (b175 : (Int × (List Int))) (v_place_174 : Int) => [.own 1 ((oL D.int) b175.2), .val ((eT (eP2 (eP2 D.int D.int) (eP2 D.int D.int))) a.2.1), .val (D.int a.2.2), .own 0 ((oL (eP2 (eP2 D.int D.int) (eP2 D.int D.int))) s170.2), .val (D.int v_far_161), .val (D.int x172), .val (D.int v_place_174), .non, .non, .non]) sc_law_put.nd (je_callQ (ins := i_law_digit) (mf := m_law_digit) (sl := l_law_digit) (outs := o_law_digit) (ok_law_digit T) (hr.mono (by decide)) (by rfl) T.law_digit.g T.law_digit.f.kp T.law_digit.b pass0 (arg := (s170.1, ((List.length a.2.1 : Nat) : Int))) (fun (b173 : (Int × (List Int))) => [.own 1 ((oL D.int) b173.2), .val ((eT (eP2 (eP2 D.int D.int) (eP2 D.int D.int))) a.2.1), .val (D.int a.2.2), .own 0 ((oL (eP2 (eP2 D.int D.int) (eP2 D.int D.int))) s170.2), .val (D.int v_far_161), .val (D.int x172), .non, .non, .non, .non]) (ja_s 0 (ja_p (je_cb (fun _ ht => pe_callB call_len_seq (by rfl) T.z_len (by decide +kernel) ht) (ja_p (jp_var 1) ja_nil) cb_lenTm) ja_nil)) hB) fun b175 v_place_174 =>
(js_consQ1 (fun (b178 : ((Int × Int) × (Int × Int))) => [.own 1 ((oL D.int) b175.2), .val ((eT (eP2 (eP2 D.int D.int) (eP2 D.int D.int))) a.2.1), .val (D.int a.2.2), .own 0 ((oL (eP2 (eP2 D.int D.int) (eP2 D.int D.int))) s170.2), .val (D.int v_far_161), .val (D.int x172), .val (D.int v_place_174), .val ((eP2 D.int D.int) b178.1), .val ((eP2 D.int D.int) b178.2), .non]) (j1_asgN (d := fun (b178 : ((Int × Int) × (Int × Int))) => (eP2 (eP2 D.int D.int) (eP2 D.int D.int)) b178) (je_op (fun _ _ ha hb => pe_ix ix_tup ha hb (fun _ _ => rfl)) (jp_var 1) (jp_var 6) od_ixTm) (fun b178 => jg_tup rfl (jgs_p (jg_name 7 sc_law_put.nd) (jgs_p (jg_name 8 sc_law_put.nd) jgs_nil)))) fun b178 =>
(js_setEQ 9 D.int (fun (b181 : (Int × (List Int))) => b181.1) (fun (b181 : (Int × (List Int))) (v_kind_180 : Int) => [.own 1 ((oL D.int) b181.2), .val ((eT (eP2 (eP2 D.int D.int) (eP2 D.int D.int))) a.2.1), .val (D.int a.2.2), .own 0 ((oL (eP2 (eP2 D.int D.int) (eP2 D.int D.int))) s170.2), .val (D.int v_far_161), .val (D.int x172), .val (D.int v_place_174), .val ((eP2 D.int D.int) b178.1), .val ((eP2 D.int D.int) b178.2), .val (D.int v_kind_180)]) sc_law_put.nd (je_callQ (ins := i_law_digit) (mf := m_law_digit) (sl := l_law_digit) (outs := o_law_digit) (ok_law_digit T) (hr.mono (by decide)) (by rfl) T.law_digit.g T.law_digit.f.kp T.law_digit.b pass0 (arg := (b175.2, (4 : Int))) (fun (b179 : (Int × (List Int))) => [.own 1 ((oL D.int) b179.2), .val ((eT (eP2 (eP2 D.int D.int) (eP2 D.int D.int))) a.2.1), .val (D.int a.2.2), .own 0 ((oL (eP2 (eP2 D.int D.int) (eP2 D.int D.int))) s170.2), .val (D.int v_far_161), .val (D.int x172), .val (D.int v_place_174), .val ((eP2 D.int D.int) b178.1), .val ((eP2 D.int D.int) b178.2), .non]) (ja_s 0 (ja_p jp_int ja_nil)) hB) fun b181 v_kind_180 =>
(js_cons (ρ1 := fun (n217 : (List ((Int × Int) × (Int × Int)))) => [.own 1 ((oL D.int) b181.2), .val ((eT (eP2 (eP2 D.int D.int) (eP2 D.int D.int))) a.2.1), .val (D.int a.2.2), .own 0 ((oL (eP2 (eP2 D.int D.int) (eP2 D.int D.int))) n217), .val (D.int v_far_161), .val (D.int x172), .val (D.int v_place_174), .val ((eP2 D.int D.int) b178.1), .val ((eP2 D.int D.int) b178.2), .val (D.int v_kind_180)]) (js_ifP (jt_op (fun _ _ ha hb => pt_cmpR op_eq ha hb (nomark _)) (jp_var 9) jp_int od_eqI) (js_consQ1 (fun (p216 : Unit × Nat) => [.own 1 ((oL D.int) b181.2), .val ((eT (eP2 (eP2 D.int D.int) (eP2 D.int D.int))) a.2.1), .val (D.int a.2.2), .own 0 ((oL (eP2 (eP2 D.int D.int) (eP2 D.int D.int))) (List.set s170.2 p216.2 (((b178.1.1 + (v_far_161 * b178.1.2)), b178.1.2), b178.2))), .val (D.int v_far_161), .val (D.int x172), .val (D.int v_place_174), .val ((eP2 D.int D.int) b178.1), .val ((eP2 D.int D.int) b178.2), .val (D.int v_kind_180)]) (j1_asg (d := fun (b214 : Unit) => (eP2 (eP2 D.int D.int) (eP2 D.int D.int)) (((b178.1.1 + (v_far_161 * b178.1.2)), b178.1.2), b178.2)) (je_tup (ja_el (ρa := fun _ => _) (xa := fun (x213 : Unit) => (eP2 D.int D.int) ((b178.1.1 + (v_far_161 * b178.1.2)), b178.1.2)) (je_tup (ja_el (ρa := fun _ => _) (xa := fun (x210 : Unit) => D.int (b178.1.1 + (v_far_161 * b178.1.2))) (je_opR (ρb := fun _ => _) (s := fun (y204 : Unit) => (.val (D.int (b178.1.1 + (v_far_161 * b178.1.2))))) (xb := fun (y204 : Unit) => D.int (v_far_161 * b178.1.2)) (fun _ _ ha hb => pe_op op_add ha hb) (je_op (fun _ _ ha hb => pe_ix ix_tup ha hb (fun _ _ => rfl)) (jp_var 7) jp_int (od_ixTs rfl)) (je_op (fun _ _ ha hb => pe_op op_mulX ha hb) (jp_var 4) (je_op (fun _ _ ha hb => pe_ix ix_tup ha hb (fun _ _ => rfl)) (jp_var 7) jp_int (od_ixTs rfl)) od_mul) (fun y204 => od_add)) (fun x210 => (ja_p (je_op (fun _ _ ha hb => pe_ix ix_tup ha hb (fun _ _ => rfl)) (jp_var 7) jp_int (od_ixTs rfl)) ja_nil)))) (fun x213 => (ja_p (jp_var 8) ja_nil)))) (fun b214 => (jg_sub 3 (xs := s170.2) (en := (eP2 (eP2 D.int D.int) (eP2 D.int D.int))) (y := (((b178.1.1 + (v_far_161 * b178.1.2)), b178.1.2), b178.2)) (k := v_place_174) rfl (jp_var 6)))) fun p216 =>
(js_nil [true, true, true, true, true, true, true, true, true, true] (List.set s170.2 p216.2 (((b178.1.1 + (v_far_161 * b178.1.2)), b178.1.2), b178.2)))) (js_nil [true, true, true, true, true, true, true, true, true, true] s170.2)) fun n217 =>
(js_cons (ρ1 := fun (n253 : (List ((Int × Int) × (Int × Int)))) => [.own 1 ((oL D.int) b181.2), .val ((eT (eP2 (eP2 D.int D.int) (eP2 D.int D.int))) a.2.1), .val (D.int a.2.2), .own 0 ((oL (eP2 (eP2 D.int D.int) (eP2 D.int D.int))) n253), .val (D.int v_far_161), .val (D.int x172), .val (D.int v_place_174), .val ((eP2 D.int D.int) b178.1), .val ((eP2 D.int D.int) b178.2), .val (D.int v_kind_180)]) (js_ifP (jt_op (fun _ _ ha hb => pt_cmpR op_eq ha hb (nomark _)) (jp_var 9) jp_int od_eqI) (js_consQ1 (fun (p252 : Unit × Nat) => [.own 1 ((oL D.int) b181.2), .val ((eT (eP2 (eP2 D.int D.int) (eP2 D.int D.int))) a.2.1), .val (D.int a.2.2), .own 0 ((oL (eP2 (eP2 D.int D.int) (eP2 D.int D.int))) (List.set n217 p252.2 (b178.1, ((b178.2.1 - (v_far_161 * b178.2.2)), b178.2.2)))), .val (D.int v_far_161), .val (D.int x172), .val (D.int v_place_174), .val ((eP2 D.int D.int) b178.1), .val ((eP2 D.int D.int) b178.2), .val (D.int v_kind_180)]) (j1_asg (d := fun (b250 : Unit) => (eP2 (eP2 D.int D.int) (eP2 D.int D.int)) (b178.1, ((b178.2.1 - (v_far_161 * b178.2.2)), b178.2.2))) (je_tup (ja_p (jp_var 7) (ja_el (ρa := fun _ => _) (xa := fun (x249 : Unit) => (eP2 D.int D.int) ((b178.2.1 - (v_far_161 * b178.2.2)), b178.2.2)) (je_tup (ja_el (ρa := fun _ => _) (xa := fun (x246 : Unit) => D.int (b178.2.1 - (v_far_161 * b178.2.2))) (je_opR (ρb := fun _ => _) (s := fun (y240 : Unit) => (.val (D.int (b178.2.1 - (v_far_161 * b178.2.2))))) (xb := fun (y240 : Unit) => D.int (v_far_161 * b178.2.2)) (fun _ _ ha hb => pe_op op_sub ha hb) (je_op (fun _ _ ha hb => pe_ix ix_tup ha hb (fun _ _ => rfl)) (jp_var 8) jp_int (od_ixTs rfl)) (je_op (fun _ _ ha hb => pe_op op_mulX ha hb) (jp_var 4) (je_op (fun _ _ ha hb => pe_ix ix_tup ha hb (fun _ _ => rfl)) (jp_var 8) jp_int (od_ixTs rfl)) od_mul) (fun y240 => od_sub)) (fun x246 => (ja_p (je_op (fun _ _ ha hb => pe_ix ix_tup ha hb (fun _ _ => rfl)) (jp_var 8) jp_int (od_ixTs rfl)) ja_nil)))) (fun x249 => ja_nil)))) (fun b250 => (jg_sub 3 (xs := n217) (en := (eP2 (eP2 D.int D.int) (eP2 D.int D.int))) (y := (b178.1, ((b178.2.1 - (v_far_161 * b178.2.2)), b178.2.2))) (k := v_place_174) rfl (jp_var 6)))) fun p252 =>
(js_nil [true, true, true, true, true, true, true, true, true, true] (List.set n217 p252.2 (b178.1, ((b178.2.1 - (v_far_161 * b178.2.2)), b178.2.2))))) (js_nil [true, true, true, true, true, true, true, true, true, true] n217)) fun n253 =>
(js_cons (ρ1 := fun (n267 : ((List Int) × (List ((Int × Int) × (Int × Int))))) => [.own 1 ((oL D.int) n267.1), .val ((eT (eP2 (eP2 D.int D.int) (eP2 D.int D.int))) a.2.1), .val (D.int a.2.2), .own 0 ((oL (eP2 (eP2 D.int D.int) (eP2 D.int D.int))) n267.2), .val (D.int v_far_161), .val (D.int x172), .val (D.int v_place_174), .val ((eP2 D.int D.int) b178.1), .val ((eP2 D.int D.int) b178.2), .val (D.int v_kind_180)]) (js_ifP (jt_op (fun _ _ ha hb => pt_cmpR op_eq ha hb (nomark _)) (jp_var 9) jp_int od_eqI) (js_consQ1 (fun (p266 : ((Int × Int) × (List Int)) × Nat) => [.own 1 ((oL D.int) p266.1.2), .val ((eT (eP2 (eP2 D.int D.int) (eP2 D.int D.int))) a.2.1), .val (D.int a.2.2), .own 0 ((oL (eP2 (eP2 D.int D.int) (eP2 D.int D.int))) (List.set n253 p266.2 (p266.1.1, b178.2))), .val (D.int v_far_161), .val (D.int x172), .val (D.int v_place_174), .val ((eP2 D.int D.int) b178.1), .val ((eP2 D.int D.int) b178.2), .val (D.int v_kind_180)]) (j1_asg (d := fun (b264 : ((Int × Int) × (List Int))) => (eP2 (eP2 D.int D.int) (eP2 D.int D.int)) (b264.1, b178.2)) (je_tup (ja_el (xa := fun (x263 : ((Int × Int) × (List Int))) => (eP2 D.int D.int) x263.1) (je_callQ (ins := i_law_fraction) (mf := m_law_fraction) (sl := l_law_fraction) (outs := o_law_fraction) (ok_law_fraction T) (hr.mono (by decide)) (by rfl) T.law_fraction.g T.law_fraction.f.kp T.law_fraction.b pass0 (arg := (b181.2, a.2.2)) (fun (b262 : ((Int × Int) × (List Int))) => [.own 1 ((oL D.int) b262.2), .val ((eT (eP2 (eP2 D.int D.int) (eP2 D.int D.int))) a.2.1), .val (D.int a.2.2), .own 0 ((oL (eP2 (eP2 D.int D.int) (eP2 D.int D.int))) n253), .val (D.int v_far_161), .val (D.int x172), .val (D.int v_place_174), .val ((eP2 D.int D.int) b178.1), .val ((eP2 D.int D.int) b178.2), .val (D.int v_kind_180)]) (ja_s 0 (ja_p (jp_var 2) ja_nil)) hB) (fun x263 => (ja_p (jp_var 8) ja_nil)))) (fun b264 => (jg_sub 3 (xs := n253) (en := (eP2 (eP2 D.int D.int) (eP2 D.int D.int))) (y := (b264.1, b178.2)) (k := v_place_174) rfl (jp_var 6)))) fun p266 =>
(js_nil [true, true, true, true, true, true, true, true, true, true] (p266.1.2, (List.set n253 p266.2 (p266.1.1, b178.2))))) (js_nil [true, true, true, true, true, true, true, true, true, true] (b181.2, n253))) fun n267 =>
(js_nil [true, true, true, true, true, false, false, false, false, false] (n267.1, n267.2)))))))))) fun n171 =>
(js_one (js_retP (n171.2, n171.1) [true, false, false, false, false, true, true, true, true, true] (je_bor 3 (d := (eL (eP2 (eP2 D.int D.int) (eP2 D.int D.int))) n171.2) (ρ1 := fun (b268 : Unit) => [.own 1 ((oL D.int) n171.1), .val ((eT (eP2 (eP2 D.int D.int) (eP2 D.int D.int))) a.2.1), .val (D.int a.2.2), .val ((eL (eP2 (eP2 D.int D.int) (eP2 D.int D.int))) n171.2), .val (D.int v_far_161), .non, .non, .non, .non, .non]) (ρ2 := fun (b268 : Unit) => [.own 1 ((oL D.int) n171.1), .val ((eT (eP2 (eP2 D.int D.int) (eP2 D.int D.int))) a.2.1), .val (D.int a.2.2), .non, .val (D.int v_far_161), .non, .non, .non, .non, .non]) (ρ' := fun (b268 : Unit) => [.own 1 ((oL D.int) n171.1), .val ((eT (eP2 (eP2 D.int D.int) (eP2 D.int D.int))) a.2.1), .val (D.int a.2.2), .own 0 ((oL (eP2 (eP2 D.int D.int) (eP2 D.int D.int))) n171.2), .val (D.int v_far_161), .non, .non, .non, .non, .non]) (sl := fun (b268 : Unit) => .val ((eT (eP2 (eP2 D.int D.int) (eP2 D.int D.int))) n171.2)) rfl (toD_oL _ _) (fun _ hB269 => (have hB := noRs hB269 hB; (je_cb (fun _ ht => pe_callTy call_tuple_of (by rfl) T.z_tuple (by decide +kernel) ht) (ja_p (jp_var 3) ja_nil) cb_tupL))) (fun _ => (.cons (.o (fl_oL fl_int _)) (.cons .k (.cons .k (.cons .f (.cons .k (.cons .f (.cons .f (.cons .f (.cons .f (.cons .f .nil))))))))))) (fun _ => (fl_T (fl_P2 (fl_P2 fl_int fl_int) (fl_P2 fl_int fl_int))) _) (fun _ => rfl))))))))
/-! law_is -/
abbrev s_law_is : Stmt := topS 20
theorem sc_law_is : FnScope ["_law_found", "_law_due_here", "_law_number"] ["_law_found", "_law_due_here"] (defScope s_law_is) := ⟨rfl, rfl, rfl, by decide +kernel, rfl, by decide +kernel, by decide +kernel⟩
noncomputable def mb_law_is (v_found : (Int × (Int × Int))) (v_due_here : (Int × (Int × Int))) : R (Fl Unit Unit Bool) :=
(bindF (if ((!(isTup ((eP2 D.int (eP2 D.int D.int)) v_found))) || ((!decide ((2 : Int) = (2 : Int))) || ((!(isTup ((eP2 D.int D.int) v_found.2))) || (!decide (v_found = v_due_here))))) = true then (R.ok (.rt false)) else (R.ok (.nx ()))) fun n294 =>
(((R.ok ()).bind fun (b301 : Unit) => (R.guard (List.length [(v_found.1, v_found.2.1, v_found.2.2).1, (v_found.1, v_found.2.1, v_found.2.2).2.1, (v_found.1, v_found.2.1, v_found.2.2).2.2] ≤ sizeLine)).bind fun _ => R.ok b301).bind fun (b309 : Unit) => R.ok (.rt (!(List.any (List.map (fun (x303 : Int) => (isBool (D.int x303))) (List.filter (fun (x303 : Int) => true) [(v_found.1, v_found.2.1, v_found.2.2).1, (v_found.1, v_found.2.1, v_found.2.2).2.1, (v_found.1, v_found.2.1, v_found.2.2).2.2])) id)))))
noncomputable def m_law_is (a : ((Int × (Int × Int)) × (Int × (Int × Int)))) : R Bool := fin0 (mb_law_is a.1 a.2)
abbrev i_law_is (a : ((Int × (Int × Int)) × (Int × (Int × Int)))) : List Slot := [.val ((eP2 D.int (eP2 D.int D.int)) a.1), .val ((eP2 D.int (eP2 D.int D.int)) a.2)]
abbrev l_law_is (b : Bool) : Slot := .val (D.bool b)
abbrev o_law_is (b : Bool) : List Slot := [.non, .non]
theorem ok_law_is {P : Program} {w : World} {K : PySem.W.Frag} {mg : Str → Option Value} {base : Heap} (T : Top K mg) : FnG P w K mg base CX0 1 T.law_is.a T.law_is.d ["_law_found", "_law_due_here"] (spM K i_law_is m_law_is l_law_is o_law_is) := by
  show FnG P w K mg base CX0 (0 + 1) T.law_is.a T.law_is.d ["_law_found", "_law_due_here"] (spM K i_law_is (fun (a : ((Int × (Int × Int)) × (Int × (Int × Int)))) => fin0 (mb_law_is a.1 a.2)) l_law_is o_law_is)
  refine fn_ok (n1 := fun _ => []) (c1 := fun _ => []) (k1 := fun _ => []) (ins := i_law_is) (sl := l_law_is) (outs := o_law_is) (fun (a : ((Int × (Int × Int)) × (Int × (Int × Int)))) => mb_law_is a.1 a.2) 1 T.law_is.f sc_law_is rfl (fun _ => rfl) (fun _ => rfl) (fun _ => rfl) (fun cdv A outer s H E hr B hB a => ?_)
  show JSs _ B _ _ (mb_law_is a.1 a.2) _
  unfold mb_law_is
  exact ((js_cons (ρ1 := fun (n294 : Unit) => [.val ((eP2 D.int (eP2 D.int D.int)) a.1), .val ((eP2 D.int (eP2 D.int D.int)) a.2), .non]) (js_ifP (jt_w (tw_or (jt_not (jt_val (je_isi isi_tuple (jp_var 0) T.z_isinstance T.z_tuple (by decide +kernel)))) (tw_or (jt_op (fun _ _ ha hb => pt_cmpR op_ne ha hb (nomark _)) (je_cb (fun _ ht => pe_callB call_len_seq (by rfl) T.z_len (by decide +kernel) ht) (ja_p (jp_var 0) ja_nil) cb_lenP2) jp_int od_neI) (tw_or (jt_not (jt_val (je_isi isi_tuple (je_op (fun _ _ ha hb => pe_ix ix_tup ha hb (fun _ _ => rfl)) (jp_var 0) jp_int (od_ixTs rfl)) T.z_isinstance T.z_tuple (by decide +kernel)))) (jw_or1 (jt_op (fun _ _ ha hb => pt_cmpR (op_neD (un64 hr)) ha hb (nomark _)) (jp_var 0) (jp_var 1) (od_neD (ee_p2 (EqE.up ee_int) (ee_p2 ee_int ee_int))))))))) (js_one (js_retP false [false, false, true] jp_bl)) (js_nil [true, true, true] ())) fun n294 =>
(js_one (js_ret (fun (b309 : Unit) => (!(List.any (List.map (fun (x303 : Int) => (isBool (D.int x303))) (List.filter (fun (x303 : Int) => true) [(a.1.1, a.1.2.1, a.1.2.2).1, (a.1.1, a.1.2.1, a.1.2.2).2.1, (a.1.1, a.1.2.1, a.1.2.2).2.2])) id))) [false, false, true] (je_not (je_cbN (ρa := fun _ => _) (s := fun (c307 : Unit) => .val (D.bool (List.any (List.map (fun (x303 : Int) => (isBool (D.int x303))) (List.filter (fun (x303 : Int) => true) [(a.1.1, a.1.2.1, a.1.2.2).1, (a.1.1, a.1.2.1, a.1.2.2).2.1, (a.1.1, a.1.2.1, a.1.2.2).2.2])) id))) (fun _ ht => pe_callB (cr_any rfl) (by rfl) T.z_any (by decide +kernel) ht) (ja_el (ρa := fun _ => _) (xa := fun (x306 : Unit) => (eL D.bool) (List.map (fun (x303 : Int) => (isBool (D.int x303))) (List.filter (fun (x303 : Int) => true) [(a.1.1, a.1.2.1, a.1.2.2).1, (a.1.1, a.1.2.1, a.1.2.2).2.1, (a.1.1, a.1.2.1, a.1.2.2).2.2]))) (je_frzL (v := fun (b305 : Unit) => (List.map (fun (x303 : Int) => (isBool (D.int x303))) (List.filter (fun (x303 : Int) => true) [(a.1.1, a.1.2.1, a.1.2.2).1, (a.1.1, a.1.2.1, a.1.2.2).2.1, (a.1.1, a.1.2.1, a.1.2.2).2.2]))) (je_lcP (xs := fun (b301 : Unit) => [(a.1.1, a.1.2.1, a.1.2.2).1, (a.1.1, a.1.2.1, a.1.2.2).2.1, (a.1.1, a.1.2.1, a.1.2.2).2.2]) (ea := D.int) (ts := [2]) [("_law_number", 2)] D.bool (fun (x303 : Int) => [.val ((eP2 D.int (eP2 D.int D.int)) a.1), .val ((eP2 D.int (eP2 D.int D.int)) a.2), .val (D.int x303)]) (fun (x303 : Int) => true) (fun (x303 : Int) => (isBool (D.int x303))) rfl sc_law_is.nd (ji_tup (show JP _ _ _ _ ((eT D.int) [(a.1.1, a.1.2.1, a.1.2.2).1, (a.1.1, a.1.2.1, a.1.2.2).2.1, (a.1.1, a.1.2.1, a.1.2.2).2.2]) from (je_op (fun _ _ ha hb => pe_op op_catT ha hb) (je_tup (ja_p (je_op (fun _ _ ha hb => pe_ix ix_tup ha hb (fun _ _ => rfl)) (jp_var 0) jp_int (od_ixTs rfl)) ja_nil)) (je_op (fun _ _ ha hb => pe_ix ix_tup ha hb (fun _ _ => rfl)) (jp_var 0) jp_int (od_ixTs rfl)) (od_catT (ds := [D.int a.1.1]) (es := [D.int a.1.2.1, D.int a.1.2.2]) (by intro z; cases z) (by intro z; cases z) (Nat.le_of_ble_eq_true rfl))))) (blkOk_by (N := ["_law_found", "_law_due_here", "_law_number"]) (sc := defScope s_law_is) (by decide +kernel)) (fun _ _ _ _ _ _ hB304 x303 => (have hB := noRs hB304 hB; (jn_name 2 sc_law_is.nd))) (fun _ _ _ _ _ _ hB304 x303 => (have hB := noRs hB304 hB; jts_t)) (fun _ _ _ _ _ _ hB304 x303 => (have hB := noRs hB304 hB; (je_isi isi_bool (jp_var 2) T.z_isinstance T.z_bool (by decide +kernel)))))) (fun x306 => ja_nil)) (fun c307 => cb_anyL)))))))
/-! without_sign -/
abbrev s_without_sign : Stmt := topS 6
theorem sc_without_sign : FnScope ["one"] ["one"] (defScope s_without_sign) := ⟨rfl, rfl, rfl, by decide +kernel, rfl, by decide +kernel, by decide +kernel⟩
noncomputable def mb_without_sign (v_one : (Int × Int)) : R (Fl Unit Unit (Int × Int)) :=
(R.ok (.rt ((if v_one.1 < 0 then -v_one.1 else v_one.1), v_one.2)))
noncomputable def m_without_sign (a : (Int × Int)) : R (Int × Int) := fin0 (mb_without_sign a)
abbrev i_without_sign (a : (Int × Int)) : List Slot := [.val ((eP2 D.int D.int) a)]
abbrev l_without_sign (b : (Int × Int)) : Slot := .val ((eP2 D.int D.int) b)
abbrev o_without_sign (b : (Int × Int)) : List Slot := [.non]
theorem ok_without_sign {P : Program} {w : World} {K : PySem.W.Frag} {mg : Str → Option Value} {base : Heap} (T : Top K mg) : FnG P w K mg base CX0 1 T.without_sign.a T.without_sign.d ["one"] (spM K i_without_sign m_without_sign l_without_sign o_without_sign) := by
  show FnG P w K mg base CX0 (0 + 1) T.without_sign.a T.without_sign.d ["one"] (spM K i_without_sign (fun (a : (Int × Int)) => fin0 (mb_without_sign a)) l_without_sign o_without_sign)
  refine fn_ok (n1 := fun _ => []) (c1 := fun _ => []) (k1 := fun _ => []) (ins := i_without_sign) (sl := l_without_sign) (outs := o_without_sign) (fun (a : (Int × Int)) => mb_without_sign a) 0 T.without_sign.f sc_without_sign rfl (fun _ => rfl) (fun _ => rfl) (fun _ => rfl) (fun cdv A outer s H E hr B hB a => ?_)
  show JSs _ B _ _ (mb_without_sign a) _
  unfold mb_without_sign
  exact ((js_one (js_retP ((if a.1 < 0 then -a.1 else a.1), a.2) [false] (je_tup (ja_p (je_cb (fun _ ht => pe_callB call_abs (by rfl) T.z_abs (by decide +kernel) ht) (ja_p (je_op (fun _ _ ha hb => pe_ix ix_tup ha hb (fun _ _ => rfl)) (jp_var 0) jp_int (od_ixTs rfl)) ja_nil) cb_abs) (ja_p (je_op (fun _ _ ha hb => pe_ix ix_tup ha hb (fun _ _ => rfl)) (jp_var 0) jp_int (od_ixTs rfl)) ja_nil))))))
/-! divisor -/
abbrev s_divisor : Stmt := topS 1
theorem sc_divisor : FnScope ["one", "other"] ["one", "other"] (defScope s_divisor) := ⟨rfl, rfl, rfl, by decide +kernel, rfl, by decide +kernel, by decide +kernel⟩
noncomputable def mb_divisor (v_one : Int) (v_other : Int) : R (Fl Unit Unit Int) :=
(bindF (whR (fun (s315 : (Int × Int)) => R.ok (decide (s315.2 > (0 : Int)))) (fun s315 =>
((R.guard (s315.2 ≠ (0 : Int))).bind fun (b323 : Unit) =>
(R.ok (.nx (s315.2, (Int.fmod s315.1 s315.2)))))) ((if v_one < 0 then -v_one else v_one), (if v_other < 0 then -v_other else v_other))) fun n316 =>
(R.ok (.rt n316.1)))
noncomputable def m_divisor (a : (Int × Int)) : R Int := fin0 (mb_divisor a.1 a.2)
abbrev i_divisor (a : (Int × Int)) : List Slot := [.val (D.int a.1), .val (D.int a.2)]
abbrev l_divisor (b : Int) : Slot := .val (D.int b)
abbrev o_divisor (b : Int) : List Slot := [.non, .non]
theorem ok_divisor {P : Program} {w : World} {K : PySem.W.Frag} {mg : Str → Option Value} {base : Heap} (T : Top K mg) : FnG P w K mg base CX0 1 T.divisor.a T.divisor.d ["one", "other"] (spM K i_divisor m_divisor l_divisor o_divisor) := by
  show FnG P w K mg base CX0 (0 + 1) T.divisor.a T.divisor.d ["one", "other"] (spM K i_divisor (fun (a : (Int × Int)) => fin0 (mb_divisor a.1 a.2)) l_divisor o_divisor)
  refine fn_ok (n1 := fun _ => []) (c1 := fun _ => []) (k1 := fun _ => []) (ins := i_divisor) (sl := l_divisor) (outs := o_divisor) (fun (a : (Int × Int)) => mb_divisor a.1 a.2) 0 T.divisor.f sc_divisor rfl (fun _ => rfl) (fun _ => rfl) (fun _ => rfl) (fun cdv A outer s H E hr B hB a => ?_)
  show JSs _ B _ _ (mb_divisor a.1 a.2) _
  unfold mb_divisor
  exact ((js_consQP [.val (D.int (if a.1 < 0 then -a.1 else a.1)), .val (D.int (if a.2 < 0 then -a.2 else a.2))] (j1_par 0 1 (d1 := fun (b314 : Unit) => D.int (if a.1 < 0 then -a.1 else a.1)) (d2 := fun (b314 : Unit) => D.int (if a.2 < 0 then -a.2 else a.2)) rfl sc_divisor.nd (ja_p (je_cb (fun _ ht => pe_callB call_abs (by rfl) T.z_abs (by decide +kernel) ht) (ja_p (jp_var 0) ja_nil) cb_abs) (ja_p (je_cb (fun _ ht => pe_callB call_abs (by rfl) T.z_abs (by decide +kernel) ht) (ja_p (jp_var 1) ja_nil) cb_abs) ja_nil)))
(js_cons (ρ1 := fun (n316 : (Int × Int)) => [.val (D.int n316.1), .val (D.int n316.2)]) (js_while (fun (s315 : (Int × Int)) => [.val (D.int s315.1), .val (D.int s315.2)]) PassesOwn.never ((if a.1 < 0 then -a.1 else a.1), (if a.2 < 0 then -a.2 else a.2)) [true, true] rfl (fun s315 => (jt_pb (jt_op (fun _ _ ha hb => pt_cmpR op_gt ha hb (nomark _)) (jp_var 1) jp_int od_gt))) (fun s315 =>
(js_consQ1 (fun (b323 : Unit) => [.val (D.int s315.2), .val (D.int (Int.fmod s315.1 s315.2))]) (j1_par 0 1 (d1 := fun (b323 : Unit) => D.int s315.2) (d2 := fun (b323 : Unit) => D.int (Int.fmod s315.1 s315.2)) rfl sc_divisor.nd (ja_p (jp_var 1) (ja_el (ρa := fun _ => _) (xa := fun (x322 : Unit) => D.int (Int.fmod s315.1 s315.2)) (je_op (fun _ _ ha hb => pe_op op_modN ha hb) (jp_var 0) (jp_var 1) od_mod) (fun x322 => ja_nil)))) fun b323 =>
(js_nil [true, true] (s315.2, (Int.fmod s315.1 s315.2)))))) fun n316 =>
(js_one (js_retP n316.1 [false, false] (jp_var 0))))))
/-! fraction -/
abbrev s_fraction : Stmt := topS 2
theorem sc_fraction : FnScope ["n", "d", "by"] ["n", "d"] (defScope s_fraction) := ⟨rfl, rfl, rfl, by decide +kernel, rfl, by decide +kernel, by decide +kernel⟩
noncomputable def mb_fraction (v_n : Int) (v_d : Int) : R (Fl Unit Unit (Int × Int)) :=
((m_divisor (v_n, v_d)).bind fun (b325 : Int) => lt b325 fun v_by_324 =>
(bindF (if (decide (v_d < (0 : Int))) = true then (lt (-v_by_324) fun v_by_330 =>
(R.ok (.nx v_by_330))) else (R.ok (.nx v_by_324))) fun n331 =>
(((R.guard (divOk v_n n331)).bind fun (x334 : Unit) => (R.guard (divOk v_d n331)).bind fun (z338 : Unit) => R.ok (x334, z338)).bind fun (b339 : (Unit × Unit)) => R.ok (.rt ((Int.fdiv v_n n331), (Int.fdiv v_d n331))))))
noncomputable def m_fraction (a : (Int × Int)) : R (Int × Int) := fin0 (mb_fraction a.1 a.2)
abbrev i_fraction (a : (Int × Int)) : List Slot := [.val (D.int a.1), .val (D.int a.2)]
abbrev l_fraction (b : (Int × Int)) : Slot := .val ((eP2 D.int D.int) b)
abbrev o_fraction (b : (Int × Int)) : List Slot := [.non, .non]
theorem ok_fraction {P : Program} {w : World} {K : PySem.W.Frag} {mg : Str → Option Value} {base : Heap} (T : Top K mg) : FnG P w K mg base CX0 2 T.fraction.a T.fraction.d ["n", "d"] (spM K i_fraction m_fraction l_fraction o_fraction) := by
  show FnG P w K mg base CX0 (1 + 1) T.fraction.a T.fraction.d ["n", "d"] (spM K i_fraction (fun (a : (Int × Int)) => fin0 (mb_fraction a.1 a.2)) l_fraction o_fraction)
  refine fn_ok (n1 := fun _ => []) (c1 := fun _ => []) (k1 := fun _ => []) (ins := i_fraction) (sl := l_fraction) (outs := o_fraction) (fun (a : (Int × Int)) => mb_fraction a.1 a.2) 1 T.fraction.f sc_fraction rfl (fun _ => rfl) (fun _ => rfl) (fun _ => rfl) (fun cdv A outer s H E hr B hB a => ?_)
  show JSs _ B _ _ (mb_fraction a.1 a.2) _
  unfold mb_fraction
  exact ((js_setEQ 2 D.int (fun (b325 : Int) => b325) (fun (b325 : Int) (v_by_324 : Int) => [.val (D.int a.1), .val (D.int a.2), .val (D.int v_by_324)]) sc_fraction.nd (je_callV (ins := i_divisor) (mf := m_divisor) (sl := l_divisor) (outs := o_divisor) (ok_divisor T) (hr.mono (by decide)) (by rfl) T.divisor.g T.divisor.f.kp T.divisor.b pass0 (arg := (a.1, a.2)) (ja_p (jp_var 0) (ja_p (jp_var 1) ja_nil)) hB) fun b325 v_by_324 =>
(js_cons (ρ1 := fun (n331 : Int) => [.val (D.int a.1), .val (D.int a.2), .val (D.int n331)]) (js_ifP (jt_op (fun _ _ ha hb => pt_cmpR op_lt ha hb (nomark _)) (jp_var 1) jp_int od_lt) (js_setPQ 2 D.int (-v_by_324) (fun (v_by_330 : Int) => [.val (D.int a.1), .val (D.int a.2), .val (D.int v_by_330)]) sc_fraction.nd (jp_neg (jp_var 2)) fun v_by_330 =>
(js_nil [true, true, true] v_by_330)) (js_nil [true, true, true] v_by_324)) fun n331 =>
(js_one (js_ret (fun (b339 : (Unit × Unit)) => ((Int.fdiv a.1 n331), (Int.fdiv a.2 n331))) [false, false, false] (je_tup (ja_e (ρ' := fun _ _ => _) (ρa := fun _ => _) (xa := fun (x334 : Unit) => D.int (Int.fdiv a.1 n331)) (je_op (fun _ _ ha hb => pe_op op_fdivZ ha hb) (jp_var 0) (jp_var 2) od_fdiv) (fun x334 => (ja_el (ρa := fun _ => _) (xa := fun (x337 : Unit) => D.int (Int.fdiv a.2 n331)) (je_op (fun _ _ ha hb => pe_op op_fdivZ ha hb) (jp_var 1) (jp_var 2) od_fdiv) (fun x337 => ja_nil))))))))))
/-! less -/
abbrev s_less : Stmt := topS 3
theorem sc_less : FnScope ["one", "other"] ["one", "other"] (defScope s_less) := ⟨rfl, rfl, rfl, by decide +kernel, rfl, by decide +kernel, by decide +kernel⟩
noncomputable def mb_less (v_one : (Int × Int)) (v_other : (Int × Int)) : R (Fl Unit Unit (Int × Int)) :=
((((op2 (R.guard (CMulX v_one.1 v_other.2)) (fun (x346 : Unit) => R.guard (CMulX v_other.1 v_one.2)) (fun (x346 : Unit) (y347 : Unit) => R.ok ())).bind fun (x354 : (Unit × Unit × Unit)) => (R.guard (CMulX v_one.2 v_other.2)).bind fun (z362 : Unit) => R.ok (x354, z362)).bind fun (c363 : ((Unit × Unit × Unit) × Unit)) => (m_fraction (((v_one.1 * v_other.2) - (v_other.1 * v_one.2)), (v_one.2 * v_other.2))).bind fun (z364 : (Int × Int)) => R.ok (c363, z364)).bind fun (b365 : (((Unit × Unit × Unit) × Unit) × (Int × Int))) => R.ok (.rt b365.2))
noncomputable def m_less (a : ((Int × Int) × (Int × Int))) : R (Int × Int) := fin0 (mb_less a.1 a.2)
abbrev i_less (a : ((Int × Int) × (Int × Int))) : List Slot := [.val ((eP2 D.int D.int) a.1), .val ((eP2 D.int D.int) a.2)]
abbrev l_less (b : (Int × Int)) : Slot := .val ((eP2 D.int D.int) b)
abbrev o_less (b : (Int × Int)) : List Slot := [.non, .non]
theorem ok_less {P : Program} {w : World} {K : PySem.W.Frag} {mg : Str → Option Value} {base : Heap} (T : Top K mg) : FnG P w K mg base CX0 3 T.less.a T.less.d ["one", "other"] (spM K i_less m_less l_less o_less) := by
  show FnG P w K mg base CX0 (2 + 1) T.less.a T.less.d ["one", "other"] (spM K i_less (fun (a : ((Int × Int) × (Int × Int))) => fin0 (mb_less a.1 a.2)) l_less o_less)
  refine fn_ok (n1 := fun _ => []) (c1 := fun _ => []) (k1 := fun _ => []) (ins := i_less) (sl := l_less) (outs := o_less) (fun (a : ((Int × Int) × (Int × Int))) => mb_less a.1 a.2) 0 T.less.f sc_less rfl (fun _ => rfl) (fun _ => rfl) (fun _ => rfl) (fun cdv A outer s H E hr B hB a => ?_)
  show JSs _ B _ _ (mb_less a.1 a.2) _
  unfold mb_less
  exact ((js_one (js_ret (fun (b365 : (((Unit × Unit × Unit) × Unit) × (Int × Int))) => b365.2) [false, false] (je_callVE (ρa := fun _ => _) (ins := i_fraction) (mf := m_fraction) (sl := l_fraction) (outs := o_fraction) (ok_fraction T) (hr.mono (by decide)) (by rfl) T.fraction.g T.fraction.f.kp T.fraction.b pass0 (arg := fun (c363 : ((Unit × Unit × Unit) × Unit)) => (((a.1.1 * a.2.2) - (a.2.1 * a.1.2)), (a.1.2 * a.2.2))) (ja_e (ρ' := fun _ _ => _) (ρa := fun _ => _) (xa := fun (x354 : (Unit × Unit × Unit)) => D.int ((a.1.1 * a.2.2) - (a.2.1 * a.1.2))) (je_op2 (ρa := fun _ => _) (ρb := fun _ _ => _) (s := fun (x346 : Unit) (y347 : Unit) (z0 : Unit) => (.val (D.int ((a.1.1 * a.2.2) - (a.2.1 * a.1.2))))) (xa := fun (x346 : Unit) => D.int (a.1.1 * a.2.2)) (xb := fun (x346 : Unit) (y347 : Unit) => D.int (a.2.1 * a.1.2)) (fun _ _ ha hb => pe_op op_sub ha hb) (je_op (fun _ _ ha hb => pe_op op_mulX ha hb) (je_op (fun _ _ ha hb => pe_ix ix_tup ha hb (fun _ _ => rfl)) (jp_var 0) jp_int (od_ixTs rfl)) (je_op (fun _ _ ha hb => pe_ix ix_tup ha hb (fun _ _ => rfl)) (jp_var 1) jp_int (od_ixTs rfl)) od_mul) (fun x346 => (je_op (fun _ _ ha hb => pe_op op_mulX ha hb) (je_op (fun _ _ ha hb => pe_ix ix_tup ha hb (fun _ _ => rfl)) (jp_var 1) jp_int (od_ixTs rfl)) (je_op (fun _ _ ha hb => pe_ix ix_tup ha hb (fun _ _ => rfl)) (jp_var 0) jp_int (od_ixTs rfl)) od_mul)) (fun x346 y347 => od_sub)) (fun x354 => (ja_el (ρa := fun _ => _) (xa := fun (x361 : Unit) => D.int (a.1.2 * a.2.2)) (je_op (fun _ _ ha hb => pe_op op_mulX ha hb) (je_op (fun _ _ ha hb => pe_ix ix_tup ha hb (fun _ _ => rfl)) (jp_var 0) jp_int (od_ixTs rfl)) (je_op (fun _ _ ha hb => pe_ix ix_tup ha hb (fun _ _ => rfl)) (jp_var 1) jp_int (od_ixTs rfl)) od_mul) (fun x361 => ja_nil)))) hB))))
/-! sign -/
abbrev s_sign : Stmt := topS 4
theorem sc_sign : FnScope ["one"] ["one"] (defScope s_sign) := ⟨rfl, rfl, rfl, by decide +kernel, rfl, by decide +kernel, by decide +kernel⟩
noncomputable def mb_sign (v_one : (Int × Int)) : R (Fl Unit Unit Int) :=
(R.ok (.rt ((if (decide (v_one.1 > (0 : Int))) = true then (1 : Int) else 0) - (if (decide (v_one.1 < (0 : Int))) = true then (1 : Int) else 0))))
noncomputable def m_sign (a : (Int × Int)) : R Int := fin0 (mb_sign a)
abbrev i_sign (a : (Int × Int)) : List Slot := [.val ((eP2 D.int D.int) a)]
abbrev l_sign (b : Int) : Slot := .val (D.int b)
abbrev o_sign (b : Int) : List Slot := [.non]
theorem ok_sign {P : Program} {w : World} {K : PySem.W.Frag} {mg : Str → Option Value} {base : Heap} (T : Top K mg) : FnG P w K mg base CX0 1 T.sign.a T.sign.d ["one"] (spM K i_sign m_sign l_sign o_sign) := by
  show FnG P w K mg base CX0 (0 + 1) T.sign.a T.sign.d ["one"] (spM K i_sign (fun (a : (Int × Int)) => fin0 (mb_sign a)) l_sign o_sign)
  refine fn_ok (n1 := fun _ => []) (c1 := fun _ => []) (k1 := fun _ => []) (ins := i_sign) (sl := l_sign) (outs := o_sign) (fun (a : (Int × Int)) => mb_sign a) 0 T.sign.f sc_sign rfl (fun _ => rfl) (fun _ => rfl) (fun _ => rfl) (fun cdv A outer s H E hr B hB a => ?_)
  show JSs _ B _ _ (mb_sign a) _
  unfold mb_sign
  exact ((js_one (js_retP ((if (decide (a.1 > (0 : Int))) = true then (1 : Int) else 0) - (if (decide (a.1 < (0 : Int))) = true then (1 : Int) else 0)) [false] (je_op (fun _ _ ha hb => pe_op op_sub ha hb) (je_cb (fun _ ht => pe_callTy call_int1 (by rfl) T.z_int (by decide +kernel) ht) (ja_p (je_op (fun _ _ ha hb => pe_cmpR op_gt ha hb (nomark _)) (je_op (fun _ _ ha hb => pe_ix ix_tup ha hb (fun _ _ => rfl)) (jp_var 0) jp_int (od_ixTs rfl)) jp_int od_gt) ja_nil) cb_intB) (je_cb (fun _ ht => pe_callTy call_int1 (by rfl) T.z_int (by decide +kernel) ht) (ja_p (je_op (fun _ _ ha hb => pe_cmpR op_lt ha hb (nomark _)) (je_op (fun _ _ ha hb => pe_ix ix_tup ha hb (fun _ _ => rfl)) (jp_var 0) jp_int (od_ixTs rfl)) jp_int od_lt) ja_nil) cb_intB) od_sub))))
/-! greater -/
abbrev s_greater : Stmt := topS 7
theorem sc_greater : FnScope ["one", "other"] ["one", "other"] (defScope s_greater) := ⟨rfl, rfl, rfl, by decide +kernel, rfl, by decide +kernel, by decide +kernel⟩
noncomputable def mb_greater (v_one : (Int × Int)) (v_other : (Int × Int)) : R (Fl Unit Unit (Int × Int)) :=
(bindF (((m_less (v_other, v_one)).bind fun (c386 : (Int × Int)) => (m_sign c386).bind fun (z387 : Int) => R.ok (c386, z387)).bind fun (b391 : ((Int × Int) × Int)) => if (decide (b391.2 > (0 : Int))) = true then (R.ok (.rt v_other)) else (R.ok (.nx ()))) fun n392 =>
(R.ok (.rt v_one)))
noncomputable def m_greater (a : ((Int × Int) × (Int × Int))) : R (Int × Int) := fin0 (mb_greater a.1 a.2)
abbrev i_greater (a : ((Int × Int) × (Int × Int))) : List Slot := [.val ((eP2 D.int D.int) a.1), .val ((eP2 D.int D.int) a.2)]
abbrev l_greater (b : (Int × Int)) : Slot := .val ((eP2 D.int D.int) b)
abbrev o_greater (b : (Int × Int)) : List Slot := [.non, .non]
theorem ok_greater {P : Program} {w : World} {K : PySem.W.Frag} {mg : Str → Option Value} {base : Heap} (T : Top K mg) : FnG P w K mg base CX0 4 T.greater.a T.greater.d ["one", "other"] (spM K i_greater m_greater l_greater o_greater) := by
  show FnG P w K mg base CX0 (3 + 1) T.greater.a T.greater.d ["one", "other"] (spM K i_greater (fun (a : ((Int × Int) × (Int × Int))) => fin0 (mb_greater a.1 a.2)) l_greater o_greater)
  refine fn_ok (n1 := fun _ => []) (c1 := fun _ => []) (k1 := fun _ => []) (ins := i_greater) (sl := l_greater) (outs := o_greater) (fun (a : ((Int × Int) × (Int × Int))) => mb_greater a.1 a.2) 0 T.greater.f sc_greater rfl (fun _ => rfl) (fun _ => rfl) (fun _ => rfl) (fun cdv A outer s H E hr B hB a => ?_)
  show JSs _ B _ _ (mb_greater a.1 a.2) _
  unfold mb_greater
  exact ((js_cons (ρ1 := fun (n392 : Unit) => [.val ((eP2 D.int D.int) a.1), .val ((eP2 D.int D.int) a.2)]) (js_if (jt_opL (ρa := fun _ => _) (bn := fun (x388 : ((Int × Int) × Int)) => (decide (x388.2 > (0 : Int)))) (xa := fun (x388 : ((Int × Int) × Int)) => D.int x388.2) (y := fun (x388 : ((Int × Int) × Int)) => D.int (0 : Int)) (fun _ _ ha hb => pt_cmpR op_gt ha hb (nomark _)) (je_callVE (ρa := fun _ => _) (ins := i_sign) (mf := m_sign) (sl := l_sign) (outs := o_sign) (ok_sign T) (hr.mono (by decide)) (by rfl) T.sign.g T.sign.f.kp T.sign.b pass0 (arg := fun (c386 : (Int × Int)) => c386) (ja_el (ρa := fun _ => _) (xa := fun (x385 : (Int × Int)) => (eP2 D.int D.int) x385) (je_callV (ins := i_less) (mf := m_less) (sl := l_less) (outs := o_less) (ok_less T) (hr.mono (by decide)) (by rfl) T.less.g T.less.f.kp T.less.b pass0 (arg := (a.2, a.1)) (ja_p (jp_var 1) (ja_p (jp_var 0) ja_nil)) hB) (fun x385 => ja_nil)) hB) (fun x388 => jp_int) (fun x388 => od_gt)) (fun b391 => (js_one (js_retP a.2 [false, false] (jp_var 1)))) (fun b391 => (js_nil [true, true] ()))) fun n392 =>
(js_one (js_retP a.1 [false, false] (jp_var 0)))))
/-! gap -/
abbrev s_gap : Stmt := topS 8
theorem sc_gap : FnScope ["point", "other", "along"] ["point", "other"] (defScope s_gap) := ⟨rfl, rfl, rfl, by decide +kernel, rfl, by decide +kernel, by decide +kernel⟩
noncomputable def mb_gap (v_point : ((Int × Int) × (Int × Int))) (v_other : ((Int × Int) × (Int × Int))) : R (Fl Unit Unit (Int × Int)) :=
(((m_less (v_point.1, v_other.1)).bind fun (c371 : (Int × Int)) => (m_without_sign c371).bind fun (z372 : (Int × Int)) => R.ok (c371, z372)).bind fun (b374 : ((Int × Int) × (Int × Int))) => lt b374.2 fun v_along_373 =>
((((m_less (v_point.2, v_other.2)).bind fun (c398 : (Int × Int)) => (m_without_sign c398).bind fun (z399 : (Int × Int)) => R.ok (c398, z399)).bind fun (c401 : ((Int × Int) × (Int × Int))) => (m_greater (v_along_373, c401.2)).bind fun (z402 : (Int × Int)) => R.ok (c401, z402)).bind fun (b403 : (((Int × Int) × (Int × Int)) × (Int × Int))) => R.ok (.rt b403.2)))
noncomputable def m_gap (a : (((Int × Int) × (Int × Int)) × ((Int × Int) × (Int × Int)))) : R (Int × Int) := fin0 (mb_gap a.1 a.2)
abbrev i_gap (a : (((Int × Int) × (Int × Int)) × ((Int × Int) × (Int × Int)))) : List Slot := [.val ((eP2 (eP2 D.int D.int) (eP2 D.int D.int)) a.1), .val ((eP2 (eP2 D.int D.int) (eP2 D.int D.int)) a.2)]
abbrev l_gap (b : (Int × Int)) : Slot := .val ((eP2 D.int D.int) b)
abbrev o_gap (b : (Int × Int)) : List Slot := [.non, .non]
theorem ok_gap {P : Program} {w : World} {K : PySem.W.Frag} {mg : Str → Option Value} {base : Heap} (T : Top K mg) : FnG P w K mg base CX0 5 T.gap.a T.gap.d ["point", "other"] (spM K i_gap m_gap l_gap o_gap) := by
  show FnG P w K mg base CX0 (4 + 1) T.gap.a T.gap.d ["point", "other"] (spM K i_gap (fun (a : (((Int × Int) × (Int × Int)) × ((Int × Int) × (Int × Int)))) => fin0 (mb_gap a.1 a.2)) l_gap o_gap)
  refine fn_ok (n1 := fun _ => []) (c1 := fun _ => []) (k1 := fun _ => []) (ins := i_gap) (sl := l_gap) (outs := o_gap) (fun (a : (((Int × Int) × (Int × Int)) × ((Int × Int) × (Int × Int)))) => mb_gap a.1 a.2) 1 T.gap.f sc_gap rfl (fun _ => rfl) (fun _ => rfl) (fun _ => rfl) (fun cdv A outer s H E hr B hB a => ?_)
  show JSs _ B _ _ (mb_gap a.1 a.2) _
  unfold mb_gap
  exact ((js_setEQ 2 (eP2 D.int D.int) (fun (b374 : ((Int × Int) × (Int × Int))) => b374.2) (fun (b374 : ((Int × Int) × (Int × Int))) (v_along_373 : (Int × Int)) => [.val ((eP2 (eP2 D.int D.int) (eP2 D.int D.int)) a.1), .val ((eP2 (eP2 D.int D.int) (eP2 D.int D.int)) a.2), .val ((eP2 D.int D.int) v_along_373)]) sc_gap.nd (je_callVE (ρa := fun _ => _) (ins := i_without_sign) (mf := m_without_sign) (sl := l_without_sign) (outs := o_without_sign) (ok_without_sign T) (hr.mono (by decide)) (by rfl) T.without_sign.g T.without_sign.f.kp T.without_sign.b pass0 (arg := fun (c371 : (Int × Int)) => c371) (ja_el (ρa := fun _ => _) (xa := fun (x370 : (Int × Int)) => (eP2 D.int D.int) x370) (je_callV (ins := i_less) (mf := m_less) (sl := l_less) (outs := o_less) (ok_less T) (hr.mono (by decide)) (by rfl) T.less.g T.less.f.kp T.less.b pass0 (arg := (a.1.1, a.2.1)) (ja_p (je_op (fun _ _ ha hb => pe_ix ix_tup ha hb (fun _ _ => rfl)) (jp_var 0) jp_int (od_ixTs rfl)) (ja_p (je_op (fun _ _ ha hb => pe_ix ix_tup ha hb (fun _ _ => rfl)) (jp_var 1) jp_int (od_ixTs rfl)) ja_nil)) hB) (fun x370 => ja_nil)) hB) fun b374 v_along_373 =>
(js_one (js_ret (fun (b403 : (((Int × Int) × (Int × Int)) × (Int × Int))) => b403.2) [false, false, false] (je_callVE (ρa := fun _ => _) (ins := i_greater) (mf := m_greater) (sl := l_greater) (outs := o_greater) (ok_greater T) (hr.mono (by decide)) (by rfl) T.greater.g T.greater.f.kp T.greater.b pass0 (arg := fun (c401 : ((Int × Int) × (Int × Int))) => (v_along_373, c401.2)) (ja_p (jp_var 2) (ja_el (ρa := fun _ => _) (xa := fun (x400 : ((Int × Int) × (Int × Int))) => (eP2 D.int D.int) x400.2) (je_callVE (ρa := fun _ => _) (ins := i_without_sign) (mf := m_without_sign) (sl := l_without_sign) (outs := o_without_sign) (ok_without_sign T) (hr.mono (by decide)) (by rfl) T.without_sign.g T.without_sign.f.kp T.without_sign.b pass0 (arg := fun (c398 : (Int × Int)) => c398) (ja_el (ρa := fun _ => _) (xa := fun (x397 : (Int × Int)) => (eP2 D.int D.int) x397) (je_callV (ins := i_less) (mf := m_less) (sl := l_less) (outs := o_less) (ok_less T) (hr.mono (by decide)) (by rfl) T.less.g T.less.f.kp T.less.b pass0 (arg := (a.1.2, a.2.2)) (ja_p (je_op (fun _ _ ha hb => pe_ix ix_tup ha hb (fun _ _ => rfl)) (jp_var 0) jp_int (od_ixTs rfl)) (ja_p (je_op (fun _ _ ha hb => pe_ix ix_tup ha hb (fun _ _ => rfl)) (jp_var 1) jp_int (od_ixTs rfl)) ja_nil)) hB) (fun x397 => ja_nil)) hB) (fun x400 => ja_nil))) hB)))))
/-! farthest -/
abbrev s_farthest : Stmt := topS 9
theorem sc_farthest : FnScope ["drawing", "other", "found", "place", "far"] ["drawing", "other"] (defScope s_farthest) := ⟨rfl, rfl, rfl, by decide +kernel, rfl, by decide +kernel, by decide +kernel⟩
noncomputable def mb_farthest (v_drawing : (List ((Int × Int) × (Int × Int)))) (v_other : (List ((Int × Int) × (Int × Int)))) : R (Fl Unit Unit (Int × (Int × Int))) :=
((((R.some (atI v_drawing (0 : Int))).bind fun (x406 : ((Int × Int) × (Int × Int))) => (R.some (atI v_other (0 : Int))).bind fun (z410 : ((Int × Int) × (Int × Int))) => R.ok (x406, z410)).bind fun (c411 : (((Int × Int) × (Int × Int)) × ((Int × Int) × (Int × Int)))) => (m_gap (c411.1, c411.2)).bind fun (z412 : (Int × Int)) => R.ok (c411, z412)).bind fun (b415 : ((((Int × Int) × (Int × Int)) × ((Int × Int) × (Int × Int))) × (Int × Int))) => lt ((0 : Int), b415.2) fun v_found_414 =>
(bindF (((R.ok ()).bind fun (b416 : Unit) => (R.guard (rngOk (1 : Int) ∧ rngOk ((List.length v_drawing : Nat) : Int))).bind fun z417 => R.ok b416).bind fun (b418 : Unit) => forR (fun (x421 : Int) (s419 : (Int × (Int × Int))) =>
((((R.some (atI v_drawing x421)).bind fun (x424 : ((Int × Int) × (Int × Int))) => (R.some (atI v_other x421)).bind fun (z428 : ((Int × Int) × (Int × Int))) => R.ok (x424, z428)).bind fun (c429 : (((Int × Int) × (Int × Int)) × ((Int × Int) × (Int × Int)))) => (m_gap (c429.1, c429.2)).bind fun (z430 : (Int × Int)) => R.ok (c429, z430)).bind fun (b432 : ((((Int × Int) × (Int × Int)) × ((Int × Int) × (Int × Int))) × (Int × Int))) => lt b432.2 fun v_far_431 =>
(bindF (((m_less (v_far_431, s419.2)).bind fun (c436 : (Int × Int)) => (m_sign c436).bind fun (z437 : Int) => R.ok (c436, z437)).bind fun (b441 : ((Int × Int) × Int)) => if (decide (b441.2 > (0 : Int))) = true then (lt (x421, v_far_431) fun v_found_443 =>
(R.ok (.nx v_found_443))) else (R.ok (.nx s419))) fun n444 =>
(R.ok (.nx n444))))) (rng (1 : Int) ((List.length v_drawing : Nat) : Int)) v_found_414) fun n420 =>
(R.ok (.rt n420))))
noncomputable def m_farthest (a : ((List ((Int × Int) × (Int × Int))) × (List ((Int × Int) × (Int × Int))))) : R (Int × (Int × Int)) := fin0 (mb_farthest a.1 a.2)
abbrev i_farthest (a : ((List ((Int × Int) × (Int × Int))) × (List ((Int × Int) × (Int × Int))))) : List Slot := [.val ((eT (eP2 (eP2 D.int D.int) (eP2 D.int D.int))) a.1), .val ((eT (eP2 (eP2 D.int D.int) (eP2 D.int D.int))) a.2)]
abbrev l_farthest (b : (Int × (Int × Int))) : Slot := .val ((eP2 D.int (eP2 D.int D.int)) b)
abbrev o_farthest (b : (Int × (Int × Int))) : List Slot := [.non, .non]
theorem ok_farthest {P : Program} {w : World} {K : PySem.W.Frag} {mg : Str → Option Value} {base : Heap} (T : Top K mg) : FnG P w K mg base CX0 6 T.farthest.a T.farthest.d ["drawing", "other"] (spM K i_farthest m_farthest l_farthest o_farthest) := by
  show FnG P w K mg base CX0 (5 + 1) T.farthest.a T.farthest.d ["drawing", "other"] (spM K i_farthest (fun (a : ((List ((Int × Int) × (Int × Int))) × (List ((Int × Int) × (Int × Int))))) => fin0 (mb_farthest a.1 a.2)) l_farthest o_farthest)
  refine fn_ok (n1 := fun _ => []) (c1 := fun _ => []) (k1 := fun _ => []) (ins := i_farthest) (sl := l_farthest) (outs := o_farthest) (fun (a : ((List ((Int × Int) × (Int × Int))) × (List ((Int × Int) × (Int × Int))))) => mb_farthest a.1 a.2) 3 T.farthest.f sc_farthest rfl (fun _ => rfl) (fun _ => rfl) (fun _ => rfl) (fun cdv A outer s H E hr B hB a => ?_)
  show JSs _ B _ _ (mb_farthest a.1 a.2) _
  unfold mb_farthest
  exact ((js_setEQ 2 (eP2 D.int (eP2 D.int D.int)) (fun (b415 : ((((Int × Int) × (Int × Int)) × ((Int × Int) × (Int × Int))) × (Int × Int))) => ((0 : Int), b415.2)) (fun (b415 : ((((Int × Int) × (Int × Int)) × ((Int × Int) × (Int × Int))) × (Int × Int))) (v_found_414 : (Int × (Int × Int))) => [.val ((eT (eP2 (eP2 D.int D.int) (eP2 D.int D.int))) a.1), .val ((eT (eP2 (eP2 D.int D.int) (eP2 D.int D.int))) a.2), .val ((eP2 D.int (eP2 D.int D.int)) v_found_414), .non, .non]) sc_farthest.nd (je_tup (ja_p jp_int (ja_el (ρa := fun _ => _) (xa := fun (x413 : ((((Int × Int) × (Int × Int)) × ((Int × Int) × (Int × Int))) × (Int × Int))) => (eP2 D.int D.int) x413.2) (je_callVE (ρa := fun _ => _) (ins := i_gap) (mf := m_gap) (sl := l_gap) (outs := o_gap) (ok_gap T) (hr.mono (by decide)) (by rfl) T.gap.g T.gap.f.kp T.gap.b pass0 (arg := fun (c411 : (((Int × Int) × (Int × Int)) × ((Int × Int) × (Int × Int)))) => (c411.1, c411.2)) (ja_e (ρ' := fun _ _ => _) (ρa := fun _ => _) (xa := fun (x406 : ((Int × Int) × (Int × Int))) => (eP2 (eP2 D.int D.int) (eP2 D.int D.int)) x406) (je_op (fun _ _ ha hb => pe_ix ix_tup ha hb (fun _ _ => rfl)) (jp_var 0) jp_int od_ixTm) (fun x406 => (ja_el (ρa := fun _ => _) (xa := fun (x409 : ((Int × Int) × (Int × Int))) => (eP2 (eP2 D.int D.int) (eP2 D.int D.int)) x409) (je_op (fun _ _ ha hb => pe_ix ix_tup ha hb (fun _ _ => rfl)) (jp_var 1) jp_int od_ixTm) (fun x409 => ja_nil)))) hB) (fun x413 => ja_nil)))) fun b415 v_found_414 =>
(js_cons (ρ1 := fun (n420 : (Int × (Int × Int))) => [.val ((eT (eP2 (eP2 D.int D.int) (eP2 D.int D.int))) a.1), .val ((eT (eP2 (eP2 D.int D.int) (eP2 D.int D.int))) a.2), .val ((eP2 D.int (eP2 D.int D.int)) n420), .non, .non]) (js_for (en := D.int) (xs := fun (b418 : Unit) => (rng (1 : Int) ((List.length a.1 : Nat) : Int))) (s0 := fun (b418 : Unit) => v_found_414) (fun (s419 : (Int × (Int × Int))) => [.val ((eT (eP2 (eP2 D.int D.int) (eP2 D.int D.int))) a.1), .val ((eT (eP2 (eP2 D.int D.int) (eP2 D.int D.int))) a.2), .val ((eP2 D.int (eP2 D.int D.int)) s419), .non, .non]) (fun (x421 : Int) (s419 : (Int × (Int × Int))) => [.val ((eT (eP2 (eP2 D.int D.int) (eP2 D.int D.int))) a.1), .val ((eT (eP2 (eP2 D.int D.int) (eP2 D.int D.int))) a.2), .val ((eP2 D.int (eP2 D.int D.int)) s419), .val (D.int x421), .non]) PassesOwn.never rfl (ji_rng2 (fun (b416 : Unit) => (1 : Int)) (fun (b416 : Unit) => ((List.length a.1 : Nat) : Int)) T.z_range (ja_p jp_int (ja_p (je_cb (fun _ ht => pe_callB call_len_seq (by rfl) T.z_len (by decide +kernel) ht) (ja_p (jp_var 0) ja_nil) cb_lenTm) ja_nil))) [true, true, true, true, true] (fun _ => rfl) (fun x421 s419 => (jg_name 3 sc_farthest.nd)) (fun x421 s419 =>
(js_setEQ 4 (eP2 D.int D.int) (fun (b432 : ((((Int × Int) × (Int × Int)) × ((Int × Int) × (Int × Int))) × (Int × Int))) => b432.2) (fun (b432 : ((((Int × Int) × (Int × Int)) × ((Int × Int) × (Int × Int))) × (Int × Int))) (v_far_431 : (Int × Int)) => [.val ((eT (eP2 (eP2 D.int D.int) (eP2 D.int D.int))) a.1), .val ((eT (eP2 (eP2 D.int D.int) (eP2 D.int D.int))) a.2), .val ((eP2 D.int (eP2 D.int D.int)) s419), .val (D.int x421), .val ((eP2 D.int D.int) v_far_431)]) sc_farthest.nd (je_callVE (ρa := fun _ => _) (ins := i_gap) (mf := m_gap) (sl := l_gap) (outs := o_gap) (ok_gap T) (hr.mono (by decide)) (by rfl) T.gap.g T.gap.f.kp T.gap.b pass0 (arg := fun (c429 : (((Int × Int) × (Int × Int)) × ((Int × Int) × (Int × Int)))) => (c429.1, c429.2)) (ja_e (ρ' := fun _ _ => _) (ρa := fun _ => _) (xa := fun (x424 : ((Int × Int) × (Int × Int))) => (eP2 (eP2 D.int D.int) (eP2 D.int D.int)) x424) (je_op (fun _ _ ha hb => pe_ix ix_tup ha hb (fun _ _ => rfl)) (jp_var 0) (jp_var 3) od_ixTm) (fun x424 => (ja_el (ρa := fun _ => _) (xa := fun (x427 : ((Int × Int) × (Int × Int))) => (eP2 (eP2 D.int D.int) (eP2 D.int D.int)) x427) (je_op (fun _ _ ha hb => pe_ix ix_tup ha hb (fun _ _ => rfl)) (jp_var 1) (jp_var 3) od_ixTm) (fun x427 => ja_nil)))) hB) fun b432 v_far_431 =>
(js_cons (ρ1 := fun (n444 : (Int × (Int × Int))) => [.val ((eT (eP2 (eP2 D.int D.int) (eP2 D.int D.int))) a.1), .val ((eT (eP2 (eP2 D.int D.int) (eP2 D.int D.int))) a.2), .val ((eP2 D.int (eP2 D.int D.int)) n444), .val (D.int x421), .val ((eP2 D.int D.int) v_far_431)]) (js_if (jt_opL (ρa := fun _ => _) (bn := fun (x438 : ((Int × Int) × Int)) => (decide (x438.2 > (0 : Int)))) (xa := fun (x438 : ((Int × Int) × Int)) => D.int x438.2) (y := fun (x438 : ((Int × Int) × Int)) => D.int (0 : Int)) (fun _ _ ha hb => pt_cmpR op_gt ha hb (nomark _)) (je_callVE (ρa := fun _ => _) (ins := i_sign) (mf := m_sign) (sl := l_sign) (outs := o_sign) (ok_sign T) (hr.mono (by decide)) (by rfl) T.sign.g T.sign.f.kp T.sign.b pass0 (arg := fun (c436 : (Int × Int)) => c436) (ja_el (ρa := fun _ => _) (xa := fun (x435 : (Int × Int)) => (eP2 D.int D.int) x435) (je_callV (ins := i_less) (mf := m_less) (sl := l_less) (outs := o_less) (ok_less T) (hr.mono (by decide)) (by rfl) T.less.g T.less.f.kp T.less.b pass0 (arg := (v_far_431, s419.2)) (ja_p (jp_var 4) (ja_p (je_op (fun _ _ ha hb => pe_ix ix_tup ha hb (fun _ _ => rfl)) (jp_var 2) jp_int (od_ixTs rfl)) ja_nil)) hB) (fun x435 => ja_nil)) hB) (fun x438 => jp_int) (fun x438 => od_gt)) (fun b441 => (js_setPQ 2 (eP2 D.int (eP2 D.int D.int)) (x421, v_far_431) (fun (v_found_443 : (Int × (Int × Int))) => [.val ((eT (eP2 (eP2 D.int D.int) (eP2 D.int D.int))) a.1), .val ((eT (eP2 (eP2 D.int D.int) (eP2 D.int D.int))) a.2), .val ((eP2 D.int (eP2 D.int D.int)) v_found_443), .val (D.int x421), .val ((eP2 D.int D.int) v_far_431)]) sc_farthest.nd (je_tup (ja_p (jp_var 3) (ja_p (jp_var 4) ja_nil))) fun v_found_443 =>
(js_nil [true, true, true, true, true] v_found_443))) (fun b441 => (js_nil [true, true, true, true, true] s419))) fun n444 =>
(js_nil [true, true, true, false, false] n444))))) fun n420 =>
(js_one (js_retP n420 [false, false, false, true, true] (jp_var 2))))))
/-! law_off -/
abbrev s_law_off : Stmt := topS 18
theorem sc_law_off : FnScope ["_law_one", "_law_other"] ["_law_one", "_law_other"] (defScope s_law_off) := ⟨rfl, rfl, rfl, by decide +kernel, rfl, by decide +kernel, by decide +kernel⟩
noncomputable def mb_law_off (v_one : (Int × Int)) (v_other : (Int × Int)) : R (Fl Unit Unit (Int × Int)) :=
(((op2 (R.guard (CMulX v_one.1 v_other.2)) (fun (x461 : Unit) => R.guard (CMulX v_other.1 v_one.2)) (fun (x461 : Unit) (y462 : Unit) => R.ok ())).bind fun (x472 : (Unit × Unit × Unit)) => (R.guard (CMulX v_one.2 v_other.2)).bind fun (z480 : Unit) => R.ok (x472, z480)).bind fun (b481 : ((Unit × Unit × Unit) × Unit)) => R.ok (.rt ((if ((v_one.1 * v_other.2) - (v_other.1 * v_one.2)) < 0 then -((v_one.1 * v_other.2) - (v_other.1 * v_one.2)) else ((v_one.1 * v_other.2) - (v_other.1 * v_one.2))), (v_one.2 * v_other.2))))
noncomputable def m_law_off (a : ((Int × Int) × (Int × Int))) : R (Int × Int) := fin0 (mb_law_off a.1 a.2)
abbrev i_law_off (a : ((Int × Int) × (Int × Int))) : List Slot := [.val ((eP2 D.int D.int) a.1), .val ((eP2 D.int D.int) a.2)]
abbrev l_law_off (b : (Int × Int)) : Slot := .val ((eP2 D.int D.int) b)
abbrev o_law_off (b : (Int × Int)) : List Slot := [.non, .non]
theorem ok_law_off {P : Program} {w : World} {K : PySem.W.Frag} {mg : Str → Option Value} {base : Heap} (T : Top K mg) : FnG P w K mg base CX0 1 T.law_off.a T.law_off.d ["_law_one", "_law_other"] (spM K i_law_off m_law_off l_law_off o_law_off) := by
  show FnG P w K mg base CX0 (0 + 1) T.law_off.a T.law_off.d ["_law_one", "_law_other"] (spM K i_law_off (fun (a : ((Int × Int) × (Int × Int))) => fin0 (mb_law_off a.1 a.2)) l_law_off o_law_off)
  refine fn_ok (n1 := fun _ => []) (c1 := fun _ => []) (k1 := fun _ => []) (ins := i_law_off) (sl := l_law_off) (outs := o_law_off) (fun (a : ((Int × Int) × (Int × Int))) => mb_law_off a.1 a.2) 0 T.law_off.f sc_law_off rfl (fun _ => rfl) (fun _ => rfl) (fun _ => rfl) (fun cdv A outer s H E hr B hB a => ?_)
  show JSs _ B _ _ (mb_law_off a.1 a.2) _
  unfold mb_law_off
  exact ((js_one (js_ret (fun (b481 : ((Unit × Unit × Unit) × Unit)) => ((if ((a.1.1 * a.2.2) - (a.2.1 * a.1.2)) < 0 then -((a.1.1 * a.2.2) - (a.2.1 * a.1.2)) else ((a.1.1 * a.2.2) - (a.2.1 * a.1.2))), (a.1.2 * a.2.2))) [false, false] (je_tup (ja_e (ρ' := fun _ _ => _) (ρa := fun _ => _) (xa := fun (x472 : (Unit × Unit × Unit)) => D.int (if ((a.1.1 * a.2.2) - (a.2.1 * a.1.2)) < 0 then -((a.1.1 * a.2.2) - (a.2.1 * a.1.2)) else ((a.1.1 * a.2.2) - (a.2.1 * a.1.2)))) (je_cbN (ρa := fun _ => _) (s := fun (c470 : (Unit × Unit × Unit)) => .val (D.int (if ((a.1.1 * a.2.2) - (a.2.1 * a.1.2)) < 0 then -((a.1.1 * a.2.2) - (a.2.1 * a.1.2)) else ((a.1.1 * a.2.2) - (a.2.1 * a.1.2))))) (fun _ ht => pe_callB call_abs (by rfl) T.z_abs (by decide +kernel) ht) (ja_el (ρa := fun _ => _) (xa := fun (x469 : (Unit × Unit × Unit)) => D.int ((a.1.1 * a.2.2) - (a.2.1 * a.1.2))) (je_op2 (ρa := fun _ => _) (ρb := fun _ _ => _) (s := fun (x461 : Unit) (y462 : Unit) (z0 : Unit) => (.val (D.int ((a.1.1 * a.2.2) - (a.2.1 * a.1.2))))) (xa := fun (x461 : Unit) => D.int (a.1.1 * a.2.2)) (xb := fun (x461 : Unit) (y462 : Unit) => D.int (a.2.1 * a.1.2)) (fun _ _ ha hb => pe_op op_sub ha hb) (je_op (fun _ _ ha hb => pe_op op_mulX ha hb) (je_op (fun _ _ ha hb => pe_ix ix_tup ha hb (fun _ _ => rfl)) (jp_var 0) jp_int (od_ixTs rfl)) (je_op (fun _ _ ha hb => pe_ix ix_tup ha hb (fun _ _ => rfl)) (jp_var 1) jp_int (od_ixTs rfl)) od_mul) (fun x461 => (je_op (fun _ _ ha hb => pe_op op_mulX ha hb) (je_op (fun _ _ ha hb => pe_ix ix_tup ha hb (fun _ _ => rfl)) (jp_var 1) jp_int (od_ixTs rfl)) (je_op (fun _ _ ha hb => pe_ix ix_tup ha hb (fun _ _ => rfl)) (jp_var 0) jp_int (od_ixTs rfl)) od_mul)) (fun x461 y462 => od_sub)) (fun x469 => ja_nil)) (fun c470 => cb_abs)) (fun x472 => (ja_el (ρa := fun _ => _) (xa := fun (x479 : Unit) => D.int (a.1.2 * a.2.2)) (je_op (fun _ _ ha hb => pe_op op_mulX ha hb) (je_op (fun _ _ ha hb => pe_ix ix_tup ha hb (fun _ _ => rfl)) (jp_var 0) jp_int (od_ixTs rfl)) (je_op (fun _ _ ha hb => pe_ix ix_tup ha hb (fun _ _ => rfl)) (jp_var 1) jp_int (od_ixTs rfl)) od_mul) (fun x479 => ja_nil))))))))
/-! law_due -/
abbrev s_law_due : Stmt := topS 19
theorem sc_law_due : FnScope ["_law_drawing_here", "_law_other", "_law_place", "_law_far", "_law_p", "_law_axis", "_law_own"] ["_law_drawing_here", "_law_other"] (defScope s_law_due) := ⟨rfl, rfl, rfl, by decide +kernel, rfl, by decide +kernel, by decide +kernel⟩
noncomputable def mb_law_due (v_drawing_here : (List ((Int × Int) × (Int × Int)))) (v_other : (List ((Int × Int) × (Int × Int)))) : R (Fl Unit Unit (Int × (Int × Int))) :=
(bindF ((R.guard (rngOk ((List.length v_drawing_here : Nat) : Int))).bind fun (b447 : Unit) => forR (fun (x450 : Int) (s448 : (Int × (Int × Int))) =>
(bindF ((R.guard (rngOk (2 : Int))).bind fun (b451 : Unit) => forR (fun (x454 : Int) (s452 : (Int × (Int × Int))) =>
(((((R.some (atI v_drawing_here x450)).bind fun (x485 : ((Int × Int) × (Int × Int))) => (R.some (atI [x485.1, x485.2] x454)).bind fun (z487 : (Int × Int)) => R.ok (x485, z487)).bind fun (x488 : (((Int × Int) × (Int × Int)) × (Int × Int))) => ((R.some (atI v_other x450)).bind fun (x492 : ((Int × Int) × (Int × Int))) => (R.some (atI [x492.1, x492.2] x454)).bind fun (z494 : (Int × Int)) => R.ok (x492, z494)).bind fun (z496 : (((Int × Int) × (Int × Int)) × (Int × Int))) => R.ok (x488, z496)).bind fun (c497 : ((((Int × Int) × (Int × Int)) × (Int × Int)) × (((Int × Int) × (Int × Int)) × (Int × Int)))) => (m_law_off (c497.1.2, c497.2.2)).bind fun (z498 : (Int × Int)) => R.ok (c497, z498)).bind fun (b500 : (((((Int × Int) × (Int × Int)) × (Int × Int)) × (((Int × Int) × (Int × Int)) × (Int × Int))) × (Int × Int))) => lt b500.2 fun v_own_499 =>
(bindF ((op2 (R.guard (CMulX v_own_499.1 s452.2.2)) (fun (x507 : Unit) => R.guard (CMulX s452.2.1 v_own_499.2)) (fun (x507 : Unit) (y508 : Unit) => R.ok ())).bind fun (b515 : (Unit × Unit × Unit)) => if (decide ((v_own_499.1 * s452.2.2) > (s452.2.1 * v_own_499.2))) = true then (R.ok (.nx (x450, v_own_499))) else (R.ok (.nx (s452.1, s452.2)))) fun n518 =>
(R.ok (.nx (n518.1, n518.2)))))) (rng 0 (2 : Int)) (s448.1, s448.2)) fun n453 =>
(R.ok (.nx (n453.1, n453.2))))) (rng 0 ((List.length v_drawing_here : Nat) : Int)) (((0 : Int), ((-(1 : Int)), (1 : Int))).1, ((0 : Int), ((-(1 : Int)), (1 : Int))).2)) fun n449 =>
((m_law_cut (n449.2.1, n449.2.2)).bind fun (b524 : (Int × Int)) => R.ok (.rt (n449.1, b524))))
noncomputable def m_law_due (a : ((List ((Int × Int) × (Int × Int))) × (List ((Int × Int) × (Int × Int))))) : R (Int × (Int × Int)) := fin0 (mb_law_due a.1 a.2)
abbrev i_law_due (a : ((List ((Int × Int) × (Int × Int))) × (List ((Int × Int) × (Int × Int))))) : List Slot := [.val ((eT (eP2 (eP2 D.int D.int) (eP2 D.int D.int))) a.1), .val ((eT (eP2 (eP2 D.int D.int) (eP2 D.int D.int))) a.2)]
abbrev l_law_due (b : (Int × (Int × Int))) : Slot := .val ((eP2 D.int (eP2 D.int D.int)) b)
abbrev o_law_due (b : (Int × (Int × Int))) : List Slot := [.non, .non]
theorem ok_law_due {P : Program} {w : World} {K : PySem.W.Frag} {mg : Str → Option Value} {base : Heap} (T : Top K mg) : FnG P w K mg base CX0 3 T.law_due.a T.law_due.d ["_law_drawing_here", "_law_other"] (spM K i_law_due m_law_due l_law_due o_law_due) := by
  show FnG P w K mg base CX0 (2 + 1) T.law_due.a T.law_due.d ["_law_drawing_here", "_law_other"] (spM K i_law_due (fun (a : ((List ((Int × Int) × (Int × Int))) × (List ((Int × Int) × (Int × Int))))) => fin0 (mb_law_due a.1 a.2)) l_law_due o_law_due)
  refine fn_ok (n1 := fun _ => []) (c1 := fun _ => []) (k1 := fun _ => []) (ins := i_law_due) (sl := l_law_due) (outs := o_law_due) (fun (a : ((List ((Int × Int) × (Int × Int))) × (List ((Int × Int) × (Int × Int))))) => mb_law_due a.1 a.2) 5 T.law_due.f sc_law_due rfl (fun _ => rfl) (fun _ => rfl) (fun _ => rfl) (fun cdv A outer s H E hr B hB a => ?_)
  show JSs _ B _ _ (mb_law_due a.1 a.2) _
  unfold mb_law_due
  exact ((js_consQP [.val ((eT (eP2 (eP2 D.int D.int) (eP2 D.int D.int))) a.1), .val ((eT (eP2 (eP2 D.int D.int) (eP2 D.int D.int))) a.2), .val (D.int (((0 : Int), ((-(1 : Int)), (1 : Int))).1)), .val ((eP2 D.int D.int) (((0 : Int), ((-(1 : Int)), (1 : Int))).2)), .non, .non, .non] (j1_asgN (d := fun (b446 : Unit) => (eP2 D.int (eP2 D.int D.int)) ((0 : Int), ((-(1 : Int)), (1 : Int)))) (je_tup (ja_p jp_int (ja_p (je_tup (ja_p (jp_neg jp_int) (ja_p jp_int ja_nil))) ja_nil))) (fun b446 => jg_tup rfl (jgs_p (jg_name 2 sc_law_due.nd) (jgs_p (jg_name 3 sc_law_due.nd) jgs_nil))))
(js_cons (ρ1 := fun (n449 : (Int × (Int × Int))) => [.val ((eT (eP2 (eP2 D.int D.int) (eP2 D.int D.int))) a.1), .val ((eT (eP2 (eP2 D.int D.int) (eP2 D.int D.int))) a.2), .val (D.int n449.1), .val ((eP2 D.int D.int) n449.2), .non, .non, .non]) (js_for (en := D.int) (xs := fun (b447 : Unit) => (rng 0 ((List.length a.1 : Nat) : Int))) (s0 := fun (b447 : Unit) => (((0 : Int), ((-(1 : Int)), (1 : Int))).1, ((0 : Int), ((-(1 : Int)), (1 : Int))).2)) (fun (s448 : (Int × (Int × Int))) => [.val ((eT (eP2 (eP2 D.int D.int) (eP2 D.int D.int))) a.1), .val ((eT (eP2 (eP2 D.int D.int) (eP2 D.int D.int))) a.2), .val (D.int s448.1), .val ((eP2 D.int D.int) s448.2), .non, .non, .non]) (fun (x450 : Int) (s448 : (Int × (Int × Int))) => [.val ((eT (eP2 (eP2 D.int D.int) (eP2 D.int D.int))) a.1), .val ((eT (eP2 (eP2 D.int D.int) (eP2 D.int D.int))) a.2), .val (D.int s448.1), .val ((eP2 D.int D.int) s448.2), .val (D.int x450), .non, .non]) PassesOwn.never rfl (ji_rng1P (i := ((List.length a.1 : Nat) : Int)) T.z_range (ja_p (je_cb (fun _ ht => pe_callB call_len_seq (by rfl) T.z_len (by decide +kernel) ht) (ja_p (jp_var 0) ja_nil) cb_lenTm) ja_nil)) [true, true, true, true, true, true, true] (fun _ => rfl) (fun x450 s448 => (jg_name 4 sc_law_due.nd)) (fun x450 s448 =>
(js_cons (ρ1 := fun (n453 : (Int × (Int × Int))) => [.val ((eT (eP2 (eP2 D.int D.int) (eP2 D.int D.int))) a.1), .val ((eT (eP2 (eP2 D.int D.int) (eP2 D.int D.int))) a.2), .val (D.int n453.1), .val ((eP2 D.int D.int) n453.2), .val (D.int x450), .non, .non]) (js_for (en := D.int) (xs := fun (b451 : Unit) => (rng 0 (2 : Int))) (s0 := fun (b451 : Unit) => (s448.1, s448.2)) (fun (s452 : (Int × (Int × Int))) => [.val ((eT (eP2 (eP2 D.int D.int) (eP2 D.int D.int))) a.1), .val ((eT (eP2 (eP2 D.int D.int) (eP2 D.int D.int))) a.2), .val (D.int s452.1), .val ((eP2 D.int D.int) s452.2), .val (D.int x450), .non, .non]) (fun (x454 : Int) (s452 : (Int × (Int × Int))) => [.val ((eT (eP2 (eP2 D.int D.int) (eP2 D.int D.int))) a.1), .val ((eT (eP2 (eP2 D.int D.int) (eP2 D.int D.int))) a.2), .val (D.int s452.1), .val ((eP2 D.int D.int) s452.2), .val (D.int x450), .val (D.int x454), .non]) PassesOwn.never rfl (ji_rng1P (i := (2 : Int)) T.z_range (ja_p jp_int ja_nil)) [true, true, true, true, true, true, true] (fun _ => rfl) (fun x454 s452 => (jg_name 5 sc_law_due.nd)) (fun x454 s452 =>
(js_setEQ 6 (eP2 D.int D.int) (fun (b500 : (((((Int × Int) × (Int × Int)) × (Int × Int)) × (((Int × Int) × (Int × Int)) × (Int × Int))) × (Int × Int))) => b500.2) (fun (b500 : (((((Int × Int) × (Int × Int)) × (Int × Int)) × (((Int × Int) × (Int × Int)) × (Int × Int))) × (Int × Int))) (v_own_499 : (Int × Int)) => [.val ((eT (eP2 (eP2 D.int D.int) (eP2 D.int D.int))) a.1), .val ((eT (eP2 (eP2 D.int D.int) (eP2 D.int D.int))) a.2), .val (D.int s452.1), .val ((eP2 D.int D.int) s452.2), .val (D.int x450), .val (D.int x454), .val ((eP2 D.int D.int) v_own_499)]) sc_law_due.nd (je_callVE (ρa := fun _ => _) (ins := i_law_off) (mf := m_law_off) (sl := l_law_off) (outs := o_law_off) (ok_law_off T) (hr.mono (by decide)) (by rfl) T.law_off.g T.law_off.f.kp T.law_off.b pass0 (arg := fun (c497 : ((((Int × Int) × (Int × Int)) × (Int × Int)) × (((Int × Int) × (Int × Int)) × (Int × Int)))) => (c497.1.2, c497.2.2)) (ja_e (ρ' := fun _ _ => _) (ρa := fun _ => _) (xa := fun (x488 : (((Int × Int) × (Int × Int)) × (Int × Int))) => (eP2 D.int D.int) x488.2) (je_opLG (ρa := fun _ => _) (s := fun (x485 : ((Int × Int) × (Int × Int))) (z487 : (Int × Int)) => (.val ((eP2 D.int D.int) z487))) (xa := fun (x485 : ((Int × Int) × (Int × Int))) => (eT (eP2 D.int D.int)) [x485.1, x485.2]) (y := fun (x485 : ((Int × Int) × (Int × Int))) => D.int x454) (fun _ _ ha hb => pe_ix ix_tup ha hb (fun _ _ => rfl)) (je_cast (s2 := fun (b484 : ((Int × Int) × (Int × Int))) => .val ((eT (eP2 D.int D.int)) [b484.1, b484.2])) (je_op (fun _ _ ha hb => pe_ix ix_tup ha hb (fun _ _ => rfl)) (jp_var 0) (jp_var 4) od_ixTm) (fun _ => rfl)) (fun x485 => (jp_var 5)) (fun x485 => od_ixTm)) (fun x488 => (ja_el (ρa := fun _ => _) (xa := fun (x495 : (((Int × Int) × (Int × Int)) × (Int × Int))) => (eP2 D.int D.int) x495.2) (je_opLG (ρa := fun _ => _) (s := fun (x492 : ((Int × Int) × (Int × Int))) (z494 : (Int × Int)) => (.val ((eP2 D.int D.int) z494))) (xa := fun (x492 : ((Int × Int) × (Int × Int))) => (eT (eP2 D.int D.int)) [x492.1, x492.2]) (y := fun (x492 : ((Int × Int) × (Int × Int))) => D.int x454) (fun _ _ ha hb => pe_ix ix_tup ha hb (fun _ _ => rfl)) (je_cast (s2 := fun (b491 : ((Int × Int) × (Int × Int))) => .val ((eT (eP2 D.int D.int)) [b491.1, b491.2])) (je_op (fun _ _ ha hb => pe_ix ix_tup ha hb (fun _ _ => rfl)) (jp_var 1) (jp_var 4) od_ixTm) (fun _ => rfl)) (fun x492 => (jp_var 5)) (fun x492 => od_ixTm)) (fun x495 => ja_nil)))) hB) fun b500 v_own_499 =>
(js_cons (ρ1 := fun (n518 : (Int × (Int × Int))) => [.val ((eT (eP2 (eP2 D.int D.int) (eP2 D.int D.int))) a.1), .val ((eT (eP2 (eP2 D.int D.int) (eP2 D.int D.int))) a.2), .val (D.int n518.1), .val ((eP2 D.int D.int) n518.2), .val (D.int x450), .val (D.int x454), .val ((eP2 D.int D.int) v_own_499)]) (js_if (jt_op2 (ρa := fun _ => _) (ρb := fun _ _ => _) (bn := fun (x507 : Unit) (y508 : Unit) (z0 : Unit) => (decide ((v_own_499.1 * s452.2.2) > (s452.2.1 * v_own_499.2)))) (xa := fun (x507 : Unit) => D.int (v_own_499.1 * s452.2.2)) (xb := fun (x507 : Unit) (y508 : Unit) => D.int (s452.2.1 * v_own_499.2)) (fun _ _ ha hb => pt_cmpR op_gt ha hb (nomark _)) (je_op (fun _ _ ha hb => pe_op op_mulX ha hb) (je_op (fun _ _ ha hb => pe_ix ix_tup ha hb (fun _ _ => rfl)) (jp_var 6) jp_int (od_ixTs rfl)) (je_op (fun _ _ ha hb => pe_ix ix_tup ha hb (fun _ _ => rfl)) (jp_var 3) jp_int (od_ixTs rfl)) od_mul) (fun x507 => (je_op (fun _ _ ha hb => pe_op op_mulX ha hb) (je_op (fun _ _ ha hb => pe_ix ix_tup ha hb (fun _ _ => rfl)) (jp_var 3) jp_int (od_ixTs rfl)) (je_op (fun _ _ ha hb => pe_ix ix_tup ha hb (fun _ _ => rfl)) (jp_var 6) jp_int (od_ixTs rfl)) od_mul)) (fun x507 y508 => od_gt)) (fun b515 => (js_consQP [.val ((eT (eP2 (eP2 D.int D.int) (eP2 D.int D.int))) a.1), .val ((eT (eP2 (eP2 D.int D.int) (eP2 D.int D.int))) a.2), .val (D.int x450), .val ((eP2 D.int D.int) v_own_499), .val (D.int x450), .val (D.int x454), .val ((eP2 D.int D.int) v_own_499)] (j1_par 2 3 (d1 := fun (b517 : Unit) => D.int x450) (d2 := fun (b517 : Unit) => (eP2 D.int D.int) v_own_499) rfl sc_law_due.nd (ja_p (jp_var 4) (ja_p (jp_var 6) ja_nil)))
(js_nil [true, true, true, true, true, true, true] (x450, v_own_499)))) (fun b515 => (js_nil [true, true, true, true, true, true, true] (s452.1, s452.2)))) fun n518 =>
(js_nil [true, true, true, true, true, false, false] (n518.1, n518.2)))))) fun n453 =>
(js_nil [true, true, true, true, false, true, true] (n453.1, n453.2))))) fun n449 =>
(js_one (js_ret (fun (b524 : (Int × Int)) => (n449.1, b524)) [false, false, false, false, true, true, true] (je_tup (ja_p (jp_var 2) (ja_el (ρa := fun _ => _) (xa := fun (x523 : (Int × Int)) => (eP2 D.int D.int) x523) (je_callV (ins := i_law_cut) (mf := m_law_cut) (sl := l_law_cut) (outs := o_law_cut) (ok_law_cut T) (hr.mono (by decide)) (by rfl) T.law_cut.g T.law_cut.f.kp T.law_cut.b pass0 (arg := (n449.2.1, n449.2.2)) (ja_p (je_op (fun _ _ ha hb => pe_ix ix_tup ha hb (fun _ _ => rfl)) (jp_var 3) jp_int (od_ixTs rfl)) (ja_p (je_op (fun _ _ ha hb => pe_ix ix_tup ha hb (fun _ _ => rfl)) (jp_var 3) jp_int (od_ixTs rfl)) ja_nil)) hB) (fun x523 => ja_nil)))))))))
/-! law -/
abbrev s_law : Stmt := topS 21
theorem sc_law : FnScope ["_law_script", "_law_k", "_law_pot_here", "_law_most", "_law_drawing_here", "_law_other", "_law_kept"] ["_law_script"] (defScope s_law) := ⟨rfl, rfl, rfl, by decide +kernel, rfl, by decide +kernel, by decide +kernel⟩
noncomputable def mb_law (v_script : List Int) : R (Fl Unit Unit Bool) :=
(bindF ((R.guard (rngOk (max (1 : Int) (min ((List.length v_script : Nat) : Int) (12 : Int))))).bind fun (b1 : Unit) => forR (fun (x4 : Int) (s2 : Unit) =>
((m_law_pot (v_script, x4)).bind fun (b34 : (List Int)) => lt b34 fun v_pot_here_33 =>
(((m_law_digit (v_pot_here_33, (3 : Int))).bind fun (y40 : (Int × (List Int))) => (R.some (atI [(2 : Int), (9 : Int), ((10 : Int) ^ (Int.toNat (40 : Int)))] y40.1)).bind fun (z78 : Int) => R.ok (y40, z78)).bind fun (b80 : ((Int × (List Int)) × Int)) => lt b80.2 fun v_most_79 =>
(((m_law_digit (b80.1.2, (10 : Int))).bind fun (c150 : (Int × (List Int))) => (m_law_drawing (c150.2, ((3 : Int) + c150.1), v_most_79)).bind fun (z151 : ((List ((Int × Int) × (Int × Int))) × (List Int))) => R.ok (c150, z151)).bind fun (b154 : ((Int × (List Int)) × ((List ((Int × Int) × (Int × Int))) × (List Int)))) => lt b154.2.1 fun v_drawing_here_153 =>
((m_law_put (b154.2.2, v_drawing_here_153, v_most_79)).bind fun (b272 : ((List ((Int × Int) × (Int × Int))) × (List Int))) => lt b272.1 fun v_other_271 =>
(bindF ((m_law_digit (b272.2, (4 : Int))).bind fun (b277 : (Int × (List Int))) => if (decide (b277.1 = (0 : Int))) = true then ((m_law_drawing (b277.2, ((List.length v_drawing_here_153 : Nat) : Int), v_most_79)).bind fun (b283 : ((List ((Int × Int) × (Int × Int))) × (List Int))) => lt b283.1 fun v_other_282 =>
(R.ok (.nx (b283.2, v_other_282)))) else (R.ok (.nx (b277.2, v_other_271)))) fun n284 =>
((R.guard (repOk ((eP2 (eT (eP2 (eP2 D.int D.int) (eP2 D.int D.int))) (eT (eP2 (eP2 D.int D.int) (eP2 D.int D.int)))) (v_drawing_here_153, n284.2)))).bind fun (b286 : Unit) => lt (reprD ((eP2 (eT (eP2 (eP2 D.int D.int) (eP2 D.int D.int))) (eT (eP2 (eP2 D.int D.int) (eP2 D.int D.int)))) (v_drawing_here_153, n284.2))) fun v_kept_285 =>
(bindF ((or2 (((m_farthest (v_drawing_here_153, n284.2)).bind fun (x445 : (Int × (Int × Int))) => (m_law_due (v_drawing_here_153, n284.2)).bind fun (z526 : (Int × (Int × Int))) => R.ok (x445, z526)).bind fun (c527 : ((Int × (Int × Int)) × (Int × (Int × Int)))) => (m_law_is (c527.1, c527.2)).bind fun (z528 : Bool) => R.ok (c527, z528)) (fun (b533 : (((Int × (Int × Int)) × (Int × (Int × Int))) × Bool)) => (!b533.2)) ((R.guard (repOk ((eP2 (eT (eP2 (eP2 D.int D.int) (eP2 D.int D.int))) (eT (eP2 (eP2 D.int D.int) (eP2 D.int D.int)))) (v_drawing_here_153, n284.2)))).bind fun (b532 : Unit) => R.ok (!decide ((reprD ((eP2 (eT (eP2 (eP2 D.int D.int) (eP2 D.int D.int))) (eT (eP2 (eP2 D.int D.int) (eP2 D.int D.int)))) (v_drawing_here_153, n284.2))) = v_kept_285)))).bind fun (b534 : Bool) => if b534 = true then (R.ok (.rt false)) else (R.ok (.nx ()))) fun n535 =>
(bindF ((or2 (op2 (m_farthest (n284.2, v_drawing_here_153)) (fun (x536 : (Int × (Int × Int))) => (m_farthest (v_drawing_here_153, n284.2))) (fun (x536 : (Int × (Int × Int))) (y537 : (Int × (Int × Int))) => R.ok ())) (fun (b542 : ((Int × (Int × Int)) × (Int × (Int × Int)) × Unit)) => (!decide (b542.1 = b542.2.1))) (((m_farthest (n284.2, n284.2)).bind fun (c539 : (Int × (Int × Int))) => (m_law_is (c539, ((0 : Int), ((0 : Int), (1 : Int))))).bind fun (z540 : Bool) => R.ok (c539, z540)).bind fun (b541 : ((Int × (Int × Int)) × Bool)) => R.ok (!b541.2))).bind fun (b543 : Bool) => if b543 = true then (R.ok (.rt false)) else (R.ok (.nx ()))) fun n544 =>
(R.ok (.nx ()))))))))))) (rng 0 (max (1 : Int) (min ((List.length v_script : Nat) : Int) (12 : Int)))) ()) fun n3 =>
(R.ok (.rt true)))
noncomputable def m_law (a : List Int) : R Bool := fin0 (mb_law a)
abbrev i_law (a : List Int) : List Slot := [.val (D.scr a)]
abbrev l_law (b : Bool) : Slot := .val (D.bool b)
abbrev o_law (b : Bool) : List Slot := [.non]
theorem ok_law {P : Program} {w : World} {K : PySem.W.Frag} {mg : Str → Option Value} {base : Heap} (T : Top K mg) : FnG P w K mg base CX0 7 T.law.a T.law.d ["_law_script"] (spM K i_law m_law l_law o_law) := by
  show FnG P w K mg base CX0 (6 + 1) T.law.a T.law.d ["_law_script"] (spM K i_law (fun (a : List Int) => fin0 (mb_law a)) l_law o_law)
  refine fn_ok (n1 := fun _ => []) (c1 := fun _ => []) (k1 := fun _ => []) (ins := i_law) (sl := l_law) (outs := o_law) (fun (a : List Int) => mb_law a) 6 T.law.f sc_law rfl (fun _ => rfl) (fun _ => rfl) (fun _ => rfl) (fun cdv A outer s H E hr B hB a => ?_)
  show JSs _ B _ _ (mb_law a) _
  unfold mb_law
  exact ((js_cons (ρ1 := fun (n3 : Unit) => [.val (D.scr a), .non, .non, .non, .non, .non, .non]) (js_for (en := D.int) (xs := fun (b1 : Unit) => (rng 0 (max (1 : Int) (min ((List.length a : Nat) : Int) (12 : Int))))) (s0 := fun (b1 : Unit) => ()) (fun (s2 : Unit) => [.val (D.scr a), .non, .non, .non, .non, .non, .non]) (fun (x4 : Int) (s2 : Unit) => [.val (D.scr a), .val (D.int x4), .non, .non, .non, .non, .non]) PassesOwn.never rfl (ji_rng1P (i := (max (1 : Int) (min ((List.length a : Nat) : Int) (12 : Int)))) T.z_range (ja_p (je_cb (fun _ ht => pe_callB (call_max2 rfl) (by rfl) T.z_max (by decide +kernel) ht) (ja_p jp_int (ja_p (je_cb (fun _ ht => pe_callB (call_min2 rfl) (by rfl) T.z_min (by decide +kernel) ht) (ja_p (je_cb (fun _ ht => pe_callB call_len_seq (by rfl) T.z_len (by decide +kernel) ht) (ja_p (jp_var 0) ja_nil) cb_lenS) (ja_p jp_int ja_nil)) cb_min) ja_nil)) cb_max) ja_nil)) [true, true, true, true, true, true, true] (fun _ => rfl) (fun x4 s2 => (jg_name 1 sc_law.nd)) (fun x4 s2 =>
(js_setOQ 2 (oL D.int) (fun (b34 : (List Int)) => b34) (fun (b34 : (List Int)) (v_pot_here_33 : (List Int)) => [.val (D.scr a), .val (D.int x4), .own 0 ((oL D.int) v_pot_here_33), .non, .non, .non, .non]) sc_law.nd (je_callV (ins := i_law_pot) (mf := m_law_pot) (sl := l_law_pot) (outs := o_law_pot) (ok_law_pot T) (hr.mono (by decide)) (by rfl) T.law_pot.g T.law_pot.f.kp T.law_pot.b pass0 (arg := (a, x4)) (ja_p (jp_var 0) (ja_p (jp_var 1) ja_nil)) hB) fun b34 v_pot_here_33 =>
(js_setEQ 3 D.int (fun (b80 : ((Int × (List Int)) × Int)) => b80.2) (fun (b80 : ((Int × (List Int)) × Int)) (v_most_79 : Int) => [.val (D.scr a), .val (D.int x4), .own 0 ((oL D.int) b80.1.2), .val (D.int v_most_79), .non, .non, .non]) sc_law.nd (je_opRG (s := fun (y40 : (Int × (List Int))) (z78 : Int) => (.val (D.int z78))) (xb := fun (y40 : (Int × (List Int))) => D.int y40.1) (fun _ _ ha hb => pe_ix ix_list ha hb (fun _ _ => rfl)) (je_frzL (v := fun (b38 : Unit) => [(2 : Int), (9 : Int), ((10 : Int) ^ (Int.toNat (40 : Int)))]) (je_lstT D.int (fun (b37 : Unit) => ([(2 : Int), (9 : Int), ((10 : Int) ^ (Int.toNat (40 : Int)))] : List Int)) (ja_p jp_int (ja_p jp_int (ja_p (je_op (fun _ _ ha hb => pe_op op_pow ha hb) jp_int jp_int od_powC) ja_nil))))) (je_callQ (ins := i_law_digit) (mf := m_law_digit) (sl := l_law_digit) (outs := o_law_digit) (ok_law_digit T) (hr.mono (by decide)) (by rfl) T.law_digit.g T.law_digit.f.kp T.law_digit.b pass0 (arg := (v_pot_here_33, (3 : Int))) (fun (b77 : (Int × (List Int))) => [.val (D.scr a), .val (D.int x4), .own 0 ((oL D.int) b77.2), .non, .non, .non, .non]) (ja_s 2 (ja_p jp_int ja_nil)) hB) (fun y40 => od_ixLm)) fun b80 v_most_79 =>
(js_setEQ 4 (eT (eP2 (eP2 D.int D.int) (eP2 D.int D.int))) (fun (b154 : ((Int × (List Int)) × ((List ((Int × Int) × (Int × Int))) × (List Int)))) => b154.2.1) (fun (b154 : ((Int × (List Int)) × ((List ((Int × Int) × (Int × Int))) × (List Int)))) (v_drawing_here_153 : (List ((Int × Int) × (Int × Int)))) => [.val (D.scr a), .val (D.int x4), .own 0 ((oL D.int) b154.2.2), .val (D.int v_most_79), .val ((eT (eP2 (eP2 D.int D.int) (eP2 D.int D.int))) v_drawing_here_153), .non, .non]) sc_law.nd (je_callQE (ins := i_law_drawing) (mf := m_law_drawing) (sl := l_law_drawing) (outs := o_law_drawing) (ok_law_drawing T) (hr.mono (by decide)) (by rfl) T.law_drawing.g T.law_drawing.f.kp T.law_drawing.b pass0 (arg := fun (c150 : (Int × (List Int))) => (c150.2, ((3 : Int) + c150.1), v_most_79)) (fun (b152 : (Int × (List Int)) × ((List ((Int × Int) × (Int × Int))) × (List Int))) => [.val (D.scr a), .val (D.int x4), .own 0 ((oL D.int) b152.2.2), .val (D.int v_most_79), .non, .non, .non]) (ja_s 2 (ja_el (xa := fun (x149 : (Int × (List Int))) => D.int ((3 : Int) + x149.1)) (je_opR (s := fun (y146 : (Int × (List Int))) => (.val (D.int ((3 : Int) + y146.1)))) (xb := fun (y146 : (Int × (List Int))) => D.int y146.1) (fun _ _ ha hb => pe_op op_add ha hb) jp_int (je_callQ (ins := i_law_digit) (mf := m_law_digit) (sl := l_law_digit) (outs := o_law_digit) (ok_law_digit T) (hr.mono (by decide)) (by rfl) T.law_digit.g T.law_digit.f.kp T.law_digit.b pass0 (arg := (b80.1.2, (10 : Int))) (fun (b147 : (Int × (List Int))) => [.val (D.scr a), .val (D.int x4), .own 0 ((oL D.int) b147.2), .val (D.int v_most_79), .non, .non, .non]) (ja_s 2 (ja_p jp_int ja_nil)) hB) (fun y146 => od_add)) (fun x149 => (ja_p (jp_var 3) ja_nil)))) hB) fun b154 v_drawing_here_153 =>
(js_setEQ 5 (eT (eP2 (eP2 D.int D.int) (eP2 D.int D.int))) (fun (b272 : ((List ((Int × Int) × (Int × Int))) × (List Int))) => b272.1) (fun (b272 : ((List ((Int × Int) × (Int × Int))) × (List Int))) (v_other_271 : (List ((Int × Int) × (Int × Int)))) => [.val (D.scr a), .val (D.int x4), .own 0 ((oL D.int) b272.2), .val (D.int v_most_79), .val ((eT (eP2 (eP2 D.int D.int) (eP2 D.int D.int))) v_drawing_here_153), .val ((eT (eP2 (eP2 D.int D.int) (eP2 D.int D.int))) v_other_271), .non]) sc_law.nd (je_callQ (ins := i_law_put) (mf := m_law_put) (sl := l_law_put) (outs := o_law_put) (ok_law_put T) (hr.mono (by decide)) (by rfl) T.law_put.g T.law_put.f.kp T.law_put.b pass0 (arg := (b154.2.2, v_drawing_here_153, v_most_79)) (fun (b270 : ((List ((Int × Int) × (Int × Int))) × (List Int))) => [.val (D.scr a), .val (D.int x4), .own 0 ((oL D.int) b270.2), .val (D.int v_most_79), .val ((eT (eP2 (eP2 D.int D.int) (eP2 D.int D.int))) v_drawing_here_153), .non, .non]) (ja_s 2 (ja_p (jp_var 4) (ja_p (jp_var 3) ja_nil))) hB) fun b272 v_other_271 =>
(js_cons (ρ1 := fun (n284 : ((List Int) × (List ((Int × Int) × (Int × Int))))) => [.val (D.scr a), .val (D.int x4), .own 0 ((oL D.int) n284.1), .val (D.int v_most_79), .val ((eT (eP2 (eP2 D.int D.int) (eP2 D.int D.int))) v_drawing_here_153), .val ((eT (eP2 (eP2 D.int D.int) (eP2 D.int D.int))) n284.2), .non]) (js_if (jt_opL (bn := fun (x274 : (Int × (List Int))) => (decide (x274.1 = (0 : Int)))) (xa := fun (x274 : (Int × (List Int))) => D.int x274.1) (y := fun (x274 : (Int × (List Int))) => D.int (0 : Int)) (fun _ _ ha hb => pt_cmpR op_eq ha hb (nomark _)) (je_callQ (ins := i_law_digit) (mf := m_law_digit) (sl := l_law_digit) (outs := o_law_digit) (ok_law_digit T) (hr.mono (by decide)) (by rfl) T.law_digit.g T.law_digit.f.kp T.law_digit.b pass0 (arg := (b272.2, (4 : Int))) (fun (b273 : (Int × (List Int))) => [.val (D.scr a), .val (D.int x4), .own 0 ((oL D.int) b273.2), .val (D.int v_most_79), .val ((eT (eP2 (eP2 D.int D.int) (eP2 D.int D.int))) v_drawing_here_153), .val ((eT (eP2 (eP2 D.int D.int) (eP2 D.int D.int))) v_other_271), .non]) (ja_s 2 (ja_p jp_int ja_nil)) hB) (fun x274 => jp_int) (fun x274 => od_eqI)) (fun b277 => (js_setEQ 5 (eT (eP2 (eP2 D.int D.int) (eP2 D.int D.int))) (fun (b283 : ((List ((Int × Int) × (Int × Int))) × (List Int))) => b283.1) (fun (b283 : ((List ((Int × Int) × (Int × Int))) × (List Int))) (v_other_282 : (List ((Int × Int) × (Int × Int)))) => [.val (D.scr a), .val (D.int x4), .own 0 ((oL D.int) b283.2), .val (D.int v_most_79), .val ((eT (eP2 (eP2 D.int D.int) (eP2 D.int D.int))) v_drawing_here_153), .val ((eT (eP2 (eP2 D.int D.int) (eP2 D.int D.int))) v_other_282), .non]) sc_law.nd (je_callQ (ins := i_law_drawing) (mf := m_law_drawing) (sl := l_law_drawing) (outs := o_law_drawing) (ok_law_drawing T) (hr.mono (by decide)) (by rfl) T.law_drawing.g T.law_drawing.f.kp T.law_drawing.b pass0 (arg := (b277.2, ((List.length v_drawing_here_153 : Nat) : Int), v_most_79)) (fun (b281 : ((List ((Int × Int) × (Int × Int))) × (List Int))) => [.val (D.scr a), .val (D.int x4), .own 0 ((oL D.int) b281.2), .val (D.int v_most_79), .val ((eT (eP2 (eP2 D.int D.int) (eP2 D.int D.int))) v_drawing_here_153), .val ((eT (eP2 (eP2 D.int D.int) (eP2 D.int D.int))) v_other_271), .non]) (ja_s 2 (ja_p (je_cb (fun _ ht => pe_callB call_len_seq (by rfl) T.z_len (by decide +kernel) ht) (ja_p (jp_var 4) ja_nil) cb_lenTm) (ja_p (jp_var 3) ja_nil))) hB) fun b283 v_other_282 =>
(js_nil [true, true, true, true, true, true, true] (b283.2, v_other_282)))) (fun b277 => (js_nil [true, true, true, true, true, true, true] (b277.2, v_other_271)))) fun n284 =>
(js_setEQ 6 D.str (fun (b286 : Unit) => (reprD ((eP2 (eT (eP2 (eP2 D.int D.int) (eP2 D.int D.int))) (eT (eP2 (eP2 D.int D.int) (eP2 D.int D.int)))) (v_drawing_here_153, n284.2)))) (fun (b286 : Unit) (v_kept_285 : Str) => [.val (D.scr a), .val (D.int x4), .own 0 ((oL D.int) n284.1), .val (D.int v_most_79), .val ((eT (eP2 (eP2 D.int D.int) (eP2 D.int D.int))) v_drawing_here_153), .val ((eT (eP2 (eP2 D.int D.int) (eP2 D.int D.int))) n284.2), .val (D.str v_kept_285)]) sc_law.nd (je_cb (fun _ ht => pe_callB (call_reprD hr.gd (un64 hr)) (by rfl) T.z_repr (by decide +kernel) ht) (ja_p (je_tup (ja_p (jp_var 4) (ja_p (jp_var 5) ja_nil))) ja_nil) cb_repr) fun b286 v_kept_285 =>
(js_cons (ρ1 := fun (n535 : Unit) => [.val (D.scr a), .val (D.int x4), .own 0 ((oL D.int) n284.1), .val (D.int v_most_79), .val ((eT (eP2 (eP2 D.int D.int) (eP2 D.int D.int))) v_drawing_here_153), .val ((eT (eP2 (eP2 D.int D.int) (eP2 D.int D.int))) n284.2), .val (D.str v_kept_285)]) (js_if (jt_w (jw_or (xa := fun (b533 : (((Int × (Int × Int)) × (Int × (Int × Int))) × Bool)) => (!b533.2)) (jt_not (jt_val (je_callVE (ρa := fun _ => _) (ins := i_law_is) (mf := m_law_is) (sl := l_law_is) (outs := o_law_is) (ok_law_is T) (hr.mono (by decide)) (by rfl) T.law_is.g T.law_is.f.kp T.law_is.b pass0 (arg := fun (c527 : ((Int × (Int × Int)) × (Int × (Int × Int)))) => (c527.1, c527.2)) (ja_e (ρ' := fun _ _ => _) (ρa := fun _ => _) (xa := fun (x445 : (Int × (Int × Int))) => (eP2 D.int (eP2 D.int D.int)) x445) (je_callV (ins := i_farthest) (mf := m_farthest) (sl := l_farthest) (outs := o_farthest) (ok_farthest T) (hr.mono (by decide)) (by rfl) T.farthest.g T.farthest.f.kp T.farthest.b pass0 (arg := (v_drawing_here_153, n284.2)) (ja_p (jp_var 4) (ja_p (jp_var 5) ja_nil)) hB) (fun x445 => (ja_el (ρa := fun _ => _) (xa := fun (x525 : (Int × (Int × Int))) => (eP2 D.int (eP2 D.int D.int)) x525) (je_callV (ins := i_law_due) (mf := m_law_due) (sl := l_law_due) (outs := o_law_due) (ok_law_due T) (hr.mono (by decide)) (by rfl) T.law_due.g T.law_due.f.kp T.law_due.b pass0 (arg := (v_drawing_here_153, n284.2)) (ja_p (jp_var 4) (ja_p (jp_var 5) ja_nil)) hB) (fun x525 => ja_nil)))) hB))) (jw_or1 (jt_map (jt_opL (ρa := fun _ => _) (bn := fun (x529 : Unit) => (!decide ((reprD ((eP2 (eT (eP2 (eP2 D.int D.int) (eP2 D.int D.int))) (eT (eP2 (eP2 D.int D.int) (eP2 D.int D.int)))) (v_drawing_here_153, n284.2))) = v_kept_285))) (xa := fun (x529 : Unit) => D.str (reprD ((eP2 (eT (eP2 (eP2 D.int D.int) (eP2 D.int D.int))) (eT (eP2 (eP2 D.int D.int) (eP2 D.int D.int)))) (v_drawing_here_153, n284.2)))) (y := fun (x529 : Unit) => D.str v_kept_285) (fun _ _ ha hb => pt_cmpR op_ne ha hb (nomark _)) (je_cb (fun _ ht => pe_callB (call_reprD hr.gd (un64 hr)) (by rfl) T.z_repr (by decide +kernel) ht) (ja_p (je_tup (ja_p (jp_var 4) (ja_p (jp_var 5) ja_nil))) ja_nil) cb_repr) (fun x529 => (jp_var 6)) (fun x529 => od_neS)))))) (fun b534 => (js_one (js_retP false [false, false, false, false, false, false, false] jp_bl))) (fun b534 => (js_nil [true, true, true, true, true, true, true] ()))) fun n535 =>
(js_cons (ρ1 := fun (n544 : Unit) => [.val (D.scr a), .val (D.int x4), .own 0 ((oL D.int) n284.1), .val (D.int v_most_79), .val ((eT (eP2 (eP2 D.int D.int) (eP2 D.int D.int))) v_drawing_here_153), .val ((eT (eP2 (eP2 D.int D.int) (eP2 D.int D.int))) n284.2), .val (D.str v_kept_285)]) (js_if (jt_w (jw_or (xa := fun (b542 : ((Int × (Int × Int)) × (Int × (Int × Int)) × Unit)) => (!decide (b542.1 = b542.2.1))) (jt_op2 (ρa := fun _ => _) (ρb := fun _ _ => _) (bn := fun (x536 : (Int × (Int × Int))) (y537 : (Int × (Int × Int))) (z0 : Unit) => (!decide (x536 = y537))) (xa := fun (x536 : (Int × (Int × Int))) => (eP2 D.int (eP2 D.int D.int)) x536) (xb := fun (x536 : (Int × (Int × Int))) (y537 : (Int × (Int × Int))) => (eP2 D.int (eP2 D.int D.int)) y537) (fun _ _ ha hb => pt_cmpR (op_neD (un64 hr)) ha hb (nomark _)) (je_callV (ins := i_farthest) (mf := m_farthest) (sl := l_farthest) (outs := o_farthest) (ok_farthest T) (hr.mono (by decide)) (by rfl) T.farthest.g T.farthest.f.kp T.farthest.b pass0 (arg := (n284.2, v_drawing_here_153)) (ja_p (jp_var 5) (ja_p (jp_var 4) ja_nil)) hB) (fun x536 => (je_callV (ins := i_farthest) (mf := m_farthest) (sl := l_farthest) (outs := o_farthest) (ok_farthest T) (hr.mono (by decide)) (by rfl) T.farthest.g T.farthest.f.kp T.farthest.b pass0 (arg := (v_drawing_here_153, n284.2)) (ja_p (jp_var 4) (ja_p (jp_var 5) ja_nil)) hB)) (fun x536 y537 => (od_neD (ee_p2 (EqE.up ee_int) (ee_p2 ee_int ee_int))))) (jw_or1 (jt_map (jt_not (jt_val (je_callVE (ρa := fun _ => _) (ins := i_law_is) (mf := m_law_is) (sl := l_law_is) (outs := o_law_is) (ok_law_is T) (hr.mono (by decide)) (by rfl) T.law_is.g T.law_is.f.kp T.law_is.b pass0 (arg := fun (c539 : (Int × (Int × Int))) => (c539, ((0 : Int), ((0 : Int), (1 : Int))))) (ja_el (ρa := fun _ => _) (xa := fun (x538 : (Int × (Int × Int))) => (eP2 D.int (eP2 D.int D.int)) x538) (je_callV (ins := i_farthest) (mf := m_farthest) (sl := l_farthest) (outs := o_farthest) (ok_farthest T) (hr.mono (by decide)) (by rfl) T.farthest.g T.farthest.f.kp T.farthest.b pass0 (arg := (n284.2, n284.2)) (ja_p (jp_var 5) (ja_p (jp_var 5) ja_nil)) hB) (fun x538 => (ja_p (je_tup (ja_p jp_int (ja_p (je_tup (ja_p jp_int (ja_p jp_int ja_nil))) ja_nil))) ja_nil))) hB))))))) (fun b543 => (js_one (js_retP false [false, false, false, false, false, false, false] jp_bl))) (fun b543 => (js_nil [true, true, true, true, true, true, true] ()))) fun n544 =>
(js_nil [true, false, false, false, false, false, false] ()))))))))))) fun n3 =>
(js_one (js_retP true [false, true, true, true, true, true, true] jp_bl))))

/-! ### the plain law -/
/-! digits -/
theorem digit_ok (a b many : Int) (h : 0 < many) (h2 : many < 2 ^ 8000) : ∃ r a' b', m_law_digit ([a, b], many) = .ok (r, [a', b']) ∧ 0 ≤ r ∧ r < many := by
  unfold m_law_digit mb_law_digit
  have e0 : atI [a, b] (0 : Int) = some a := rfl
  have e1 : atI [a, b] (1 : Int) = some b := rfl
  have i0 : ixN (List.length [a, b]) (0 : Int) = some 0 := rfl
  have i1 : ixN (List.length [a, b]) (1 : Int) = some 1 := rfl
  simp only [e0, e1, i0, i1, some_ok, bind_ok, List.set_cons_succ, List.set_cons_zero]
  by_cases ha : a > 0
  · rw [guard_ok (divp_ok' h h2)]
    refine ⟨a % many, a / many, b, ?_, Int.emod_nonneg _ (by omega), Int.emod_lt_of_pos _ h⟩
    simp only [ha, decide_true, if_true, bind_ok, bindF_rt, fin0_rt]
    rfl
  · generalize hc : (b * 48271 + 39373) % 2147483647 = c
    have c0 : 0 ≤ c := by omega
    have c1 : c < 2147483647 := by omega
    have e2 : atI [a, c] (1 : Int) = some c := rfl
    have hm : CMulX c c := mulx 31 (by omega) (by omega)
    simp only [ha, decide_false, Bool.false_eq_true, if_false, bindF_nx, e2, some_ok, op2_ok, bind_ok, guard_ok hm, guard_ok (show many ≠ 0 by omega)]
    refine ⟨_, a, c, rfl, ?_, ?_⟩
    · rw [Int.fmod_eq_emod_of_nonneg _ (by omega)]
      exact Int.emod_nonneg _ (by omega)
    · rw [Int.fmod_eq_emod_of_nonneg _ (by omega)]
      exact Int.emod_lt_of_pos _ h
theorem pot_ok (ns : List Int) (k : Int) (h0 : 0 ≤ k) : ∃ a b, m_law_pot (ns, k) = .ok [a, b] := by
  unfold m_law_pot mb_law_pot
  obtain ⟨c, h1, h2⟩ := cell_ok ns k h0
  rw [guard_ok (line_ok (by simp only [List.length_cons, List.length_nil]; omega))]
  simp only [h1, some_ok, bind_ok, lt_eq, fin0_rt]
  exact ⟨_, _, rfl⟩
def Pot (l : List Int) : Prop := ∃ a b, l = [a, b]
theorem digit {l : List Int} {many : Int} (hp : Pot l) (h : 0 < many) (h2 : many < 2 ^ 8000) : Ok (m_law_digit (l, many)) fun p => 0 ≤ p.1 ∧ p.1 < many ∧ Pot p.2 := by
  obtain ⟨a, b, rfl⟩ := hp
  obtain ⟨r, a', b', e, h3, h4⟩ := digit_ok a b many h h2
  exact ⟨_, e, h3, h4, a', b', rfl⟩
theorem pot (ns : List Int) {k : Int} (h0 : 0 ≤ k) : Ok (m_law_pot (ns, k)) Pot := by
  obtain ⟨a, b, e⟩ := pot_ok ns k h0
  exact ⟨_, e, a, b, rfl⟩
theorem small8000 {k : Int} (h : k < 1000000000000) : k < 2 ^ 8000 := Int.lt_of_lt_of_le h (by decide +kernel)

/-- the greatest divisor -/
theorem gcd_loop : ∀ (k : Nat) (a b : Int), 0 ≤ a → 0 ≤ b → b ≤ k → whR (L := Unit) (T := Int) (fun (s : Int × Int) => R.ok (decide (s.2 > (0 : Int)))) (fun s => (R.guard (s.2 ≠ (0 : Int))).bind fun (x : Unit) => R.ok (.nx (s.2, Int.fmod s.1 s.2))) (a, b) = .ok (.nx ((Int.gcd a b : Int), 0)) := by
  intro k
  induction k with
  | zero =>
    intro a b ha hb h
    have : b = 0 := by omega
    subst this
    rw [whR_false (by rfl)]
    rw [Int.gcd_zero_right]
    simp [Int.natAbs_of_nonneg ha]
  | succ k ih =>
    intro a b ha hb h
    by_cases hb0 : b = 0
    · subst hb0
      rw [whR_false (by rfl), Int.gcd_zero_right]
      simp [Int.natAbs_of_nonneg ha]
    · refine whR_true (s' := (b, a.fmod b)) (by simp; omega) (by rw [guard_ok hb0]; rfl) ?_
      rw [Int.fmod_eq_emod_of_nonneg _ hb]
      have := Int.emod_lt_of_pos a (show 0 < b by omega)
      rw [ih b (a % b) hb (Int.emod_nonneg _ hb0) (by omega)]
      have e : Int.gcd b (a % b) = Int.gcd a b := by
        obtain ⟨m, rfl⟩ := Int.eq_ofNat_of_zero_le ha
        obtain ⟨n, rfl⟩ := Int.eq_ofNat_of_zero_le hb
        rw [← Int.natCast_emod]
        simp only [Int.gcd, Int.natAbs_natCast]
        rw [Nat.gcd_comm n, ← Nat.gcd_rec, Nat.gcd_comm]
      rw [e]
theorem abs_ite (i : Int) : (if i < 0 then -i else i) = (i.natAbs : Int) := by split <;> omega
theorem divisor_ok (n d : Int) : m_divisor (n, d) = .ok (Int.gcd n d : Int) := by
  unfold m_divisor mb_divisor
  simp only [abs_ite]
  rw [gcd_loop d.natAbs _ _ (by omega) (by omega) (by omega)]
  simp only [bindF_nx, fin0_rt]
  rw [show Int.gcd (n.natAbs : Int) (d.natAbs : Int) = Int.gcd n d by simp [Int.gcd]]
theorem gcd_lt {n d : Int} {k : Nat} (hd : d ≠ 0) (h : d.natAbs < 2 ^ k) : (Int.gcd n d : Int).natAbs < 2 ^ k := by
  have := Nat.le_of_dvd (by omega) (Int.natAbs_dvd_natAbs.mpr (Int.gcd_dvd_right n d))
  omega
theorem pw (a b : Nat) (h : a ≤ b) {x : Nat} (hx : x < 2 ^ a) : x < 2 ^ b := Nat.lt_of_lt_of_le hx (Nat.pow_le_pow_right (by decide) h)
theorem mul_lt2 {i j : Int} {a b : Nat} (hi : i.natAbs < 2 ^ a) (hj : j.natAbs < 2 ^ b) : (i * j).natAbs < 2 ^ (a + b) := wide_lt hi hj
theorem add_lt2 {i j : Int} {a : Nat} (hi : i.natAbs < 2 ^ a) (hj : j.natAbs < 2 ^ a) : (i + j).natAbs < 2 ^ (a + 1) := by
  rw [Nat.pow_succ]
  omega
theorem sub_lt2 {i j : Int} {a : Nat} (hi : i.natAbs < 2 ^ a) (hj : j.natAbs < 2 ^ a) : (i - j).natAbs < 2 ^ (a + 1) := by
  rw [Nat.pow_succ]
  omega
/-- in lowest terms -/
def cutP (x : Int × Int) : Int × Int := (x.1.fdiv (Int.gcd x.1 x.2 : Int), x.2.fdiv (Int.gcd x.1 x.2 : Int))
theorem cutP_spec {n d : Int} (h : 0 < d) : 0 < (cutP (n, d)).2 ∧ Int.gcd (cutP (n, d)).1 (cutP (n, d)).2 = 1 ∧ (cutP (n, d)).1 * d = n * (cutP (n, d)).2 ∧ (cutP (n, d)).1.natAbs ≤ n.natAbs ∧ (cutP (n, d)).2.natAbs ≤ d.natAbs := by
  obtain ⟨h1, h2, h3, h4, h5⟩ := fr_low (n := n) (d := d) (g := (Int.gcd n d : Int)) (by rw [if_neg (by omega)]) (by omega)
  refine ⟨h4, h5, ?_, ?_, ?_⟩
  · show n.fdiv (Int.gcd n d : Int) * d = n * d.fdiv (Int.gcd n d : Int)
    generalize (Int.gcd n d : Int) = g at *
    calc n.fdiv g * d = n.fdiv g * (d.fdiv g * g) := by rw [h3]
      _ = (n.fdiv g * g) * d.fdiv g := by rw [Int.mul_comm (d.fdiv g) g, Int.mul_assoc]
      _ = n * d.fdiv g := by rw [h2]
  · have e := congrArg Int.natAbs h2
    rw [Int.natAbs_mul] at e
    show (n.fdiv _).natAbs ≤ n.natAbs
    rw [← e]
    exact Nat.le_mul_of_pos_right _ (by omega)
  · have e := congrArg Int.natAbs h3
    rw [Int.natAbs_mul] at e
    show (d.fdiv _).natAbs ≤ d.natAbs
    rw [← e]
    exact Nat.le_mul_of_pos_right _ (by omega)
theorem coprime_unique {a b c d : Int} (hb : 0 < b) (hd : 0 < d) (g1 : Int.gcd a b = 1) (g2 : Int.gcd c d = 1) (h : a * d = c * b) : (a, b) = (c, d) := by
  have e := congrArg Int.natAbs h
  rw [Int.natAbs_mul, Int.natAbs_mul] at e
  have d1 : b.natAbs ∣ d.natAbs := Nat.Coprime.dvd_of_dvd_mul_left (show Nat.Coprime b.natAbs a.natAbs by rw [Nat.coprime_comm]; exact g1) ⟨c.natAbs, by rw [e, Nat.mul_comm]⟩
  have d2 : d.natAbs ∣ b.natAbs := Nat.Coprime.dvd_of_dvd_mul_left (show Nat.Coprime d.natAbs c.natAbs by rw [Nat.coprime_comm]; exact g2) ⟨a.natAbs, by rw [← e, Nat.mul_comm]⟩
  have e2 : b = d := by
    have := Nat.dvd_antisymm d1 d2
    omega
  subst e2
  have : a = c := Int.eq_of_mul_eq_mul_right (by omega) h
  rw [this]
/-- of the same worth -/
theorem cutP_eq {x y : Int × Int} (hx : 0 < x.2) (hy : 0 < y.2) (h : x.1 * y.2 = y.1 * x.2) : cutP x = cutP y := by
  obtain ⟨n, d⟩ := x
  obtain ⟨m, e⟩ := y
  obtain ⟨a1, a2, a3, _⟩ := cutP_spec (n := n) hx
  obtain ⟨b1, b2, b3, _⟩ := cutP_spec (n := m) hy
  have hx : 0 < d := hx
  have hy : 0 < e := hy
  have h : n * e = m * d := h
  generalize cutP (n, d) = p at *
  generalize cutP (m, e) = q at *
  refine coprime_unique a1 b1 a2 b2 ?_
  have k : (p.1 * q.2) * (d * e) = (q.1 * p.2) * (d * e) := by
    calc (p.1 * q.2) * (d * e) = (p.1 * d) * (q.2 * e) := by ac_rfl
      _ = (n * p.2) * (q.2 * e) := by rw [a3]
      _ = (n * e) * (p.2 * q.2) := by ac_rfl
      _ = (m * d) * (p.2 * q.2) := by rw [h]
      _ = (m * q.2) * (p.2 * d) := by ac_rfl
      _ = (q.1 * e) * (p.2 * d) := by rw [b3]
      _ = (q.1 * p.2) * (d * e) := by ac_rfl
  exact Int.eq_of_mul_eq_mul_right (Int.mul_ne_zero (by omega) (by omega)) k
theorem cutP_low {x : Int × Int} (hx : 0 < x.2) (h : Int.gcd x.1 x.2 = 1) : cutP x = x := by
  obtain ⟨n, d⟩ := x
  show (n.fdiv (Int.gcd n d : Int), d.fdiv (Int.gcd n d : Int)) = _
  rw [show Int.gcd n d = 1 from h]
  simp
theorem fraction_pos {n d : Int} (hd : 0 < d) (hb : d.natAbs < 2 ^ 8000) : m_fraction (n, d) = .ok (cutP (n, d)) := by
  unfold m_fraction mb_fraction
  have hg := gcd_lt (n := n) (show d ≠ 0 by omega) hb
  have h0 : (Int.gcd n d : Int) ≠ 0 := fun z => by
    have := Int.gcd_eq_zero_iff.mp (show Int.gcd n d = 0 by omega)
    omega
  have hd2 : ¬ d < 0 := by omega
  simp only [divisor_ok, bind_ok, lt_eq, hd2, decide_false, Bool.false_eq_true, if_false, bindF_nx, guard_ok (div_ok (i := n) h0 hg), guard_ok (div_ok (i := d) h0 hg), fin0_rt]
  rfl

theorem common_ok (n d : Int) (hn : 0 ≤ n) (hd : 0 ≤ d) : m_law_common (n, d) = .ok (Int.gcd n d : Int) := by
  unfold m_law_common mb_law_common
  rw [gcd_loop d.natAbs _ _ hn hd (by omega)]
  simp only [bindF_nx, fin0_rt]
theorem cut_pos {n d : Int} (hd : 0 < d) (hb : d.natAbs < 2 ^ 8000) : m_law_cut (n, d) = .ok (cutP (n, d)) := by
  unfold m_law_cut mb_law_cut
  have hg := gcd_lt (n := n) (show d ≠ 0 by omega) hb
  have h0 : (Int.gcd n d : Int) ≠ 0 := fun z => by
    have := Int.gcd_eq_zero_iff.mp (show Int.gcd n d = 0 by omega)
    omega
  have e : Int.gcd (n.natAbs : Int) d = Int.gcd n d := by simp [Int.gcd]
  simp only [abs_ite, common_ok _ d (show (0 : Int) ≤ (n.natAbs : Int) by omega) (by omega), e, bind_ok, lt_eq, guard_ok (div_ok (i := n) h0 hg), guard_ok (div_ok (i := d) h0 hg), fin0_rt]
  rfl

def Frb (b : Nat) (f : Int × Int) : Prop := 0 < f.2 ∧ f.1.natAbs < 2 ^ b ∧ f.2.natAbs < 2 ^ b
def Ptb (b : Nat) (p : (Int × Int) × (Int × Int)) : Prop := Frb b p.1 ∧ Frb b p.2
theorem Frb.up {a b : Nat} (h : a ≤ b) {f : Int × Int} (k : Frb a f) : Frb b f := ⟨k.1, pw a b h k.2.1, pw a b h k.2.2⟩
theorem Ptb.up {a b : Nat} (h : a ≤ b) {f : (Int × Int) × (Int × Int)} (k : Ptb a f) : Ptb b f := ⟨k.1.up h, k.2.up h⟩
theorem p40 : (10 : Int) ^ 40 = 10000000000000000000000000000000000000000 := by decide +kernel
theorem p40' : (10 : Int) ^ (Int.toNat (40 : Int)) = 10000000000000000000000000000000000000000 := by decide +kernel
theorem big150 : (30000000000000000000000000000000000000000 : Nat) < 2 ^ 150 := by decide
theorem big8 : (30000000000000000000000000000000000000000 : Int) < 2 ^ 8000 := by decide +kernel
theorem lfraction {l : List Int} {most : Int} (hp : Pot l) (h : 0 < most) (h2 : most ≤ 10000000000000000000000000000000000000000) : Ok (m_law_fraction (l, most)) fun r => Frb 150 r.1 ∧ Pot r.2 := by
  unfold m_law_fraction mb_law_fraction
  have b8 := big8
  have b1 := big150
  simp only [bind_assoc, bind_ok, lt_eq]
  refine Ok.f0 ((digit hp (by omega) (by omega)).bind ?_)
  rintro ⟨r1, l1⟩ ⟨g1, g2, hp1⟩
  refine (digit hp1 (by decide) (by decide)).bind ?_
  rintro ⟨r2, l2⟩ ⟨g3, g4, hp2⟩
  have hw : ∃ w, atI [(1 : Int), 5, most] r2 = some w ∧ 0 < w ∧ w ≤ 10000000000000000000000000000000000000000 := by
    have : r2 = 0 ∨ r2 = 1 ∨ r2 = 2 := by have : r2 < 3 := g4; have : 0 ≤ r2 := g3; omega
    rcases this with rfl | rfl | rfl
    · exact ⟨1, rfl, by decide, by decide⟩
    · exact ⟨5, rfl, by decide, by decide⟩
    · exact ⟨most, rfl, h, h2⟩
  obtain ⟨w, e, w0, w1⟩ := hw
  refine Ok.somB e ?_
  refine (digit hp2 w0 (by omega)).bind ?_
  rintro ⟨r3, l3⟩ ⟨g5, g6, hp3⟩
  have g1 : 0 ≤ r1 := g1
  have g2 : r1 < 2 * most + 1 := g2
  have g5 : 0 ≤ r3 := g5
  have g6 : r3 < w := g6
  refine Ok.bind1 (cut_pos (n := r1 - most) (d := 1 + r3) (by omega) (by
    have : (30000000000000000000000000000000000000000 : Nat) < 2 ^ 8000 := by decide +kernel
    omega)) (Ok.rt ?_)
  obtain ⟨k1, k2, k3, k4, k5⟩ := cutP_spec (n := r1 - most) (d := 1 + r3) (by omega)
  refine ⟨⟨k1, ?_, ?_⟩, hp3⟩
  · show (cutP (r1 - most, 1 + r3)).1.natAbs < 2 ^ 150
    omega
  · show (cutP (r1 - most, 1 + r3)).2.natAbs < 2 ^ 150
    omega
theorem ldrawing {l : List Int} {many most : Int} (hp : Pot l) (hm : 0 ≤ many) (hm2 : many ≤ 20) (h : 0 < most) (h2 : most ≤ 10000000000000000000000000000000000000000) :
    Ok (m_law_drawing (l, many, most)) fun r => (r.1.length = many.toNat ∧ ∀ p ∈ r.1, Ptb 150 p) ∧ Pot r.2 := by
  unfold m_law_drawing mb_law_drawing
  simp only [bind_assoc, bind_ok, lt_eq]
  refine Ok.f0 (Ok.grdB (rng_ok hm (by omega)) (Ok.grdB (by rw [rng_len]; exact line_ok (by omega)) ?_))
  refine (Ok.compR (fun i acc s => (acc.length = i ∧ ∀ p ∈ acc, Ptb 150 p) ∧ Pot s) ⟨⟨rfl, fun _ m => nomatch m⟩, hp⟩ ?_).bind ?_
  · rintro i x acc s e ⟨⟨h3, h4⟩, h5⟩
    refine Ok.compF (P := fun _ => True) (Ok.ret trivial) (fun _ _ _ => ?_) fun _ _ z => by cases z
    refine (lfraction h5 h h2).bind ?_
    rintro ⟨f, l1⟩ ⟨f1, hp1⟩
    refine (lfraction hp1 h h2).bind ?_
    rintro ⟨g, l2⟩ ⟨g1, hp2⟩
    refine Ok.ret ⟨⟨by simp [h3], fun p m => ?_⟩, hp2⟩
    rcases List.mem_append.mp m with m | m
    · exact h4 p m
    · rw [List.mem_singleton.mp m]
      exact ⟨f1, g1⟩
  · rintro ⟨r, l3⟩ ⟨⟨h3, h4⟩, h5⟩
    exact Ok.rt ⟨⟨by rw [h3, rng_len]; simp, h4⟩, h5⟩
theorem lput {l : List Int} {d : List ((Int × Int) × (Int × Int))} {most : Int} (hp : Pot l) (hd : ∀ p ∈ d, Ptb 150 p) (hl : 0 < d.length) (hl2 : d.length ≤ 20) (h : 0 < most) (h2 : most ≤ 10000000000000000000000000000000000000000) :
    Ok (m_law_put (l, d, most)) fun r => (r.1.length = d.length ∧ ∀ p ∈ r.1, Ptb 160 p) ∧ Pot r.2 := by
  unfold m_law_put mb_law_put
  simp only [bind_assoc, bind_ok, lt_eq]
  have up : ∀ p ∈ d, Ptb 160 p := fun p m => (hd p m).up (by decide)
  refine Ok.f0 ((digit hp (by decide) (by decide)).bind ?_)
  rintro ⟨r1, l1⟩ ⟨g1, g2, hp1⟩
  have g1 : 0 ≤ r1 := g1
  have g2 : r1 < 4 := g2
  refine Ok.bF (Pn := fun (s : List Int × List ((Int × Int) × (Int × Int))) => (s.2.length = d.length ∧ ∀ p ∈ s.2, Ptb 160 p) ∧ Pot s.1) ?_ ?_
  · refine (digit hp1 (by omega) (small8000 (by omega))).bind ?_
    rintro ⟨r2, l2⟩ ⟨g3, g4, hp2⟩
    refine Ok.grdB (rng_ok g3 (by have : r2 < _ := g4; show r2 < _; omega)) ?_
    refine Ok.forC (fun (s : List Int × List ((Int × Int) × (Int × Int))) => (s.2.length = d.length ∧ ∀ p ∈ s.2, Ptb 160 p) ∧ Pot s.1) ⟨⟨rfl, up⟩, hp2⟩ ?_
    rintro x _ ⟨l3, f⟩ ⟨⟨hf, hf2⟩, hp3⟩
    have hf : f.length = d.length := hf
    have hf2 : ∀ p ∈ f, Ptb 160 p := hf2
    have hp3 : Pot l3 := hp3
    refine (digit hp3 (by omega) (small8000 (by omega))).bind ?_
    rintro ⟨pl, l4⟩ ⟨g5, g6, hp4⟩
    have g5 : 0 ≤ pl := g5
    have g6 : pl < d.length := g6
    obtain ⟨q, e1, e2, e3⟩ := atI_ok (l := d) g5 g6
    refine Ok.somB e1 ?_
    obtain ⟨⟨q1, q2, q3⟩, ⟨q4, q5, q6⟩⟩ := hd q e3
    refine (digit hp4 (by decide) (by decide)).bind ?_
    rintro ⟨kd, l5⟩ ⟨g7, g8, hp5⟩
    have set_ok : ∀ {f : List ((Int × Int) × (Int × Int))} {y : (Int × Int) × (Int × Int)}, (f.length = d.length ∧ ∀ p ∈ f, Ptb 160 p) → Ptb 160 y → ((f.set pl.toNat y).length = d.length ∧ ∀ p ∈ f.set pl.toNat y, Ptb 160 p) := fun {f y} hf hy => by
      refine ⟨by rw [List.length_set]; exact hf.1, fun p m => ?_⟩
      rcases List.mem_or_eq_of_mem_set m with m | rfl
      · exact hf.2 p m
      · exact hy
    have mx : ∀ {i : Int}, i.natAbs < 2 ^ 150 → CMulX (1 + r1) i := fun h => mulx 150 (by have := big150; omega) h
    have far : ∀ {i j : Int}, i.natAbs < 2 ^ 150 → j.natAbs < 2 ^ 150 → (i + (1 + r1) * j).natAbs < 2 ^ 160 ∧ (i - (1 + r1) * j).natAbs < 2 ^ 160 := fun {i j} hi hj => by
      have h1 : ((1 + r1) * j).natAbs ≤ 4 * j.natAbs := by
        rw [Int.natAbs_mul]
        exact Nat.mul_le_mul_right _ (by omega)
      have e : 2 ^ 160 = 1024 * 2 ^ 150 := by decide
      omega
    have nn : ∀ {f : List ((Int × Int) × (Int × Int))}, f.length = d.length → ixN f.length pl = some pl.toNat := fun h => ixN_nat g5 (by omega)
    refine Ok.bF (Pn := fun s => s.length = d.length ∧ ∀ p ∈ s, Ptb 160 p) ?_ ?_
    · refine Ok.ite (fun _ => ?_) fun _ => Ok.nx ⟨hf, hf2⟩
      refine Ok.grdB (mx q3) (Ok.somB (nn hf) (Ok.nx (set_ok ⟨hf, hf2⟩ ⟨⟨q1, (far q2 q3).1, pw 150 160 (by decide) q3⟩, q4, pw 150 160 (by decide) q5, pw 150 160 (by decide) q6⟩)))
    rintro f2 hf2
    refine Ok.bF (Pn := fun s => s.length = d.length ∧ ∀ p ∈ s, Ptb 160 p) ?_ ?_
    · refine Ok.ite (fun _ => ?_) fun _ => Ok.nx hf2
      refine Ok.grdB (mx q6) (Ok.somB (nn hf2.1) (Ok.nx (set_ok hf2 ⟨⟨q1, pw 150 160 (by decide) q2, pw 150 160 (by decide) q3⟩, q4, (far q5 q6).2, pw 150 160 (by decide) q6⟩)))
    rintro f3 hf3
    refine Ok.bF (Pn := fun (s : List Int × List ((Int × Int) × (Int × Int))) => (s.2.length = d.length ∧ ∀ p ∈ s.2, Ptb 160 p) ∧ Pot s.1) ?_ ?_
    · refine Ok.ite (fun _ => ?_) fun _ => Ok.nx ⟨hf3, hp5⟩
      refine (lfraction hp5 h h2).bind ?_
      rintro ⟨fr, l6⟩ ⟨k1, hp6⟩
      refine Ok.somB (nn hf3.1) (Ok.nx ⟨set_ok hf3 ⟨k1.up (by decide), q4, pw 150 160 (by decide) q5, pw 150 160 (by decide) q6⟩, hp6⟩)
    rintro ⟨l7, f4⟩ hf4
    exact Ok.nx hf4
  · rintro ⟨l8, f5⟩ hf5
    exact Ok.rt hf5
/-! ### worth -/
def offP (a b : Int × Int) : Int × Int := (((a.1 * b.2 - b.1 * a.2).natAbs : Int), a.2 * b.2)
def gtB (a b : Int × Int) : Bool := decide (a.1 * b.2 > b.1 * a.2)
def gapR (p q : (Int × Int) × (Int × Int)) : Int × Int := if gtB (offP p.2 q.2) (offP p.1 q.1) = true then offP p.2 q.2 else offP p.1 q.1
theorem gtB_trans {a b c : Int × Int} (ha : 0 < a.2) (hb : 0 < b.2) (hc : 0 < c.2) (h1 : gtB a b = true) (h2 : gtB c b = false) : gtB a c = true := by
  unfold gtB at *
  have h1 : a.1 * b.2 > b.1 * a.2 := of_decide_eq_true h1
  have h2 : ¬ c.1 * b.2 > b.1 * c.2 := of_decide_eq_false h2
  refine decide_eq_true ?_
  have k1 : b.1 * a.2 * c.2 < a.1 * b.2 * c.2 := Int.mul_lt_mul_of_pos_right h1 hc
  have k2 : c.1 * b.2 * a.2 ≤ b.1 * c.2 * a.2 := Int.mul_le_mul_of_nonneg_right (by omega) (by omega)
  have k3 : (c.1 * a.2) * b.2 < (a.1 * c.2) * b.2 := by
    rw [show (c.1 * a.2) * b.2 = c.1 * b.2 * a.2 by ac_rfl, show (a.1 * c.2) * b.2 = a.1 * b.2 * c.2 by ac_rfl]
    refine Int.lt_of_le_of_lt k2 ?_
    rw [show b.1 * c.2 * a.2 = b.1 * a.2 * c.2 by ac_rfl]
    exact k1
  exact Int.lt_of_mul_lt_mul_right k3 (by omega)
theorem gtB_cut {a b : Int × Int} (ha : 0 < a.2) (hb : 0 < b.2) : gtB (cutP a) (cutP b) = gtB a b := by
  obtain ⟨n, d⟩ := a
  obtain ⟨m, e⟩ := b
  obtain ⟨a1, a2, a3, _⟩ := cutP_spec (n := n) ha
  obtain ⟨b1, b2, b3, _⟩ := cutP_spec (n := m) hb
  have ha : 0 < d := ha
  have hb : 0 < e := hb
  unfold gtB
  generalize cutP (n, d) = p at *
  generalize cutP (m, e) = q at *
  refine decide_eq_decide.mpr ?_
  show q.1 * p.2 < p.1 * q.2 ↔ m * d < n * e
  have w1 : 0 < d * e := Int.mul_pos ha hb
  have w2 : 0 < p.2 * q.2 := Int.mul_pos a1 b1
  have e1 : (q.1 * p.2) * (d * e) = (m * d) * (p.2 * q.2) := by
    calc (q.1 * p.2) * (d * e) = (q.1 * e) * (p.2 * d) := by ac_rfl
      _ = (m * q.2) * (p.2 * d) := by rw [b3]
      _ = _ := by ac_rfl
  have e2 : (p.1 * q.2) * (d * e) = (n * e) * (p.2 * q.2) := by
    calc (p.1 * q.2) * (d * e) = (p.1 * d) * (q.2 * e) := by ac_rfl
      _ = (n * p.2) * (q.2 * e) := by rw [a3]
      _ = _ := by ac_rfl
  constructor
  · intro h
    have := Int.mul_lt_mul_of_pos_right h w1
    rw [e1, e2] at this
    exact Int.lt_of_mul_lt_mul_right this (by omega)
  · intro h
    have := Int.mul_lt_mul_of_pos_right h w2
    rw [← e1, ← e2] at this
    exact Int.lt_of_mul_lt_mul_right this (by omega)
theorem off_pos {a b : Int × Int} (ha : 0 < a.2) (hb : 0 < b.2) : 0 < (offP a b).2 := Int.mul_pos ha hb
theorem off_comm (a b : Int × Int) : offP a b = offP b a := by
  unfold offP
  rw [Int.mul_comm b.2 a.2, show (b.1 * a.2 - a.1 * b.2) = -(a.1 * b.2 - b.1 * a.2) by omega, Int.natAbs_neg]
theorem gapR_comm (p q : (Int × Int) × (Int × Int)) : gapR p q = gapR q p := by
  unfold gapR
  rw [off_comm p.1, off_comm p.2]
theorem gapR_pos {p q : (Int × Int) × (Int × Int)} {b : Nat} (hp : Ptb b p) (hq : Ptb b q) : 0 < (gapR p q).2 := by
  unfold gapR
  split
  · exact off_pos hp.2.1 hq.2.1
  · exact off_pos hp.1.1 hq.1.1
theorem gapR_nn (p q : (Int × Int) × (Int × Int)) : 0 ≤ (gapR p q).1 := by
  unfold gapR
  split <;> exact Int.natCast_nonneg _
theorem less_ok {b : Nat} (hb : 2 * b + 1 ≤ 8000) {p q : Int × Int} (hp : Frb b p) (hq : Frb b q) : m_less (p, q) = .ok (cutP (p.1 * q.2 - q.1 * p.2, p.2 * q.2)) := by
  unfold m_less mb_less
  have h1 : CMulX p.1 q.2 := mulx b hp.2.1 hq.2.2 (by omega)
  have h2 : CMulX q.1 p.2 := mulx b hq.2.1 hp.2.2 (by omega)
  have h3 : CMulX p.2 q.2 := mulx b hp.2.2 hq.2.2 (by omega)
  simp only [guard_ok h1, guard_ok h2, guard_ok h3, op2_ok, bind_ok, fraction_pos (Int.mul_pos hp.1 hq.1) (pw (b + b) 8000 (by omega) (mul_lt2 hp.2.2 hq.2.2)), fin0_rt]
theorem less_frb {b : Nat} {p q : Int × Int} (hp : Frb b p) (hq : Frb b q) : Frb (2 * b + 1) (cutP (p.1 * q.2 - q.1 * p.2, p.2 * q.2)) := by
  obtain ⟨k1, k2, k3, k4, k5⟩ := cutP_spec (n := p.1 * q.2 - q.1 * p.2) (Int.mul_pos hp.1 hq.1)
  have h1 := sub_lt2 (mul_lt2 hp.2.1 hq.2.2) (mul_lt2 hq.2.1 hp.2.2)
  have h2 := mul_lt2 hp.2.2 hq.2.2
  rw [show b + b = 2 * b by omega] at h1 h2
  exact ⟨k1, Nat.lt_of_le_of_lt k4 h1, Nat.lt_of_le_of_lt k5 (pw (2 * b) (2 * b + 1) (by omega) h2)⟩
theorem sign_gt {b : Nat} (hb : 2 * b + 1 ≤ 8000) {p q : Int × Int} (hp : Frb b p) (hq : Frb b q) : ∃ c z, m_less (p, q) = .ok c ∧ m_sign c = .ok z ∧ decide (z > (0 : Int)) = gtB p q := by
  obtain ⟨k1, k2, k3, _⟩ := cutP_spec (n := p.1 * q.2 - q.1 * p.2) (Int.mul_pos hp.1 hq.1)
  have w : 0 < p.2 * q.2 := Int.mul_pos hp.1 hq.1
  rw [less_ok hb hp hq]
  generalize cutP (p.1 * q.2 - q.1 * p.2, p.2 * q.2) = c at *
  refine ⟨_, _, rfl, rfl, decide_eq_decide.mpr ?_⟩
  have h1 : 0 < c.1 ↔ 0 < p.1 * q.2 - q.1 * p.2 := by
    constructor
    · intro h
      have := Int.mul_pos h w
      rw [k3] at this
      exact Int.pos_of_mul_pos_left this k1 |> fun h => h
    · intro h
      have := Int.mul_pos h k1
      rw [← k3] at this
      exact Int.pos_of_mul_pos_left this w
  show ((if decide (c.1 > 0) = true then (1 : Int) else 0) - (if decide (c.1 < 0) = true then (1 : Int) else 0)) > 0 ↔ p.1 * q.2 > q.1 * p.2
  by_cases hc : 0 < c.1
  · have := h1.mp hc
    have h3 : ¬ c.1 < 0 := by omega
    simp [hc, h3]
    omega
  · have h2 : ¬ 0 < p.1 * q.2 - q.1 * p.2 := fun h => hc (h1.mpr h)
    simp [hc]
    constructor
    · intro h
      split at h <;> omega
    · intro h
      omega
theorem sign_ite {p : Int × Int} : ((if p.1 < 0 then -p.1 else p.1), p.2) = ((p.1.natAbs : Int), p.2) := by
  rw [abs_ite]
theorem cut_abs {n d : Int} (h : 0 < d) : (((cutP (n, d)).1.natAbs : Int), (cutP (n, d)).2) = cutP ((n.natAbs : Int), d) := by
  obtain ⟨k1, k2, k3, _⟩ := cutP_spec (n := n) h
  generalize cutP (n, d) = c at *
  have e2 : cutP ((n.natAbs : Int), d) = cutP ((c.1.natAbs : Int), c.2) := by
    refine cutP_eq h k1 ?_
    show (n.natAbs : Int) * c.2 = (c.1.natAbs : Int) * d
    have e := congrArg Int.natAbs k3
    rw [Int.natAbs_mul, Int.natAbs_mul] at e
    have e3 : (c.2.natAbs : Int) = c.2 := by omega
    have e4 : (d.natAbs : Int) = d := by omega
    calc (n.natAbs : Int) * c.2 = (n.natAbs : Int) * (c.2.natAbs : Int) := by rw [e3]
      _ = ((n.natAbs * c.2.natAbs : Nat) : Int) := by rw [Int.natCast_mul]
      _ = ((c.1.natAbs * d.natAbs : Nat) : Int) := by rw [e]
      _ = (c.1.natAbs : Int) * (d.natAbs : Int) := by rw [Int.natCast_mul]
      _ = _ := by rw [e4]
  rw [e2]
  refine (cutP_low (x := ((c.1.natAbs : Int), c.2)) k1 ?_).symm
  show Int.gcd (c.1.natAbs : Int) c.2 = 1
  rw [← k2]
  simp [Int.gcd]
theorem off_frb {b : Nat} {p q : Int × Int} (hp : Frb b p) (hq : Frb b q) : Frb (2 * b + 1) (offP p q) := by
  have h1 := sub_lt2 (mul_lt2 hp.2.1 hq.2.2) (mul_lt2 hq.2.1 hp.2.2)
  have h2 := mul_lt2 hp.2.2 hq.2.2
  rw [show b + b = 2 * b by omega] at h1 h2
  exact ⟨off_pos hp.1 hq.1, by show ((_ : Nat) : Int).natAbs < _; rw [Int.natAbs_natCast]; exact h1, pw (2 * b) (2 * b + 1) (by omega) h2⟩
theorem cut_frb {b : Nat} {p : Int × Int} (hp : Frb b p) : Frb b (cutP p) := by
  obtain ⟨k1, k2, k3, k4, k5⟩ := cutP_spec (n := p.1) hp.1
  exact ⟨k1, Nat.lt_of_le_of_lt k4 hp.2.1, Nat.lt_of_le_of_lt k5 hp.2.2⟩
theorem gap_ok {p q : (Int × Int) × (Int × Int)} (hp : Ptb 160 p) (hq : Ptb 160 q) : m_gap (p, q) = .ok (cutP (gapR p q)) := by
  unfold m_gap mb_gap
  have w : ∀ {a b : Int × Int}, Frb 160 a → Frb 160 b → m_without_sign (cutP (a.1 * b.2 - b.1 * a.2, a.2 * b.2)) = .ok (cutP (offP a b)) := fun {a b} ha hb => by
    unfold m_without_sign mb_without_sign
    rw [fin0_rt, sign_ite, cut_abs (Int.mul_pos ha.1 hb.1)]
    rfl
  simp only [less_ok (b := 160) (by decide) hp.1 hq.1, less_ok (b := 160) (by decide) hp.2 hq.2, bind_ok, w hp.1 hq.1, w hp.2 hq.2, lt_eq]
  unfold m_greater mb_greater
  have f1 := cut_frb (off_frb hp.1 hq.1)
  have f2 := cut_frb (off_frb hp.2 hq.2)
  obtain ⟨c, z, e1, e1', e2⟩ := sign_gt (b := 321) (by decide) f2 f1
  simp only [e1, e1', bind_ok, e2]
  rw [gtB_cut (off_pos hp.2.1 hq.2.1) (off_pos hp.1.1 hq.1.1)]
  unfold gapR
  cases gtB (offP p.2 q.2) (offP p.1 q.1) <;> rfl
/-! ### the first of the greatest -/
def best (g : Nat → Int × Int) : Nat → Int × (Int × Int)
  | 0 => (0, g 0)
  | k + 1 => if gtB (g (k + 1)) (best g k).2 = true then (((k + 1 : Nat) : Int), g (k + 1)) else best g k
theorem best_in (g : Nat → Int × Int) : ∀ k, ∃ j, j ≤ k ∧ (best g k).2 = g j
  | 0 => ⟨0, Nat.le_refl 0, rfl⟩
  | k + 1 => by
    rw [best]
    split
    · exact ⟨k + 1, Nat.le_refl _, rfl⟩
    · obtain ⟨j, h1, h2⟩ := best_in g k
      exact ⟨j, Nat.le_succ_of_le h1, h2⟩
/-- the gaps of two drawings -/
def gp (d o : List ((Int × Int) × (Int × Int))) (k : Nat) : Int × Int := gapR (d.getD k ((0, 1), (0, 1))) (o.getD k ((0, 1), (0, 1)))
structure Two (d o : List ((Int × Int) × (Int × Int))) : Prop where
  hd : ∀ p ∈ d, Ptb 160 p
  ho : ∀ p ∈ o, Ptb 160 p
  l0 : 0 < d.length
  l1 : d.length ≤ 20
  le : o.length = d.length
theorem Two.symm {d o : List ((Int × Int) × (Int × Int))} (h : Two d o) : Two o d := ⟨h.ho, h.hd, by rw [h.le]; exact h.l0, by rw [h.le]; exact h.l1, h.le.symm⟩
theorem Two.at {d o : List ((Int × Int) × (Int × Int))} (h : Two d o) {k : Nat} (hk : k < d.length) : ∃ p q, d[k]? = some p ∧ o[k]? = some q ∧ Ptb 160 p ∧ Ptb 160 q ∧ gp d o k = gapR p q := by
  have h2 : k < o.length := by rw [h.le]; exact hk
  refine ⟨d[k], o[k], List.getElem?_eq_getElem hk, List.getElem?_eq_getElem h2, h.hd _ (List.getElem_mem hk), h.ho _ (List.getElem_mem h2), ?_⟩
  unfold gp
  rw [List.getD_eq_getElem?_getD, List.getD_eq_getElem?_getD, List.getElem?_eq_getElem hk, List.getElem?_eq_getElem h2]
  rfl
theorem gapR_frb {p q : (Int × Int) × (Int × Int)} (hp : Ptb 160 p) (hq : Ptb 160 q) : Frb 321 (gapR p q) := by
  unfold gapR
  split
  · exact off_frb hp.2 hq.2
  · exact off_frb hp.1 hq.1
theorem Two.gfr {d o : List ((Int × Int) × (Int × Int))} (h : Two d o) {k : Nat} (hk : k < d.length) : Frb 321 (gp d o k) := by
  obtain ⟨p, q, _, _, hp, hq, e⟩ := h.at hk
  rw [e]
  exact gapR_frb hp hq
theorem best_frb {d o : List ((Int × Int) × (Int × Int))} (h : Two d o) {k : Nat} (hk : k < d.length) : Frb 321 (best (gp d o) k).2 := by
  obtain ⟨j, h1, h2⟩ := best_in (gp d o) k
  rw [h2]
  exact h.gfr (by omega)
theorem farthest_ok {d o : List ((Int × Int) × (Int × Int))} (h : Two d o) : m_farthest (d, o) = .ok ((best (gp d o) (d.length - 1)).1, cutP (best (gp d o) (d.length - 1)).2) := by
  refine Ok.eq ?_
  unfold m_farthest mb_farthest
  have ll := h.l1
  have l0 := h.l0
  obtain ⟨p, q, e1, e2, hp, hq, e3⟩ := h.at h.l0
  simp only [bind_assoc, bind_ok, lt_eq, atI_nat (k := 0) (by decide) e1, atI_nat (k := 0) (by decide) e2, some_ok, gap_ok hp hq, guard_ok (show rngOk 1 ∧ rngOk ((d.length : Nat) : Int) from ⟨rng_ok (by decide) (by decide), rng_ok (by omega) (by omega)⟩)]
  refine Ok.f0 (Ok.bF (Pn := fun s => s = ((best (gp d o) (d.length - 1)).1, cutP (best (gp d o) (d.length - 1)).2)) ?_ fun n e => Ok.rt e)
  refine Ok.forR (fun i s => s = ((best (gp d o) i).1, cutP (best (gp d o) i).2)) (by rw [best, e3]) ?_ ?_
  · rintro i x s hx rfl
    obtain ⟨rfl, hx⟩ := rng_get hx
    have hi : i + 1 < d.length := by omega
    obtain ⟨p, q, e1, e2, hp, hq, e3⟩ := h.at hi
    have e1' : atI d (1 + (i : Int)) = some p := atI_nat (by omega) (by rw [show ((1 : Int) + (i : Int)).toNat = i + 1 by omega]; exact e1)
    have e2' : atI o (1 + (i : Int)) = some q := atI_nat (by omega) (by rw [show ((1 : Int) + (i : Int)).toNat = i + 1 by omega]; exact e2)
    simp only [e1', e2', some_ok, bind_ok, gap_ok hp hq]
    have f1 := best_frb h (show i < d.length by omega)
    have f2 := gapR_frb hp hq
    obtain ⟨c, z, e4, e4', e5⟩ := sign_gt (b := 321) (by decide) (cut_frb f2) (cut_frb f1)
    simp only [e4, e4', bind_ok, e5, gtB_cut f2.1 f1.1]
    rw [best, e3]
    cases gtB (gapR p q) (best (gp d o) i).2 with
    | true => exact Ok.bF (Pn := fun s => s = _) (Ok.nx rfl) fun n e => Ok.nx (by rw [e]; simp; omega)
    | false => exact Ok.bF (Pn := fun s => s = _) (Ok.nx rfl) fun n e => Ok.nx (by rw [e]; simp)
  · rintro s rfl
    rw [rng_len]
    have : ((d.length : Nat) : Int) - 1 = ((d.length - 1 : Nat) : Int) := by omega
    rw [this, Int.toNat_natCast]
theorem loff_ok {p q : Int × Int} (hp : Frb 160 p) (hq : Frb 160 q) : m_law_off (p, q) = .ok (offP p q) := by
  unfold m_law_off mb_law_off
  have h1 : CMulX p.1 q.2 := mulx 160 hp.2.1 hq.2.2 (by omega)
  have h2 : CMulX q.1 p.2 := mulx 160 hq.2.1 hp.2.2 (by omega)
  have h3 : CMulX p.2 q.2 := mulx 160 hp.2.2 hq.2.2 (by omega)
  simp only [guard_ok h1, guard_ok h2, guard_ok h3, op2_ok, bind_ok, fin0_rt, abs_ite]
  rfl
theorem ite_two {α : Type} (b : Bool) (x y : α) : (bindF (if b = true then (R.ok (.nx x)) else (R.ok (.nx y)) : R (Fl α Unit α)) fun n => R.ok (.nx n)) = (R.ok (.nx (if b = true then x else y)) : R (Fl α Unit α)) := by
  cases b <;> rfl
/-- one step of the look, by one axis -/
def stepG (k : Nat) (w : Int × Int) (s : Int × (Int × Int)) : Int × (Int × Int) := if gtB w s.2 = true then ((k : Int), w) else s
theorem two_steps {k : Nat} {a b : Int × Int} {s : Int × (Int × Int)} (ha : 0 < a.2) (hb : 0 < b.2) (hs : 0 < s.2.2) : stepG k b (stepG k a s) = stepG k (if gtB b a = true then b else a) s := by
  unfold stepG
  cases h1 : gtB a s.2 with
  | true =>
    cases h2 : gtB b a with
    | true =>
      have : gtB b s.2 = true := by
        cases h3 : gtB b s.2 with
        | true => rfl
        | false =>
          have := gtB_trans ha hs hb h1 h3
          unfold gtB at h2 this
          have h2 := of_decide_eq_true h2
          have this := of_decide_eq_true this
          omega
      simp [h2, this]
    | false => simp [h1, h2]
  | false =>
    cases h2 : gtB b s.2 with
    | true =>
      have := gtB_trans hb hs ha h2 h1
      simp [h2, this]
    | false =>
      cases h3 : gtB b a with
      | true => simp [h2]
      | false => simp [h1, h2]
theorem due_ok {d o : List ((Int × Int) × (Int × Int))} (h : Two d o) : m_law_due (d, o) = .ok ((best (gp d o) (d.length - 1)).1, cutP (best (gp d o) (d.length - 1)).2) := by
  refine Ok.eq ?_
  unfold m_law_due mb_law_due
  have ll := h.l1
  have l0 := h.l0
  simp only [bind_assoc, bind_ok, lt_eq, guard_ok (show rngOk ((d.length : Nat) : Int) from rng_ok (by omega) (by omega)), guard_ok (show rngOk (2 : Int) from rng_ok (by decide) (by decide))]
  have fb := best_frb h (show d.length - 1 < d.length by omega)
  refine Ok.f0 (Ok.bF (Pn := fun s => s = best (gp d o) (d.length - 1)) ?_ fun n e => ?_)
  · refine Ok.forR (fun i s => (i = 0 → s = (0, (-1, 1))) ∧ (∀ j, i = j + 1 → s = best (gp d o) j)) ⟨fun _ => rfl, fun j z => by omega⟩ ?_ ?_
    · rintro i x ⟨pl, fa⟩ hx ⟨h1, h2⟩
      obtain ⟨rfl, hx⟩ := rng_get hx
      have hi : i < d.length := by omega
      obtain ⟨p, q, e1, e2, hp, hq, e3⟩ := h.at hi
      have e1' : atI d (0 + (i : Int)) = some p := atI_nat (by omega) (by rw [show ((0 : Int) + (i : Int)).toNat = i by omega]; exact e1)
      have e2' : atI o (0 + (i : Int)) = some q := atI_nat (by omega) (by rw [show ((0 : Int) + (i : Int)).toNat = i by omega]; exact e2)
      have fs : Frb 321 fa := by
        cases i with
        | zero =>
          have := h1 rfl
          injection this with _ this
          rw [this]
          exact ⟨by decide, by decide, by decide⟩
        | succ j =>
          have e := h2 j rfl
          have := best_frb h (show j < d.length by omega)
          rw [← e] at this
          exact this
      have one : ∀ {w : Int × Int} {s : Int × (Int × Int)}, Frb 321 w → Frb 321 s.2 → (DL.op2 (R.guard (CMulX w.1 s.2.2)) (fun (_ : Unit) => R.guard (CMulX s.2.1 w.2)) (fun (_ : Unit) (_ : Unit) => R.ok ())) = .ok ((), (), ()) := fun {w s} hw hs => by
        simp only [guard_ok (mulx 321 hw.2.1 hs.2.2 (by omega)), guard_ok (mulx 321 hs.2.1 hw.2.2 (by omega)), op2_ok, bind_ok]
      have r2 : rng 0 2 = [0, 1] := by decide
      have a0 : atI [p.1, p.2] 0 = some p.1 := rfl
      have a1 : atI [p.1, p.2] 1 = some p.2 := rfl
      have b0 : atI [q.1, q.2] 0 = some q.1 := rfl
      have b1 : atI [q.1, q.2] 1 = some q.2 := rfl
      have o1 := off_frb hp.1 hq.1
      have o2 := off_frb hp.2 hq.2
      have fs2 : Frb 321 (stepG i (offP p.1 q.1) (pl, fa)).2 := by
        unfold stepG
        split
        · exact o1
        · exact fs
      refine Ok.bF (Pn := fun s => s = stepG i (gapR p q) (pl, fa)) ?_ ?_
      · rw [r2]
        refine Ok.forR (fun j s => (j = 0 → s = (pl, fa)) ∧ (j = 1 → s = stepG i (offP p.1 q.1) (pl, fa)) ∧ (j = 2 → s = stepG i (gapR p q) (pl, fa))) ⟨fun _ => rfl, fun z => by omega, fun z => by omega⟩ ?_ fun s hs => hs.2.2 rfl
        rintro j y ⟨pl2, fa2⟩ hy ⟨k0, k1, k2⟩
        have hj : (j = 0 ∧ y = 0) ∨ (j = 1 ∧ y = 1) := by
          match j, hy with
          | 0, hy => exact .inl ⟨rfl, by simpa using hy.symm⟩
          | 1, hy => exact .inr ⟨rfl, by simpa using hy.symm⟩
          | j + 2, hy => simp at hy
        rcases hj with ⟨rfl, rfl⟩ | ⟨rfl, rfl⟩
        · have k := k0 rfl
          injection k with ka kb
          subst ka
          subst kb
          simp only [e1', e2', some_ok, bind_ok, a0, b0, loff_ok hp.1 hq.1, one (s := (pl2, fa2)) o1 fs]
          refine Ok.bF (Pn := fun s => s = stepG i (offP p.1 q.1) (pl2, fa2)) (Ok.ite (fun z => Ok.nx ?_) fun z => Ok.nx ?_) fun n e => Ok.nx ⟨fun z => by omega, fun _ => e, fun z => by omega⟩
          · unfold stepG gtB
            rw [if_pos z, Int.zero_add]
          · unfold stepG gtB
            rw [if_neg (by rw [z]; decide)]
        · have k := k1 rfl
          have f2 : Frb 321 fa2 := by
            rw [← k] at fs2
            exact fs2
          simp only [e1', e2', some_ok, bind_ok, a1, b1, loff_ok hp.2 hq.2, one (s := (pl2, fa2)) o2 f2]
          refine Ok.bF (Pn := fun s => s = stepG i (offP p.2 q.2) (pl2, fa2)) (Ok.ite (fun z => Ok.nx ?_) fun z => Ok.nx ?_) fun n e => Ok.nx ⟨fun z => by omega, fun z => by omega, fun _ => ?_⟩
          · unfold stepG gtB
            rw [if_pos z, Int.zero_add]
          · unfold stepG gtB
            rw [if_neg (by rw [z]; decide)]
          · show n = _
            rw [e, k, two_steps o1.1 o2.1 fs.1]
            rfl
      · rintro n rfl
        refine Ok.nx ⟨fun z => by omega, fun j z => ?_⟩
        have z : i = j := by omega
        subst z
        show stepG i (gapR p q) (pl, fa) = _
        cases i with
        | zero =>
          have := h1 rfl
          injection this with ka kb
          subst ka
          subst kb
          unfold stepG
          rw [best, e3, if_pos]
          · rfl
          · unfold gtB
            refine decide_eq_true ?_
            have := gapR_nn p q
            have := gapR_pos hp hq
            show (gapR p q).1 * 1 > -1 * (gapR p q).2
            omega
        | succ j =>
          rw [h2 j rfl, best, e3]
          rfl
    · rintro s ⟨h1, h2⟩
      rw [rng_len] at h2
      exact h2 (d.length - 1) (by omega)
  · subst e
    exact Ok.bind1 (cut_pos fb.1 (pw 321 8000 (by decide) fb.2.2)) (Ok.rt rfl)
theorem law_is_ok (x : Int × (Int × Int)) : m_law_is (x, x) = .ok true := by
  unfold m_law_is mb_law_is
  simp [isTup, isBool, bindF_nx, bind_ok, guard_ok (line_ok (show 3 ≤ 1000 by decide)), fin0_rt]
theorem short_pt {p : (Int × Int) × (Int × Int)} (h : Ptb 160 p) : shortD 60 (eP2 (eP2 D.int D.int) (eP2 D.int D.int) p) := by
  have e : (2 : Nat) ^ 160 < 10 ^ 60 := by decide
  have w : ∀ {i : Int}, i.natAbs < 2 ^ 160 → i.natAbs < 10 ^ 60 := fun h => Nat.lt_trans h e
  obtain ⟨⟨_, a, b⟩, _, c, d⟩ := h
  simp only [eP2, shortD, shortDs, and_true]
  exact ⟨⟨w a, w b⟩, w c, w d⟩
theorem rep_ok {d o : List ((Int × Int) × (Int × Int))} (h : Two d o) : repOk (eP2 (eT (eP2 (eP2 D.int D.int) (eP2 D.int D.int))) (eT (eP2 (eP2 D.int D.int) (eP2 D.int D.int))) (d, o)) := by
  have dp : ∀ p : (Int × Int) × (Int × Int), deepD (eP2 (eP2 D.int D.int) (eP2 D.int D.int) p) ≤ 2 := fun p => by simp [eP2, deepD, deepDs]
  have wp : ∀ p : (Int × Int) × (Int × Int), wide 60 (eP2 (eP2 D.int D.int) (eP2 D.int D.int) p) ≤ 300 := fun p => by simp [eP2, wide, wides]
  refine repOk_of (B := 60) (by decide) (by decide) ?_ rfl ?_ ?_
  · simp only [eP2, shortD, shortDs, and_true]
    exact ⟨shortDs_map fun p m => short_pt (h.hd p m), shortDs_map fun p m => short_pt (h.ho p m)⟩
  · have h1 := deepDs_map (f := eP2 (eP2 D.int D.int) (eP2 D.int D.int)) (xs := d) (c := 2) fun p _ => dp p
    have h2 := deepDs_map (f := eP2 (eP2 D.int D.int) (eP2 D.int D.int)) (xs := o) (c := 2) fun p _ => dp p
    simp only [eP2, eT, deepD, deepDs] at *
    omega
  · have h1 := wides_map (B := 60) (f := eP2 (eP2 D.int D.int) (eP2 D.int D.int)) (xs := d) (c := 300) fun p _ => wp p
    have h2 := wides_map (B := 60) (f := eP2 (eP2 D.int D.int) (eP2 D.int D.int)) (xs := o) (c := 300) fun p _ => wp p
    have := h.l1
    have := h.le
    simp only [eP2, eT, wide, wides] at *
    omega
theorem best_same (d : List ((Int × Int) × (Int × Int))) (h : ∀ p ∈ d, Ptb 160 p) : ∀ k, k < d.length → (best (gp d d) k).1 = 0 ∧ (best (gp d d) k).2.1 = 0 := by
  have g0 : ∀ k, k < d.length → (gp d d k).1 = 0 := fun k hk => by
    unfold gp gapR offP gtB
    simp
  intro k
  induction k with
  | zero => exact fun hk => ⟨rfl, g0 0 hk⟩
  | succ k ih =>
    intro hk
    obtain ⟨h1, h2⟩ := ih (by omega)
    rw [best]
    have : gtB (gp d d (k + 1)) (best (gp d d) k).2 = false := by
      unfold gtB
      rw [g0 _ hk, h2]
      simp
    rw [if_neg (by rw [this]; decide)]
    exact ⟨h1, h2⟩
theorem law_true (ns : List Int) (hl : ns.length ≤ 63) : m_law ns = .ok true := by
  refine Ok.eq ?_
  unfold m_law mb_law
  simp only [bind_assoc, bind_ok, lt_eq]
  refine Ok.f0 (Ok.bF (Pn := fun _ => True) (Ok.grdB (rng_ok (by omega) (by omega)) ?_) fun _ _ => Ok.rt rfl)
  refine (Ok.forC (fun _ => True) trivial fun x hx s _ => ?_)
  have hx0 := (mem_rng hx).1
  refine (pot ns hx0).bind fun l0 p0 => ?_
  refine (digit p0 (by decide) (by decide)).bind ?_
  rintro ⟨r1, l1⟩ ⟨g1, g2, p1⟩
  have hw : ∃ w, atI [(2 : Int), 9, (10 : Int) ^ (Int.toNat (40 : Int))] r1 = some w ∧ 0 < w ∧ w ≤ 10000000000000000000000000000000000000000 := by
    have : r1 = 0 ∨ r1 = 1 ∨ r1 = 2 := by have : r1 < 3 := g2; have : 0 ≤ r1 := g1; omega
    rcases this with rfl | rfl | rfl
    · exact ⟨2, rfl, by decide, by decide⟩
    · exact ⟨9, rfl, by decide, by decide⟩
    · exact ⟨_, rfl, by rw [p40']; decide, by rw [p40']; decide⟩
  obtain ⟨w, e, w0, w1⟩ := hw
  refine Ok.somB e ?_
  refine (digit p1 (by decide) (by decide)).bind ?_
  rintro ⟨r2, l2⟩ ⟨g3, g4, p2⟩
  have g3 : 0 ≤ r2 := g3
  have g4 : r2 < 10 := g4
  refine (ldrawing p2 (by omega) (by omega) w0 w1).bind ?_
  rintro ⟨d, l3⟩ ⟨⟨d1, d2⟩, p3⟩
  have d1 : d.length = (3 + r2).toNat := d1
  have d2 : ∀ p ∈ d, Ptb 150 p := d2
  refine (lput p3 d2 (by omega) (by omega) w0 w1).bind ?_
  rintro ⟨o, l4⟩ ⟨⟨o1, o2⟩, p4⟩
  refine Ok.bF (Pn := fun (s : List Int × List ((Int × Int) × (Int × Int))) => Two d s.2) ?_ ?_
  · refine (digit p4 (by decide) (by decide)).bind ?_
    rintro ⟨r3, l5⟩ ⟨_, _, p5⟩
    refine Ok.ite (fun _ => ?_) fun _ => Ok.nx ⟨fun p m => (d2 p m).up (by decide), o2, by omega, by omega, o1⟩
    refine (ldrawing p5 (many := ((d.length : Nat) : Int)) (by omega) (by omega) w0 w1).bind ?_
    rintro ⟨o', l6⟩ ⟨⟨q1, q2⟩, _⟩
    have q1 : o'.length = ((d.length : Nat) : Int).toNat := q1
    exact Ok.nx ⟨fun p m => (d2 p m).up (by decide), fun p m => (q2 p m).up (by decide), by omega, by omega, by show o'.length = _; omega⟩
  · rintro ⟨l7, o⟩ two
    have two : Two d o := two
    have self : Two o o := ⟨two.ho, two.ho, two.symm.l0, two.symm.l1, rfl⟩
    have sy : m_farthest (o, d) = m_farthest (d, o) := by
      rw [farthest_ok two, farthest_ok two.symm]
      have : gp o d = gp d o := funext fun k => gapR_comm _ _
      rw [this, two.le]
    have e0 : m_farthest (o, o) = .ok (0, (0, 1)) := by
      rw [farthest_ok self]
      obtain ⟨h1, h2⟩ := best_same o two.ho (o.length - 1) (by have := self.l0; omega)
      have h3 := (best_frb self (show o.length - 1 < o.length by have := self.l0; omega)).1
      have : cutP (best (gp o o) (o.length - 1)).2 = (0, 1) := by
        rw [← cutP_low (x := ((0 : Int), (1 : Int))) (by decide) (by decide)]
        refine cutP_eq h3 (by decide) ?_
        rw [h2]
        simp
      rw [h1, this]
    have rk := rep_ok two
    simp only [guard_ok rk, farthest_ok two, due_ok two, sy, e0, law_is_ok, bind_ok, or2_ok, op2_ok]
    simp [bindF_nx, bind_ok, or2_ok]
    exact Ok.nx trivial

def e_law_pot : He.DefD := ⟨("_law_pot", none), "_law_pot", "_law_pot", defArgs s_law_pot, defBody s_law_pot, defScope s_law_pot, [], []⟩
def e_law_digit : He.DefD := ⟨("_law_digit", none), "_law_digit", "_law_digit", defArgs s_law_digit, defBody s_law_digit, defScope s_law_digit, [], []⟩
def e_law_common : He.DefD := ⟨("_law_common", none), "_law_common", "_law_common", defArgs s_law_common, defBody s_law_common, defScope s_law_common, [], []⟩
def e_law_cut : He.DefD := ⟨("_law_cut", none), "_law_cut", "_law_cut", defArgs s_law_cut, defBody s_law_cut, defScope s_law_cut, [], []⟩
def e_law_fraction : He.DefD := ⟨("_law_fraction", none), "_law_fraction", "_law_fraction", defArgs s_law_fraction, defBody s_law_fraction, defScope s_law_fraction, [], []⟩
def e_law_drawing : He.DefD := ⟨("_law_drawing", none), "_law_drawing", "_law_drawing", defArgs s_law_drawing, defBody s_law_drawing, defScope s_law_drawing, [], []⟩
def e_law_put : He.DefD := ⟨("_law_put", none), "_law_put", "_law_put", defArgs s_law_put, defBody s_law_put, defScope s_law_put, [], []⟩
def e_law_is : He.DefD := ⟨("_law_is", none), "_law_is", "_law_is", defArgs s_law_is, defBody s_law_is, defScope s_law_is, [], []⟩
def e_without_sign : He.DefD := ⟨("without_sign", none), "without_sign", "without_sign", defArgs s_without_sign, defBody s_without_sign, defScope s_without_sign, [], []⟩
def e_divisor : He.DefD := ⟨("divisor", none), "divisor", "divisor", defArgs s_divisor, defBody s_divisor, defScope s_divisor, [], []⟩
def e_fraction : He.DefD := ⟨("fraction", none), "fraction", "fraction", defArgs s_fraction, defBody s_fraction, defScope s_fraction, [], []⟩
def e_less : He.DefD := ⟨("less", none), "less", "less", defArgs s_less, defBody s_less, defScope s_less, [], []⟩
def e_sign : He.DefD := ⟨("sign", none), "sign", "sign", defArgs s_sign, defBody s_sign, defScope s_sign, [], []⟩
def e_greater : He.DefD := ⟨("greater", none), "greater", "greater", defArgs s_greater, defBody s_greater, defScope s_greater, [], []⟩
def e_gap : He.DefD := ⟨("gap", none), "gap", "gap", defArgs s_gap, defBody s_gap, defScope s_gap, [], []⟩
def e_farthest : He.DefD := ⟨("farthest", none), "farthest", "farthest", defArgs s_farthest, defBody s_farthest, defScope s_farthest, [], []⟩
def e_law_off : He.DefD := ⟨("_law_off", none), "_law_off", "_law_off", defArgs s_law_off, defBody s_law_off, defScope s_law_off, [], []⟩
def e_law_due : He.DefD := ⟨("_law_due", none), "_law_due", "_law_due", defArgs s_law_due, defBody s_law_due, defScope s_law_due, [], []⟩
def e_law : He.DefD := ⟨("law", none), "law", "law", defArgs s_law, defBody s_law, defScope s_law, [], []⟩
def fnL : List He.DefD := [e_law_pot, e_law_digit, e_law_common, e_law_cut, e_law_fraction, e_law_drawing, e_law_put, e_law_is, e_without_sign, e_divisor, e_fraction, e_less, e_sign, e_greater, e_gap, e_farthest, e_law_off, e_law_due, e_law]
def faL : List He.Fa := [.glo "_law_pot", .glo "_law_digit", .glo "_law_common", .glo "_law_cut", .glo "_law_fraction", .glo "_law_drawing", .glo "_law_put", .glo "_law_is", .glo "without_sign", .glo "divisor", .glo "fraction", .glo "less", .glo "sign", .glo "greater", .glo "gap", .glo "farthest", .glo "_law_off", .glo "_law_due", .glo "law", .free "abs", .free "any", .free "bool", .free "divmod", .free "int", .free "isinstance", .free "len", .free "list", .free "max", .free "min", .free "range", .free "repr", .free "tuple"]
abbrev Rw : PySem.W.OpenRow := PySem.W.OpenLaw.row PySem.Challenge.rw_restdraw_k37_farthest
abbrev hkL : PySem.W.Hook := He.hookD 4 faL fnL
def obL (s : PySem.W.SharedT) : He.AlD := He.obsDG 4 faL fnL (HandSHeadRun.getT s)
theorem ob_eqL (s : PySem.W.SharedT) : obL s = hkL.obs s.abs := He.obsDG_eq (HandSHeadRun.getT_eq s)
theorem runL (w : World) : HandSHeadRun.RunEq Rw (PySem.W.view Rw.prog [21]) hkL obL 1000 ["divisor", "fraction", "less", "sign", "without_sign", "greater", "gap", "farthest", "_law_pot", "_law_digit", "_law_common", "_law_cut", "_law_fraction", "_law_drawing", "_law_put", "_law_off", "_law_due", "_law_is"] w := by
  intro os
  kernel_rfl
theorem factsL {P : Program} {w : World} {K : PySem.W.Frag} {h : Heap} {mg : Str → Option Value} {f : Addr} (X : K.In h) (G : h.Ns mainGlobals mg) (hfa : mg ("law" : Str) = some (.ref f)) (c : He.SaysD faL fnL K) :
    ∃ fd : FuncData, (∀ (s : Shared) (v : Value), BindsTo s fd ⟨[v], []⟩ [("_law_script", v)]) ∧ ∀ base : Heap, K.In base → base.Ns mainGlobals mg → FnG P w K mg base CX0 7 f fd ["_law_script"] (spM K i_law m_law l_law o_law) := by
  obtain ⟨d0, F0⟩ := c.def_ 0 (d := e_law_pot) rfl
  obtain ⟨d1, F1⟩ := c.def_ 1 (d := e_law_digit) rfl
  obtain ⟨d2, F2⟩ := c.def_ 2 (d := e_law_common) rfl
  obtain ⟨d3, F3⟩ := c.def_ 3 (d := e_law_cut) rfl
  obtain ⟨d4, F4⟩ := c.def_ 4 (d := e_law_fraction) rfl
  obtain ⟨d5, F5⟩ := c.def_ 5 (d := e_law_drawing) rfl
  obtain ⟨d6, F6⟩ := c.def_ 6 (d := e_law_put) rfl
  obtain ⟨d7, F7⟩ := c.def_ 7 (d := e_law_is) rfl
  obtain ⟨d8, F8⟩ := c.def_ 8 (d := e_without_sign) rfl
  obtain ⟨d9, F9⟩ := c.def_ 9 (d := e_divisor) rfl
  obtain ⟨d10, F10⟩ := c.def_ 10 (d := e_fraction) rfl
  obtain ⟨d11, F11⟩ := c.def_ 11 (d := e_less) rfl
  obtain ⟨d12, F12⟩ := c.def_ 12 (d := e_sign) rfl
  obtain ⟨d13, F13⟩ := c.def_ 13 (d := e_greater) rfl
  obtain ⟨d14, F14⟩ := c.def_ 14 (d := e_gap) rfl
  obtain ⟨d15, F15⟩ := c.def_ 15 (d := e_farthest) rfl
  obtain ⟨d16, F16⟩ := c.def_ 16 (d := e_law_off) rfl
  obtain ⟨d17, F17⟩ := c.def_ 17 (d := e_law_due) rfl
  obtain ⟨d18, F18⟩ := c.def_ 18 (d := e_law) rfl
  have e := hfa.symm.trans (He.glo_ok X G (c.fact 18 (f := .glo "law") rfl))
  cases e
  have b := FunD.bindsA (ps := ["_law_script"]) F18 fun _ _ _ _ _ _ us hl => match us, hl with | [_], _ => rfl
  let T : Top K mg := {
    law_pot := ⟨_, d0, F0, He.glo_ok X G (c.fact 0 (f := .glo "_law_pot") rfl), FunD.bindsN F0 fun _ _ _ _ _ _ us hl => match us, hl with | [_, _], _ => rfl⟩
    law_digit := ⟨_, d1, F1, He.glo_ok X G (c.fact 1 (f := .glo "_law_digit") rfl), FunD.bindsN F1 fun _ _ _ _ _ _ us hl => match us, hl with | [_, _], _ => rfl⟩
    law_common := ⟨_, d2, F2, He.glo_ok X G (c.fact 2 (f := .glo "_law_common") rfl), FunD.bindsN F2 fun _ _ _ _ _ _ us hl => match us, hl with | [_, _], _ => rfl⟩
    law_cut := ⟨_, d3, F3, He.glo_ok X G (c.fact 3 (f := .glo "_law_cut") rfl), FunD.bindsN F3 fun _ _ _ _ _ _ us hl => match us, hl with | [_, _], _ => rfl⟩
    law_fraction := ⟨_, d4, F4, He.glo_ok X G (c.fact 4 (f := .glo "_law_fraction") rfl), FunD.bindsN F4 fun _ _ _ _ _ _ us hl => match us, hl with | [_, _], _ => rfl⟩
    law_drawing := ⟨_, d5, F5, He.glo_ok X G (c.fact 5 (f := .glo "_law_drawing") rfl), FunD.bindsN F5 fun _ _ _ _ _ _ us hl => match us, hl with | [_, _, _], _ => rfl⟩
    law_put := ⟨_, d6, F6, He.glo_ok X G (c.fact 6 (f := .glo "_law_put") rfl), FunD.bindsN F6 fun _ _ _ _ _ _ us hl => match us, hl with | [_, _, _], _ => rfl⟩
    law_is := ⟨_, d7, F7, He.glo_ok X G (c.fact 7 (f := .glo "_law_is") rfl), FunD.bindsN F7 fun _ _ _ _ _ _ us hl => match us, hl with | [_, _], _ => rfl⟩
    without_sign := ⟨_, d8, F8, He.glo_ok X G (c.fact 8 (f := .glo "without_sign") rfl), FunD.bindsN F8 fun _ _ _ _ _ _ us hl => match us, hl with | [_], _ => rfl⟩
    divisor := ⟨_, d9, F9, He.glo_ok X G (c.fact 9 (f := .glo "divisor") rfl), FunD.bindsN F9 fun _ _ _ _ _ _ us hl => match us, hl with | [_, _], _ => rfl⟩
    fraction := ⟨_, d10, F10, He.glo_ok X G (c.fact 10 (f := .glo "fraction") rfl), FunD.bindsN F10 fun _ _ _ _ _ _ us hl => match us, hl with | [_, _], _ => rfl⟩
    less := ⟨_, d11, F11, He.glo_ok X G (c.fact 11 (f := .glo "less") rfl), FunD.bindsN F11 fun _ _ _ _ _ _ us hl => match us, hl with | [_, _], _ => rfl⟩
    sign := ⟨_, d12, F12, He.glo_ok X G (c.fact 12 (f := .glo "sign") rfl), FunD.bindsN F12 fun _ _ _ _ _ _ us hl => match us, hl with | [_], _ => rfl⟩
    greater := ⟨_, d13, F13, He.glo_ok X G (c.fact 13 (f := .glo "greater") rfl), FunD.bindsN F13 fun _ _ _ _ _ _ us hl => match us, hl with | [_, _], _ => rfl⟩
    gap := ⟨_, d14, F14, He.glo_ok X G (c.fact 14 (f := .glo "gap") rfl), FunD.bindsN F14 fun _ _ _ _ _ _ us hl => match us, hl with | [_, _], _ => rfl⟩
    farthest := ⟨_, d15, F15, He.glo_ok X G (c.fact 15 (f := .glo "farthest") rfl), FunD.bindsN F15 fun _ _ _ _ _ _ us hl => match us, hl with | [_, _], _ => rfl⟩
    law_off := ⟨_, d16, F16, He.glo_ok X G (c.fact 16 (f := .glo "_law_off") rfl), FunD.bindsN F16 fun _ _ _ _ _ _ us hl => match us, hl with | [_, _], _ => rfl⟩
    law_due := ⟨_, d17, F17, He.glo_ok X G (c.fact 17 (f := .glo "_law_due") rfl), FunD.bindsN F17 fun _ _ _ _ _ _ us hl => match us, hl with | [_, _], _ => rfl⟩
    law := ⟨_, d18, F18, He.glo_ok X G (c.fact 18 (f := .glo "law") rfl), FunD.bindsN F18 fun _ _ _ _ _ _ us hl => match us, hl with | [_], _ => rfl⟩
    z_abs := He.free_ok X G (c.fact 19 (f := .free "abs") rfl)
    z_any := He.free_ok X G (c.fact 20 (f := .free "any") rfl)
    z_bool := He.free_ok X G (c.fact 21 (f := .free "bool") rfl)
    z_divmod := He.free_ok X G (c.fact 22 (f := .free "divmod") rfl)
    z_int := He.free_ok X G (c.fact 23 (f := .free "int") rfl)
    z_isinstance := He.free_ok X G (c.fact 24 (f := .free "isinstance") rfl)
    z_len := He.free_ok X G (c.fact 25 (f := .free "len") rfl)
    z_list := He.free_ok X G (c.fact 26 (f := .free "list") rfl)
    z_max := He.free_ok X G (c.fact 27 (f := .free "max") rfl)
    z_min := He.free_ok X G (c.fact 28 (f := .free "min") rfl)
    z_range := He.free_ok X G (c.fact 29 (f := .free "range") rfl)
    z_repr := He.free_ok X G (c.fact 30 (f := .free "repr") rfl)
    z_tuple := He.free_ok X G (c.fact 31 (f := .free "tuple") rfl)
  }
  exact ⟨d18, fun s v => b s [v] rfl, fun base _ _ => ok_law T⟩

end W
open PySem PySem.W PySem.Calls PyProof.Rows
set_option maxHeartbeats 8000000 in
theorem PySem.Challenge.cw_restdraw_k37_farthest_holds : PySem.Challenge.rw_restdraw_k37_farthest.Holds := by
  w_on; o_law
  refine HandSHeadRun.head_any (r := W.Rw) (q := view W.Rw.prog [21]) (H := W.hkL) (ob := W.obL) (M := 1000) (loose := ["divisor", "fraction", "less", "sign", "without_sign", "greater", "gap", "farthest", "_law_pot", "_law_digit", "_law_common", "_law_cut", "_law_fraction", "_law_drawing", "_law_put", "_law_off", "_law_due", "_law_is"]) (d := HandSHeadRun.topDef W.Rw.prog 21) (kwd := []) W.ob_eqL
    (by kernel_rfl) (fun s => by kernel_rfl) W.runL (by kernel_rfl) (by kernel_rfl) (by kernel_rfl) (by rfl) (by first | assumption | decide +kernel) (by decide +kernel) ⟨rfl, rfl, rfl, rfl, rfl, by decide +kernel⟩ ?hw ?hc
  case hw => w_witness2
  case hc =>
    refine DL.walk_ofG (l := PySem.Challenge.rw_restdraw_k37_farthest) (n := 63) (k := 7) (x := "_law_script") (CX := L2.CX0) rfl (by decide) (by kernel_rfl) ⟨⟨rfl, by decide, by decide⟩, rfl⟩ ?F (fun _ _ _ _ z => z)
    intro w mg fa h Y G hmg0
    obtain ⟨K, KX, c⟩ := Y
    have hmg : mg ("law" : PySem.Str) = some (.ref fa) := by
      have e : (HandSHeadRun.topDef W.Rw.prog 21).name = ("law" : PySem.Str) := by kernel_rfl
      rw [← e]
      exact hmg0
    obtain ⟨fd, hb, hF⟩ := W.factsL (P := (PySem.Challenge.rw_restdraw_k37_farthest).prog) (w := w) KX G hmg c
    exact ⟨K, fd, _, KX, hb, fun H a ns hl _ hS => DL.law_sp hS (W.law_true ns hl), hF⟩
