import PyProof.Rows.All
import Wide.All
import OpenK.AllK
import Wide.FinOn
import HandS.ForMost
import HandS.Wide
import HandS.WideBits
import HandS.Defaults
import HandS.Ends
import HandS.HeadEnd
import HandS.IsInst
import HandS.Words
import HandS.WordsExc
import HandS.Comp
import HandS.Deep
import HandS.NoneIn
import HandS.More
import HandS.SetFor
import HandS.Strs
import HandS.Iter
import PyProof.EnumMake
import PyProof.Draws
import PyProof.TupleIter
import PyProof.ReprRoads
import PyProof.ReprText
import PyProof.ReprLen
import HandS.Conv
import HandS.Dict
import HandS.SortInts
import HandS.TupAny
import HandS.Style
import HandS.TupSets
import KE.DatumOrd
import KE.KDictCopyH
import KE.KDictPairs
import KE.SortKeyHeap
import PyProof.Rows.SetFrom
import HandS.Zip
import HandS.Rev
import HandS.HeadHook1
import HandS.HeadHook2
import HandS.Head0
import HandS.Head1
import HandS.Head2
import PySem.Challenge.RW_restdraw_k45_areas_and_bends
set_option Elab.async false
set_option linter.all false
set_option autoImplicit false
set_option exponentiation.threshold 100000
set_option maxRecDepth 100000
set_option maxHeartbeats 4000000
/-! DL0: defs' promises where no display is under way -/
namespace DL
open PySem PySem.Spec L2 PyProof.Rows

/-- there is room, and no display stands below -/
structure RoomG (k : Nat) (A : Around) : Prop where
  r : Room k A
  gd : A.guards = some []
theorem RoomG.mono {j k : Nat} {A : Around} (h : RoomG k A) (l : j ≤ k) : RoomG j A := ⟨h.r.mono l, h.gd⟩
theorem RoomG.deeper {k : Nat} {A : Around} (h : RoomG (k + 1) A) (env : PySem.Env) : RoomG k (A.deeper env) := ⟨h.r.deeper env, h.gd⟩
/-- a def's promise, there -/
structure FnG (P : Program) (w : World) (K : PySem.W.Frag) (mg : Str → Option Value) (bs : Heap) (CX : CXT) (k : Nat) (fa : Addr) (fd : FuncData) (ps : List Str) (sp : Sp) : Prop where
  many : ∀ xs G Z W, sp xs G Z W → xs.length = ps.length
  go : ∀ (A : Around) (out : List PySem.Env) (t : Shared) (G : Hp) (ar : Args) (us : List Value) (xs : List V) (Z : VK) (W : XK), RoomG k A → Env0 P w K mg bs A out t G → BindsTo t fd ar (ps.zip us) → Vals xs us →
    sp xs G Z W → codeAny (model P w) A (.call (.ref fa) ar) (CR CX out P w G t Z W) t
section
variable {P : Program} {w : World} {K : PySem.W.Frag} {mg : Str → Option Value} {bs : Heap} {CX : CXT} {k : Nat} {fa : Addr} {fd : FuncData} {ps : List Str} {sp : Sp}
/-- by a def's body -/
theorem fn_ofG {x qual : Str} {params : Arguments} {body : List Stmt} {scope : Scope} {N : List Str} (F : FunD K x qual params body scope [] [] fa fd) (S : FnScope N ps scope) (many : ∀ xs G Z W, sp xs G Z W → xs.length = ps.length)
    (hb : ∀ (cv : Value) (A : Around) (out : List PySem.Env) (t : Shared) (G : Hp) (xs : List V) (Z : VK) (W : XK), RoomG k (A.deeper (envOfC qual scope t.heap.objs.size fa cv)) → sp xs G Z W →
      ∃ r, PSs (cxOf CX P w K mg bs N qual scope fa cv A out t G W) body r ∧ r { nx := fun _ G' => Z .non G', rt := Z } (start N xs) G) :
    FnG P w K mg bs CX (k + 1) fa fd ps sp := by
  obtain ⟨oc, od, dV, kV, doc, pm, an, cv, ct, osl, e, lk, cin, _, _⟩ := F.ex
  subst e
  refine ⟨many, ?_⟩
  intro A out t G ar us xs Z W room env bind rel pr
  have sizes := many _ _ _ _ pr
  have KI : K.In t.heap := env.mod.kin.keeps fun b o z => (env.bs b o z).1
  have free : t.heap.NoLimit := env.mod.nolimit.keeps fun b o z => (env.bs b o z).1
  refine codeAny_call_function room.r.depth (KI _ _ lk) rfl S.co S.gen rfl (PySem.W.codeRec_of KI cin) (bind _ _ _ _ ?_)
  have kinds : ∀ q ∈ ps.zip us, scope.names.lookup q.1 = some .local ∨ (scope.names.lookup q.1 = some .cell ∧ ((cellsFrom (t.heap.objs.size + 1) scope.names []).lookup q.1).isSome = true) := by
    rintro ⟨n, v⟩ hq
    exact (S.par n (List.of_mem_zip hq).1).elim Or.inl fun z => Or.inr ⟨z, PySem.W.cellsFrom_some _ _ _ (.inl z)⟩
  refine wpAny_newFunctionEnv_cells S.kind kinds ?_
  intro ev hev t1 x1
  subst hev
  refine ⟨free.keeps x1.toInCall.keep, codeAny_func ?_⟩
  obtain ⟨r, hrun, hst⟩ := hb cv A out t G xs Z W (room.deeper _) pr
  have I0 : Inv (cxOf CX P w K mg bs N qual scope fa cv A out t G W) [] (start N xs) G t1 := inv_start S room.r.hd env sizes rel x1
  refine wpAny_mono (hrun.run [] t1 (start N xs) G _ I0 hst) ?_ (fun e t' z => z)
  intro fl t' z
  have done : ∀ {τ : L2.St} {G' : Hp} {v : V} {u : Value}, Inv (cxOf CX P w K mg bs N qual scope fa cv A out t G W) [] τ G' t' → RelV v u → Z v G' → CE out P w G t Z u t' := by
    intro τ G' v u J rv q
    exact ⟨v, G', J.os, J.bare, J.base, J.hok, rv, q⟩
  match fl, z with
  | .ret u, ⟨v, τ, G', J, rv, q⟩ => exact done J rv q
  | .next, ⟨τ, G', J, q⟩ => exact done (v := .non) (u := .none) J rfl q
  | .brk, ⟨_, _, _, q⟩ => exact q.elim
  | .cont, ⟨_, _, _, q⟩ => exact q.elim
end
section
variable {X : Cx} {CX : CXT} {k : Nat} {f : Addr} {fd : FuncData} {ps : List Str} {sp : Sp} {W : XK} {x : Str} {p pos : Pos} {e : Expr} {es : List Expr} {t : TA}
theorem go_fn {pins : List (Addr × Obj)} {σ : L2.St} {G : Hp} {s : Shared} {Q : VK} {us : List Value} {xs : List V} (F : FnG X.prog X.w X.K X.mg X.base CX k f fd ps sp) (room : RoomG k X.A) (hb : Binds X.K fd ps []) (pass : Passes CX X W)
    (I : Inv X pins σ G s) (r : Vals xs us) (pr : sp xs G Q W) : wpAny (model X.prog X.w) X.A (call (.ref f) us) (EP X pins σ Q) X.xe s := by
  have n : (us ++ []).length = ps.length := by
    rw [List.append_nil, ← r.length]
    exact F.many _ _ _ _ pr
  have b := hb s us I.kIn n
  rw [List.append_nil] at b
  refine wpAny_call (codeAny_mono (F.go X.A X.stack s G ⟨us, []⟩ us xs Q W room I.env0 b r pr) ?_)
  intro res s' z
  match res, z with
  | .error e, z => exact pass pins σ G s e s' I z
  | .ok (.ret u), z => exact I.after z
  | .ok .next, z => exact z.elim
  | .ok .brk, z => exact z.elim
  | .ok .cont, z => exact z.elim
/-- the call of a def -/
theorem pe_callG (F : FnG X.prog X.w X.K X.mg X.base CX k f fd ps sp) (room : RoomG k X.A) (hg : Gl X x) (hm : X.mg x = some (.ref f)) (hk : PySem.W.keepIn X.K (.ref f) = true) (hb : Binds X.K fd ps []) (pass : Passes CX X W) (ha : PA X (e :: es) t)
    (hdb : (x == ("__debug__" : Str)) = false := by decide) (he : starEach (e :: es) X.env = (false, eval e X.env) :: starEach es X.env := by rfl) (hpl : (backTo pos (starEach es X.env)).any (·.1) = false := by rfl) :
    PE X (.Call (.Name x p) (e :: es) [] pos) (tCall sp [] W t) :=
  ⟨fun pins s σ G Q I h => wpAny_Call_Name_kw (ld_glob I hg hm (PySem.W.callWith_K (h₀ := X.base) I.ok.mod.kin hk (thn (ha.run pos pins s σ G _ I h) fun us s1 z => by
    obtain ⟨xs, G1, I1, r, q⟩ := z
    refine ⟨I1.kIn, go_fn F room hb pass I1 r ?_⟩
    rw [List.append_nil] at q
    exact q) he hpl) hdb)⟩
end
/-! ### the law's own call -/
theorem law_callG {P : Program} {w : World} {K : PySem.W.Frag} {mg mb : Str → Option Value} {CX : CXT} {k : Nat} {fa a : Addr} {fd : FuncData} {x : Str} {sp : Sp} {t : Shared} {us : List Value} {ns : List Int}
    (KI : K.In t.heap) (n1 : t.heap.Ns mainGlobals mg) (n2 : t.heap.Ns builtinsNs mb) (n3 : ∀ x : Str, x ≠ "__name__" → mb x = bootBuiltins x) (n4 : t.heap.NoLimit) (n5 : t.gens = #[])
    (ob : t.heap.get? a = some { cls := .type "list", data := .seq us.toArray }) (are : IntsAre us ns) (few : ns.length ≤ sizeLine) (room : RoomG k callerA)
    (F : ∀ bs : Heap, K.In bs → bs.Ns mainGlobals mg → FnG P w K mg bs CX k fa fd [x] sp) (bind : ∀ (s : Shared) (u : Value), BindsTo s fd ⟨[u], []⟩ [(x, u)])
    (pr : ∀ G : Hp, Only G → SqL K G a (ns.map V.int) → sp [.ref a] G (fun v _ => v = .bl true) fun _ _ _ => False)
    (noX : ∀ G e t', CX [] G t (fun _ _ _ => False) e t' → False) :
    codeAny (model P w) callerA (.call (.ref fa) ⟨[.ref a], []⟩) (fun r t' => r = .ok (.ret (.bool true)) ∧ OldK t.heap t'.heap ∧ t'.os = t.os ∧ AllBare t'.gens) t := by
  have rel := vals_ints are
  have main : ∀ G : Hp, Only G → SqL K G a (ns.map V.int) → HOk P w G t.heap → (∀ b, G b ≠ none → b = a) → (G a ≠ none → K.lookup a = none) →
      codeAny (model P w) callerA (.call (.ref fa) ⟨[.ref a], []⟩) (fun r t' => r = .ok (.ret (.bool true)) ∧ OldK t.heap t'.heap ∧ t'.os = t.os ∧ AllBare t'.gens) t := by
    intro G only sq ok isA notK
    have alone : ∀ {b : Addr}, b ≠ a → G b = none := fun {b} z => Classical.byContradiction fun y => z (isA b y)
    have hid : ∀ {b : Addr} {o : Obj}, t.heap.get? b = some o → G b = none → (hidT t.heap G).get? b = some o := fun z y => hidT_get z y
    have noD : ∀ {b : Addr} {o : Obj} {es : Array DictEntry} {ep : Nat}, t.heap.get? b = some o → o.data = .dict es ep → G b = none := by
      intro b o es ep z d
      by_cases hba : b = a
      · subst hba
        rw [ob] at z
        injection z with z
        subst z
        exact nomatch (show Data.seq us.toArray _ = Data.dict es ep from d)
      · exact alone hba
    have nss : ∀ {b : Addr} {m : Str → Option Value}, t.heap.Ns b m → (hidT t.heap G).Ns b m := by
      rintro b m ⟨o, es, ep, z, d, r⟩
      exact ⟨o, es, ep, hid z (noD z d), d, r⟩
    have KB : K.In (hidT t.heap G) := by
      intro b o z
      refine hid (KI b o z) ?_
      by_cases hba : b = a
      · subst hba
        by_cases y : G b = none
        · exact y
        · rw [notK y] at z
          cases z
      · exact alone hba
    obtain ⟨mc, l1, l2⟩ := n4
    have en : Env0 P w K mg (hidT t.heap G) callerA [] t G :=
      ⟨rfl, ⟨KB, nss n1, ⟨mb, nss n2, n3⟩, ⟨mc, nss l1, l2⟩⟩, fun b o z => of_hidT z, Nat.le_of_eq (hidT_size _ _), trivial, fun b z => absurd (show b ∈ ([] : List Addr) from z) List.not_mem_nil, ok, .of_eq n5⟩
    refine codeAny_mono ((F _ KB (nss n1)).go callerA [] t G ⟨[.ref a], []⟩ [.ref a] [.ref a] _ _ room en (bind t (.ref a)) (.cons rfl .nil) (pr G only sq)) ?_
    intro r t' z
    match r, z with
    | .error e, z => exact (noX G e t' z).elim
    | .ok .next, z => exact z.elim
    | .ok .brk, z => exact z.elim
    | .ok .cont, z => exact z.elim
    | .ok (.ret u), ⟨v, G', os, bare, un, ok', rv, q⟩ =>
      have q : v = .bl true := q
      subst q
      have rv : u = Value.bool true := rv
      subst rv
      refine ⟨rfl, OldK.of_keep ?_, os, bare⟩
      intro b o z
      by_cases y : G b = none
      · exact un.keep b o z y (fun m => absurd (show b ∈ ([] : List Addr) from m) List.not_mem_nil) (by simp)
      · rcases only b with y' | ⟨ob', xs, y'⟩
        · exact absurd y' y
        · obtain ⟨e2, _⟩ := ok' b _ (un.frzs b ob' _ y')
          obtain ⟨e1, _⟩ := ok b _ y'
          rw [z] at e1
          injection e1 with e1
          subst e1
          exact e2
  by_cases hk : ∃ o, K.lookup a = some o
  · obtain ⟨o, hk⟩ := hk
    have z := KI a o hk
    rw [ob] at z
    injection z with z
    subst z
    refine main (fun _ => none) (fun _ => Or.inl rfl) (Or.inr ⟨_, us.toArray, _, hk, rfl, rfl, rfl, ?_, by simpa using rel⟩) ?_ (fun b z => (z rfl).elim) (fun z => (z rfl).elim)
    · rw [List.size_toArray, are.length]
      exact few
    · intro b u z
      exact nomatch (show (none : Option HO) = some u from z)
  · have hk : K.lookup a = none := by
      cases z : K.lookup a with
      | none => rfl
      | some o => exact (hk ⟨o, z⟩).elim
    have at_ : ∀ {b : Addr} {u : HO}, (if b = a then some (HO.frz { cls := .type "list", data := .seq us.toArray } (.lst (ns.map V.int))) else none) = some u → b = a ∧ u = HO.frz { cls := .type "list", data := .seq us.toArray } (.lst (ns.map V.int)) := by
      intro b u z
      split at z
      · injection z with z
        exact ⟨by assumption, z.symm⟩
      · cases z
    refine main (fun b => if b = a then some (.frz { cls := .type "list", data := .seq us.toArray } (.lst (ns.map V.int))) else none) ?_ (Or.inl (Or.inr ⟨_, if_pos rfl⟩)) ?_ ?_ (fun _ => hk)
    · intro b
      by_cases hb : b = a
      · exact Or.inr ⟨_, _, if_pos hb⟩
      · exact Or.inl (if_neg hb)
    · intro b u z
      obtain ⟨rfl, rfl⟩ := at_ z
      exact ⟨ob, by rw [List.length_map]; exact few, us, _, rel, ob⟩
    · intro b z
      by_cases hb : b = a
      · exact hb
      · exact absurd (if_neg hb) z
/-- a law, over a head by facts -/
theorem walk_ofG {l : PySem.W.OpenLaw} {n k : Nat} {q : Program} {loose : List Str} {XP : (Str → Option Value) → Heap → Prop} {YP : World → Heap → Prop} {d : DefRec} {CX : CXT} {x : Str}
    (most : l.most = some n) (few : n ≤ sizeLine) (nodf : d.params.defaults = []) (room : RoomG k callerA)
    (F : ∀ (w : World) (mg : Str → Option Value) (fa : Addr) (h : Heap), YP w h → h.Ns mainGlobals mg → mg d.name = some (.ref fa) →
      ∃ (K : PySem.W.Frag) (fd : FuncData) (sp : Sp), K.In h ∧ (∀ (s : Shared) (u : Value), BindsTo s fd ⟨[u], []⟩ [(x, u)]) ∧
        (∀ (G : Hp) (a : Addr) (ns : List Int), ns.length ≤ n → Only G → SqL K G a (ns.map V.int) → sp [.ref a] G (fun v _ => v = .bl true) fun _ _ _ => False) ∧
        ∀ bs : Heap, K.In bs → bs.Ns mainGlobals mg → FnG l.prog w K mg bs CX k fa fd [x] sp)
    (noX : ∀ (G : Hp) (t : Shared) (e : Value) (t' : Shared), CX [] G t (fun _ _ _ => False) e t' → False) :
    PySem.W.WalkO q loose XP YP l.row.toRowW d [] (fun f us => PySem.call f us) := by
  refine Att.attach_call most nodf ?_
  intro w s0 s1 mg mb fa o pm cd doc a us ns G Y ho hd hcd hmg hob hi hl hg
  obtain ⟨K, fd, sp, KI, bind, pr, hF⟩ := F w mg fa _ Y G.T.g hmg
  exact law_callG KI G.T.g G.T.b G.T.builtins G.T.nolimit hg hob hi (Nat.le_trans hl few) room hF bind (fun H only sq => pr H a ns hl only sq) fun H e s' => noX H s1 e s'
end DL

/-! DL1: mirrors' monad, environments of slots, what is owned -/
namespace DL
open PySem PySem.Spec L2
/-- data, without places; scr: the script -/
inductive D where
  | none
  | bool (b : Bool)
  | int (i : Int)
  | str (s : Str)
  | list (xs : List D)
  | tuple (xs : List D)
  | dict (kvs : List (D × D))
  | scr (ns : List Int)
  | row (ds : List D)
  | key (ks : List Int)

/-! ### the mirrors' monad -/
structure Exn where
  cls : String
  fld : Option D
inductive R (α : Type) where
  | ok (a : α)
  | err (e : Exn)
  | bad
namespace R
def bind {α β : Type} : R α → (α → R β) → R β
  | .ok a, f => f a
  | .err e, _ => .err e
  | .bad, _ => .bad
def post {α : Type} (m : R α) (φ : α → Prop) (ψ : Exn → Prop) : Prop := match m with
  | .ok a => φ a
  | .err e => ψ e
  | .bad => False
theorem post_bind {α β : Type} {m : R α} {f : α → R β} {φ : β → Prop} {ψ : Exn → Prop} : (m.bind f).post φ ψ ↔ m.post (fun a => (f a).post φ ψ) ψ := by
  cases m <;> exact Iff.rfl
theorem post_mono {α : Type} {m : R α} {φ φ' : α → Prop} {ψ : Exn → Prop} (h : m.post φ ψ) (k : ∀ a, φ a → φ' a) : m.post φ' ψ := by
  cases m with
  | ok a => exact k a h
  | err e => exact h
  | bad => exact h
/-- go on where it holds -/
def guard (c : Prop) [Decidable c] : R Unit := if c then .ok () else .bad
theorem post_guard {c : Prop} [Decidable c] {φ : Unit → Prop} {ψ : Exn → Prop} (h : (guard c).post φ ψ) : c ∧ φ () := by
  unfold guard at h
  by_cases hc : c
  · rw [if_pos hc] at h
    exact ⟨hc, h⟩
  · rw [if_neg hc] at h
    exact h.elim
/-- what must be there -/
def some {α : Type} : Option α → R α
  | .some a => .ok a
  | .none => .bad
theorem post_some {α : Type} {o : Option α} {φ : α → Prop} {ψ : Exn → Prop} (h : (some o).post φ ψ) : ∃ a, o = .some a ∧ φ a := by
  cases o with
  | none => exact h.elim
  | some a => exact ⟨a, rfl, h⟩
end R

/-! ### heaps that grow -/
def Ex (H H' : Hp) : Prop := ∀ a o, H a = some o → H' a = some o
theorem Ex.refl (H : Hp) : Ex H H := fun _ _ h => h
theorem Ex.trans {H H1 H2 : Hp} (a : Ex H H1) (b : Ex H1 H2) : Ex H H2 := fun x o h => b x o (a x o h)
theorem Ex.new {H : Hp} {p : Addr} {o : HO} (h : H p = none) : Ex H (upd H p o) := fun a u e => by
  rw [upd_ne (ne_of_none e h)]
  exact e
theorem Ex.upd {H H' : Hp} (e : Ex H H') (p : Addr) (o : HO) : Ex (upd H p o) (upd H' p o) := fun a u h => by
  by_cases ha : a = p
  · subst ha
    rw [upd_same] at h ⊢
    exact h
  · rw [upd_ne ha] at h ⊢
    exact e a u h
theorem Ex.rd {H H' : Hp} {a : Addr} {u : HO} (e : Ex H H') (h : Rd H a u) : Rd H' a u := by
  rcases h with h | ⟨o, h⟩
  · exact Or.inl (e a _ h)
  · exact Or.inr ⟨o, e a _ h⟩
theorem Ex.l {K : PySem.W.Frag} {H H' : Hp} {a : Addr} {xs : List V} (e : Ex H H') (h : SqL K H a xs) : SqL K H' a xs := by
  rcases h with h | h
  · exact Or.inl (e.rd h)
  · exact Or.inr h
theorem Ex.t {K : PySem.W.Frag} {H H' : Hp} {a : Addr} {xs : List V} (e : Ex H H') (h : SqT K H a xs) : SqT K H' a xs := by
  rcases h with h | h
  · exact Or.inl (e.rd h)
  · exact Or.inr h
theorem Ex.back {H H' : Hp} {p : Addr} (e : Ex H H') (h : H' p = none) : H p = none := by
  cases h1 : H p with
  | none => rfl
  | some o =>
    rw [e p o h1] at h
    cases h

/-! ### data in the heap (as Dp, and dicts) -/
mutual
inductive Rp (K : PySem.W.Frag) (G : Hp) : V → D → Prop
  | non : Rp K G .non .none
  | bl (b : Bool) : Rp K G (.bl b) (.bool b)
  | int (i : Int) : Rp K G (.int i) (.int i)
  | str (x : Str) : Rp K G (.str x) (.str x)
  | lst {a : Addr} {xs : List V} {ds : List D} : Rd G a (.lst xs) → RpAll K G xs ds → Rp K G (.ref a) (.list ds)
  | tup {a : Addr} {xs : List V} {ds : List D} : SqT K G a xs → RpAll K G xs ds → Rp K G (.ref a) (.tuple ds)
  | scr {a : Addr} {ns : List Int} : SqL K G a (ns.map V.int) → Rp K G (.ref a) (.scr ns)
  | row {a : Addr} {ob : Obj} {xs : List V} {ds : List D} : G a = some (.frz ob (.tup xs)) → ob.dict = none → RpAll K G xs ds → Rp K G (.ref a) (.row ds)
  | key {a : Addr} {ks : List Int} : G a = some (.tup (ks.map V.int)) → Rp K G (.ref a) (.key ks)
  | dK {a : Addr} {kvs : List (Key × V)} {ds : List (D × D)} : G a = some (.dK kvs) → RpK K G kvs ds → Rp K G (.ref a) (.dict ds)
  | dT {a : Addr} {kvs : List (List Key × V)} {ds : List (D × D)} : G a = some (.dT kvs) → RpT K G kvs ds → Rp K G (.ref a) (.dict ds)
inductive RpAll (K : PySem.W.Frag) (G : Hp) : List V → List D → Prop
  | nil : RpAll K G [] []
  | cons {v : V} {vs : List V} {d : D} {ds : List D} : Rp K G v d → RpAll K G vs ds → RpAll K G (v :: vs) (d :: ds)
inductive RpK (K : PySem.W.Frag) (G : Hp) : List (Key × V) → List (D × D) → Prop
  | nil : RpK K G [] []
  | cons {k : Key} {v : V} {r : List (Key × V)} {d : D} {ds : List (D × D)} : Rp K G v d → RpK K G r ds → RpK K G ((k, v) :: r) ((match k with | .inl i => D.int i | .inr x => D.str x, d) :: ds)
inductive RpT (K : PySem.W.Frag) (G : Hp) : List (List Key × V) → List (D × D) → Prop
  | nil : RpT K G [] []
  | cons {k : List Key} {v : V} {r : List (List Key × V)} {d : D} {ds : List (D × D)} : Rp K G v d → RpT K G r ds → RpT K G ((k, v) :: r) ((D.tuple (k.map fun k => match k with | .inl i => D.int i | .inr x => D.str x), d) :: ds)
end
mutual
theorem Rp.ex {K : PySem.W.Frag} {G G' : Hp} (e : Ex G G') : ∀ {v : V} {d : D}, Rp K G v d → Rp K G' v d
  | _, _, .non => .non
  | _, _, .bl b => .bl b
  | _, _, .int i => .int i
  | _, _, .str x => .str x
  | _, _, .lst h r => .lst (e.rd h) (RpAll.ex e r)
  | _, _, .tup h r => .tup (e.t h) (RpAll.ex e r)
  | _, _, .scr h => .scr (e.l h)
  | _, _, .row h d r => .row (e _ _ h) d (RpAll.ex e r)
  | _, _, .key h => .key (e _ _ h)
  | _, _, .dK h r => .dK (e _ _ h) (RpK.ex e r)
  | _, _, .dT h r => .dT (e _ _ h) (RpT.ex e r)
theorem RpAll.ex {K : PySem.W.Frag} {G G' : Hp} (e : Ex G G') : ∀ {v : List V} {d : List D}, RpAll K G v d → RpAll K G' v d
  | _, _, .nil => .nil
  | _, _, .cons h r => .cons (Rp.ex e h) (RpAll.ex e r)
theorem RpK.ex {K : PySem.W.Frag} {G G' : Hp} (e : Ex G G') : ∀ {v : List (Key × V)} {d : List (D × D)}, RpK K G v d → RpK K G' v d
  | _, _, .nil => .nil
  | _, _, .cons h r => .cons (Rp.ex e h) (RpK.ex e r)
theorem RpT.ex {K : PySem.W.Frag} {G G' : Hp} (e : Ex G G') : ∀ {v : List (List Key × V)} {d : List (D × D)}, RpT K G v d → RpT K G' v d
  | _, _, .nil => .nil
  | _, _, .cons h r => .cons (Rp.ex e h) (RpT.ex e r)
end
section
variable {K : PySem.W.Frag} {G : Hp}
theorem Rp.int_inv {v : V} {i : Int} (h : Rp K G v (.int i)) : v = .int i := by
  cases h
  rfl
theorem Rp.bl_inv {v : V} {b : Bool} (h : Rp K G v (.bool b)) : v = .bl b := by
  cases h
  rfl
theorem Rp.str_inv {v : V} {b : Str} (h : Rp K G v (.str b)) : v = .str b := by
  cases h
  rfl
theorem Rp.non_inv {v : V} (h : Rp K G v .none) : v = .non := by
  cases h
  rfl
theorem Rp.lst_inv {v : V} {ds : List D} (h : Rp K G v (.list ds)) : ∃ a xs, v = .ref a ∧ Rd G a (.lst xs) ∧ RpAll K G xs ds := by
  cases h with
  | lst h r => exact ⟨_, _, rfl, h, r⟩
theorem Rp.tup_inv {v : V} {ds : List D} (h : Rp K G v (.tuple ds)) : ∃ a xs, v = .ref a ∧ SqT K G a xs ∧ RpAll K G xs ds := by
  cases h with
  | tup h r => exact ⟨_, _, rfl, h, r⟩
theorem RpAll.len : ∀ {vs : List V} {ds : List D}, RpAll K G vs ds → vs.length = ds.length
  | _, _, .nil => rfl
  | _, _, .cons _ r => by rw [List.length_cons, List.length_cons, RpAll.len r]
theorem RpAll.get : ∀ {vs : List V} {ds : List D} {i : Nat} {d : D}, RpAll K G vs ds → ds[i]? = some d → ∃ v, vs[i]? = some v ∧ Rp K G v d
  | _, _, _, _, .nil, e => by simp at e
  | _, _, 0, _, .cons h _, e => by
    simp at e
    subst e
    exact ⟨_, rfl, h⟩
  | _, _, i + 1, _, .cons _ r, e => by
    obtain ⟨v, h1, h2⟩ := RpAll.get (i := i) r (by simpa using e)
    exact ⟨v, by simpa using h1, h2⟩
theorem RpAll.getV : ∀ {vs : List V} {ds : List D} {i : Nat} {v : V}, RpAll K G vs ds → vs[i]? = some v → ∃ d, ds[i]? = some d ∧ Rp K G v d
  | _, _, _, _, .nil, e => by simp at e
  | _, _, 0, _, .cons h _, e => by
    simp at e
    subst e
    exact ⟨_, rfl, h⟩
  | _, _, i + 1, _, .cons _ r, e => by
    obtain ⟨v, h1, h2⟩ := RpAll.getV (i := i) r (by simpa using e)
    exact ⟨v, by simpa using h1, h2⟩
theorem RpAll.append : ∀ {vs ws : List V} {ds es : List D}, RpAll K G vs ds → RpAll K G ws es → RpAll K G (vs ++ ws) (ds ++ es)
  | _, _, _, _, .nil, s => s
  | _, _, _, _, .cons h r, s => .cons h (RpAll.append r s)
theorem RpAll.take : ∀ {vs : List V} {ds : List D} (n : Nat), RpAll K G vs ds → RpAll K G (vs.take n) (ds.take n)
  | _, _, 0, _ => by
    rw [List.take_zero, List.take_zero]
    exact .nil
  | _, _, _ + 1, .nil => .nil
  | _, _, n + 1, .cons h r => .cons h (RpAll.take n r)
theorem RpAll.drop : ∀ {vs : List V} {ds : List D} (n : Nat), RpAll K G vs ds → RpAll K G (vs.drop n) (ds.drop n)
  | _, _, 0, r => r
  | _, _, _ + 1, .nil => .nil
  | _, _, n + 1, .cons _ r => RpAll.drop n r
theorem RpAll.ints : ∀ {vs : List V} {ns : List Int}, RpAll K G vs (ns.map D.int) → vs = ns.map V.int
  | _, [], .nil => rfl
  | _, n :: ns, .cons h r => by
    rw [List.map_cons, ← RpAll.ints r, Rp.int_inv h]
theorem RpAll.of_ints : ∀ (ns : List Int), RpAll K G (ns.map V.int) (ns.map D.int)
  | [] => .nil
  | n :: ns => .cons (.int n) (RpAll.of_ints ns)
theorem RpAll.bools : ∀ {vs : List V} {ns : List Bool}, RpAll K G vs (ns.map D.bool) → vs = ns.map V.bl
  | _, [], .nil => rfl
  | _, n :: ns, .cons h r => by
    rw [List.map_cons, ← RpAll.bools r, Rp.bl_inv h]
end
/-! ### what is owned: a tree of lists, at places of their own -/
inductive OT where
  | dat (d : D)
  | lst (os : List OT)
  | dk (kvs : List (Key × D))
  | dt (kvs : List (List Key × D))
def keyD : Key → D
  | .inl i => .int i
  | .inr x => .str x
/-- the entries of a dict that is owned -/
inductive RpE {κ : Type} (K : PySem.W.Frag) (G : Hp) : List (κ × V) → List (κ × D) → Prop
  | nil : RpE K G [] []
  | cons {k : κ} {v : V} {d : D} {r : List (κ × V)} {ds : List (κ × D)} : Rp K G v d → RpE K G r ds → RpE K G ((k, v) :: r) ((k, d) :: ds)
theorem RpE.ex {κ : Type} {K : PySem.W.Frag} {G G' : Hp} (e : Ex G G') {kvs : List (κ × V)} {ds : List (κ × D)} (h : RpE K G kvs ds) : RpE K G' kvs ds := by
  induction h with
  | nil => exact .nil
  | cons h _ ih => exact .cons (h.ex e) ih
theorem RpE.k {K : PySem.W.Frag} {G : Hp} {kvs : List (Key × V)} {ds : List (Key × D)} (h : RpE K G kvs ds) : RpK K G kvs (ds.map fun p => (keyD p.1, p.2)) := by
  induction h with
  | nil => exact .nil
  | @cons k v d r ds h _ ih => cases k <;> exact .cons h ih
theorem RpE.t {K : PySem.W.Frag} {G : Hp} {kvs : List (List Key × V)} {ds : List (List Key × D)} (h : RpE K G kvs ds) : RpT K G kvs (ds.map fun p => (D.tuple (p.1.map keyD), p.2)) := by
  induction h with
  | nil => exact .nil
  | @cons k v d r ds h _ ih =>
    have e : k.map keyD = k.map fun k => match k with | .inl i => D.int i | .inr x => D.str x := List.map_congr_left fun x _ => by cases x <;> rfl
    rw [List.map_cons]
    show RpT K G _ ((D.tuple (k.map keyD), d) :: _)
    rw [e]
    exact .cons h ih
mutual
inductive Own (K : PySem.W.Frag) (G H : Hp) : V → OT → List Addr → Prop
  | dat {v : V} {d : D} : Rp K G v d → Own K G H v (.dat d) []
  | lst {a : Addr} {vs : List V} {os : List OT} {A : List Addr} : H a = some (.lst vs) → OwnAll K G H vs os A → Own K G H (.ref a) (.lst os) (a :: A)
  | dk {a : Addr} {kvs : List (Key × V)} {ds : List (Key × D)} : H a = some (.dK kvs) → RpE K G kvs ds → Own K G H (.ref a) (.dk ds) [a]
  | dt {a : Addr} {kvs : List (List Key × V)} {ds : List (List Key × D)} : H a = some (.dT kvs) → RpE K G kvs ds → Own K G H (.ref a) (.dt ds) [a]
inductive OwnAll (K : PySem.W.Frag) (G H : Hp) : List V → List OT → List Addr → Prop
  | nil : OwnAll K G H [] [] []
  | cons {v : V} {vs : List V} {o : OT} {os : List OT} {A A' : List Addr} : Own K G H v o A → OwnAll K G H vs os A' → OwnAll K G H (v :: vs) (o :: os) (A ++ A')
end
mutual
/-- what is owned stays where its places and the data do -/
theorem Own.ex {K : PySem.W.Frag} {G G' H H' : Hp} (e : Ex G G') : ∀ {v : V} {o : OT} {A : List Addr}, Own K G H v o A → (∀ a ∈ A, ∀ u, H a = some u → H' a = some u) → Own K G' H' v o A
  | _, _, _, .dat h, _ => .dat (h.ex e)
  | _, _, _, .lst h r, k => .lst (k _ (List.mem_cons_self) _ h) (OwnAll.ex e r fun a m => k a (List.mem_cons_of_mem _ m))
  | _, _, _, .dk h r, k => .dk (k _ (List.mem_cons_self) _ h) (r.ex e)
  | _, _, _, .dt h r, k => .dt (k _ (List.mem_cons_self) _ h) (r.ex e)
theorem OwnAll.ex {K : PySem.W.Frag} {G G' H H' : Hp} (e : Ex G G') : ∀ {v : List V} {o : List OT} {A : List Addr}, OwnAll K G H v o A → (∀ a ∈ A, ∀ u, H a = some u → H' a = some u) → OwnAll K G' H' v o A
  | _, _, _, .nil, _ => .nil
  | _, _, _, .cons h r, k => .cons (Own.ex e h fun a m => k a (List.mem_append_left _ m)) (OwnAll.ex e r fun a m => k a (List.mem_append_right _ m))
end
mutual
def OT.toD : OT → D
  | .dat d => d
  | .lst os => .list (OT.toDs os)
  | .dk kvs => .dict (kvs.map fun p => (keyD p.1, p.2))
  | .dt kvs => .dict (kvs.map fun p => (D.tuple (p.1.map keyD), p.2))
def OT.toDs : List OT → List D
  | [] => []
  | o :: os => o.toD :: OT.toDs os
end
mutual
/-- it stands in the heap -/
theorem Own.there {K : PySem.W.Frag} {G H : Hp} : ∀ {v : V} {o : OT} {A : List Addr}, Own K G H v o A → ∀ a ∈ A, ∃ u, H a = some u
  | _, _, _, .dat _, _, m => nomatch m
  | _, _, _, .lst h r, a, m => by
    rcases List.mem_cons.mp m with rfl | m
    · exact ⟨_, h⟩
    · exact OwnAll.there r a m
  | _, _, _, .dk h r, a, m => by
    rw [List.mem_singleton.mp m]
    exact ⟨_, h⟩
  | _, _, _, .dt h r, a, m => by
    rw [List.mem_singleton.mp m]
    exact ⟨_, h⟩
theorem OwnAll.there {K : PySem.W.Frag} {G H : Hp} : ∀ {v : List V} {o : List OT} {A : List Addr}, OwnAll K G H v o A → ∀ a ∈ A, ∃ u, H a = some u
  | _, _, _, .nil, _, m => nomatch m
  | _, _, _, .cons h r, a, m => by
    rcases List.mem_append.mp m with m | m
    · exact Own.there h a m
    · exact OwnAll.there r a m
end
mutual
/-- owned things, made data -/
theorem Own.rp {K : PySem.W.Frag} {G G' H : Hp} (e : Ex G G') : ∀ {v : V} {o : OT} {A : List Addr}, Own K G H v o A → (∀ a ∈ A, ∀ u, H a = some u → G' a = some u) → Rp K G' v o.toD
  | _, _, _, .dat h, _ => by
    rw [OT.toD]
    exact h.ex e
  | _, _, _, .lst h r, k => by
    rw [OT.toD]
    exact .lst (Or.inl (k _ (List.mem_cons_self) _ h)) (OwnAll.rp e r fun a m => k a (List.mem_cons_of_mem _ m))
  | _, _, _, .dk h r, k => by
    rw [OT.toD]
    exact .dK (k _ (List.mem_cons_self) _ h) (r.ex e).k
  | _, _, _, .dt h r, k => by
    rw [OT.toD]
    exact .dT (k _ (List.mem_cons_self) _ h) (r.ex e).t
theorem OwnAll.rp {K : PySem.W.Frag} {G G' H : Hp} (e : Ex G G') : ∀ {v : List V} {o : List OT} {A : List Addr}, OwnAll K G H v o A → (∀ a ∈ A, ∀ u, H a = some u → G' a = some u) → RpAll K G' v (OT.toDs o)
  | _, _, _, .nil, _ => by
    rw [OT.toDs]
    exact .nil
  | _, _, _, .cons h r, k => by
    rw [OT.toDs]
    exact .cons (Own.rp e h fun a m => k a (List.mem_append_left _ m)) (OwnAll.rp e r fun a m => k a (List.mem_append_right _ m))
end
end DL

/-! DL2: environments -/
namespace DL
open PySem PySem.Spec L2

inductive Slot where
  | non
  | val (d : D)
  | own (l : Nat) (o : OT)
  | ali (j : Nat) (path : List Nat)

structure Base where
  H0 : Hp
  G0 : Hp
  Mo : Nat → List Addr
  m0 : Mo 0 = []
  pv : Nat → Option V
  rs : Exn → Prop

structure Anc (B : Base) (G H : Hp) : Prop where
  keep : ∀ a o, (∀ l, a ∉ B.Mo l) → B.H0 a = some o → H a = some o
  there : ∀ a l, a ∈ B.Mo l → H a ≠ none
  gsub : Ex B.G0 G
  gnew : ∀ a, B.H0 a ≠ none → B.G0 a = none → G a = none
  sub : Ex G H
theorem Anc.fresh {B : Base} {G H : Hp} (h : Anc B G H) {p : Addr} (hp : H p = none) : B.H0 p = none := by
  cases e : B.H0 p with
  | none => rfl
  | some o =>
    by_cases hm : ∃ l, p ∈ B.Mo l
    · obtain ⟨l, hm⟩ := hm
      exact absurd hp (h.there p l hm)
    · rw [h.keep p o (fun l m => hm ⟨l, m⟩) e] at hp
      cases hp
theorem Anc.new {B : Base} {G H : Hp} (h : Anc B G H) {p : Addr} (hp : H p = none) (o : HO) : Anc B (upd G p o) (upd H p o) := by
  have h0 := h.fresh hp
  refine ⟨fun a u hm e => ?_, fun a l hm => ?_, h.gsub.trans (Ex.new (h.sub.back hp)), fun a e1 e2 => ?_, h.sub.upd p o⟩
  · rw [upd_ne (ne_of_none (h.keep a u hm e) hp)]
    exact h.keep a u hm e
  · by_cases ha : a = p
    · subst ha
      rw [upd_same]
      exact fun z => nomatch z
    · rw [upd_ne ha]
      exact h.there a l hm
  · have ha : a ≠ p := fun z => by
      subst z
      exact e1 h0
    rw [upd_ne ha]
    exact h.gnew a e1 e2
/-- a change of what is nobody's data: the caller's own argument, or new here -/
theorem Anc.put {B : Base} {G H : Hp} (h : Anc B G H) {p : Addr} (hG : G p = none) (hp : (∃ l, p ∈ B.Mo l) ∨ B.H0 p = none) (o : HO) : Anc B G (upd H p o) := by
  refine ⟨fun a u hm e => ?_, fun a l hm => ?_, h.gsub, h.gnew, fun a u e => ?_⟩
  · have ha : a ≠ p := fun z => by
      subst z
      rcases hp with ⟨l, hp⟩ | hp
      · exact hm l hp
      · rw [hp] at e
        cases e
    rw [upd_ne ha]
    exact h.keep a u hm e
  · by_cases ha : a = p
    · subst ha
      rw [upd_same]
      exact fun z => nomatch z
    · rw [upd_ne ha]
      exact h.there a l hm
  · rw [upd_ne (ne_of_none e hG)]
    exact h.sub a u e
/-- what is new here is made data -/
theorem Anc.frz {B : Base} {G H : Hp} (h : Anc B G H) {A : List Addr} (hA : ∀ a ∈ A, G a = none ∧ B.H0 a = none) : Anc B (fun a => if a ∈ A then H a else G a) H := by
  refine ⟨h.keep, h.there, fun a u e => ?_, fun a e1 e2 => ?_, fun a u e => ?_⟩
  · by_cases ha : a ∈ A
    · have z := (hA a ha).1.symm.trans (h.gsub a u e)
      cases z
    · show (if a ∈ A then H a else G a) = _
      rw [if_neg ha]
      exact h.gsub a u e
  · show (if a ∈ A then H a else G a) = _
    by_cases ha : a ∈ A
    · exact absurd (hA a ha).2 e1
    · rw [if_neg ha]
      exact h.gnew a e1 e2
  · have e : (if a ∈ A then H a else G a) = some u := e
    by_cases ha : a ∈ A
    · rw [if_pos ha] at e
      exact e
    · rw [if_neg ha] at e
      exact h.sub a u e

/-- a value and its slot, with the places it owns -/
inductive Cell (K : PySem.W.Frag) (B : Base) (G H : Hp) : Option V → Slot → List Addr → Prop
  | non {x : Option V} : Cell K B G H x .non []
  | val {v : V} {d : D} : Rp K G v d → Cell K B G H (some v) (.val d) []
  | own {v : V} {l : Nat} {o : OT} {A : List Addr} : Own K G H v o A → (∀ a ∈ A, a ∈ B.Mo l ∨ B.H0 a = none) → (l = 0 ∨ B.pv l = some v) → Cell K B G H (some v) (.own l o) A
  | ali {x : Option V} {j : Nat} {p : List Nat} : Cell K B G H x (.ali j p) []
inductive Cells (K : PySem.W.Frag) (B : Base) (G H : Hp) : List (Option V) → List Slot → List Addr → Prop
  | nil : Cells K B G H [] [] []
  | cons {x : Option V} {s : Slot} {A : List Addr} {σ : St} {ρ : List Slot} {A' : List Addr} : Cell K B G H x s A → Cells K B G H σ ρ A' → Cells K B G H (x :: σ) (s :: ρ) (A ++ A')
section
variable {K : PySem.W.Frag} {B : Base} {G G' H H' : Hp}
theorem Cell.ex {x : Option V} {s : Slot} {A : List Addr} (h : Cell K B G H x s A) (e : Ex G G') (k : ∀ a ∈ A, ∀ u, H a = some u → H' a = some u) : Cell K B G' H' x s A := by
  cases h with
  | non => exact .non
  | val h => exact .val (h.ex e)
  | own h l z => exact .own (h.ex e k) l z
  | ali => exact .ali
theorem Cells.ex {σ : St} {ρ : List Slot} {A : List Addr} (h : Cells K B G H σ ρ A) (e : Ex G G') (k : ∀ a ∈ A, ∀ u, H a = some u → H' a = some u) : Cells K B G' H' σ ρ A := by
  induction h with
  | nil => exact .nil
  | cons c r ih => exact .cons (c.ex e fun a m => k a (List.mem_append_left _ m)) (ih fun a m => k a (List.mem_append_right _ m))
theorem Cell.there {x : Option V} {s : Slot} {A : List Addr} (h : Cell K B G H x s A) : ∀ a ∈ A, ∃ u, H a = some u := by
  cases h with
  | non => exact fun _ m => nomatch m
  | val h => exact fun _ m => nomatch m
  | own h l _ => exact h.there
  | ali => exact fun _ m => nomatch m
theorem Cells.there {σ : St} {ρ : List Slot} {A : List Addr} (h : Cells K B G H σ ρ A) : ∀ a ∈ A, ∃ u, H a = some u := by
  induction h with
  | nil => exact fun _ m => nomatch m
  | cons c r ih =>
    intro a m
    rcases List.mem_append.mp m with m | m
    · exact c.there a m
    · exact ih a m
theorem Cells.len {σ : St} {ρ : List Slot} {A : List Addr} (h : Cells K B G H σ ρ A) : σ.length = ρ.length := by
  induction h with
  | nil => rfl
  | cons c r ih => rw [List.length_cons, List.length_cons, ih]
/-- one cell of them, the rest apart -/
theorem Cells.get {σ : St} {ρ : List Slot} {A : List Addr} (h : Cells K B G H σ ρ A) : ∀ {i : Nat} {s : Slot}, ρ[i]? = some s → ∃ x A1, σ[i]? = some x ∧ Cell K B G H x s A1 ∧ A1.Sublist A := by
  induction h with
  | nil => exact fun e => nomatch e
  | cons c r ih =>
    intro i s e
    cases i with
    | zero =>
      simp at e
      subst e
      exact ⟨_, _, rfl, c, List.sublist_append_left _ _⟩
    | succ i =>
      obtain ⟨x, A1, h1, h2, h3⟩ := ih (i := i) (s := s) (by simpa using e)
      exact ⟨x, A1, by simpa using h1, h2, h3.trans (List.sublist_append_right _ _)⟩
/-- a cell put in the place of one of them -/
theorem Cells.set {σ : St} {ρ : List Slot} {A : List Addr} (h : Cells K B G H σ ρ A) {x : Option V} {s : Slot} {A1 : List Addr} (c : Cell K B G H x s A1) : ∀ {i : Nat}, i < ρ.length → ∃ A' C, Cells K B G H (σ.set i x) (ρ.set i s) A' ∧ A'.Perm (A1 ++ C) ∧ C.Sublist A := by
  induction h with
  | nil => exact fun e => absurd e (Nat.not_lt_zero _)
  | @cons x0 s0 A0 σ ρ A' c0 r ih =>
    intro i hi
    cases i with
    | zero => exact ⟨A1 ++ A', A', .cons c r, List.Perm.refl _, List.sublist_append_right _ _⟩
    | succ i =>
      obtain ⟨A2, C, h1, h2, h3⟩ := ih (i := i) (by simpa using hi)
      refine ⟨A0 ++ A2, A0 ++ C, .cons c0 h1, ?_, h3.append_left _⟩
      have e1 : (A0 ++ A2).Perm (A0 ++ (A1 ++ C)) := h2.append_left _
      have e2 : (A0 ++ (A1 ++ C)).Perm (A1 ++ (A0 ++ C)) := by
        rw [← List.append_assoc, ← List.append_assoc]
        exact List.perm_append_comm.append_right C
      exact e1.trans e2
/-- two cells: apart -/
theorem Cells.swap2 {σ : St} {ρ : List Slot} {A : List Addr} {x y : Option V} {s t : Slot} (h : Cells K B G H (x :: y :: σ) (s :: t :: ρ) A) : ∃ A', Cells K B G H (y :: x :: σ) (t :: s :: ρ) A' ∧ A'.Perm A := by
  cases h with
  | cons c r =>
    cases r with
    | cons d r =>
      refine ⟨_, .cons d (.cons c r), ?_⟩
      rw [← List.append_assoc, ← List.append_assoc]
      exact List.perm_append_comm.append_right _
end
/-- slots forgotten: each is as it was or nothing is known -/
def forgot : List Slot → List Bool → List Slot
  | [], _ => []
  | s :: ρ, [] => s :: ρ
  | s :: ρ, b :: bs => (if b then s else .non) :: forgot ρ bs
theorem Cells.forgot {K : PySem.W.Frag} {B : Base} {G H : Hp} : ∀ {σ : St} {ρ : List Slot} {A : List Addr} (bs : List Bool), Cells K B G H σ ρ A → ∃ A', Cells K B G H σ (forgot ρ bs) A' ∧ A'.Sublist A
  | _, _, _, _, .nil => ⟨[], .nil, List.Sublist.refl _⟩
  | _, _, _, [], .cons c r => ⟨_, .cons c r, List.Sublist.refl _⟩
  | _, _, _, true :: bs, .cons c r => by
    obtain ⟨A', h1, h2⟩ := Cells.forgot bs r
    exact ⟨_, .cons c h1, h2.append_left _⟩
  | _, _, _, false :: bs, .cons c r => by
    obtain ⟨A', h1, h2⟩ := Cells.forgot bs r
    exact ⟨_, .cons (s := .non) .non h1, h2.trans (List.sublist_append_right _ _)⟩
theorem forgot_len : ∀ (ρ : List Slot) (bs : List Bool), (forgot ρ bs).length = ρ.length
  | [], _ => rfl
  | _ :: _, [] => rfl
  | _ :: ρ, b :: bs => by rw [forgot, List.length_cons, List.length_cons, forgot_len ρ bs]
theorem forgot_get : ∀ (ρ : List Slot) (bs : List Bool) (i : Nat) (s : Slot), (forgot ρ bs)[i]? = some s → s = .non ∨ ρ[i]? = some s
  | [], _, _, _, e => nomatch e
  | _ :: _, [], _, _, e => .inr e
  | s0 :: ρ, b :: bs, 0, s, e => by
    cases b with
    | true => exact .inr e
    | false =>
      simp [forgot] at e
      exact .inl e.symm
  | s0 :: ρ, b :: bs, i + 1, s, e => by
    have e : (forgot ρ bs)[i]? = some s := by simpa [forgot] using e
    rcases forgot_get ρ bs i s e with h | h
    · exact .inl h
    · exact .inr (by simpa using h)

/-- going down from a value along places of lists -/
def At (H : Hp) : V → List Nat → V → Prop
  | v, [], w => v = w
  | v, k :: ks, w => ∃ a vs u, v = .ref a ∧ H a = some (.lst vs) ∧ vs[k]? = some u ∧ At H u ks w
theorem At.ex {H H' : Hp} (e : Ex H H') : ∀ {p : List Nat} {v w : V}, At H v p w → At H' v p w
  | [], _, _, h => h
  | _ :: _, _, _, ⟨a, vs, u, h1, h2, h3, h4⟩ => ⟨a, vs, u, h1, e _ _ h2, h3, At.ex e h4⟩

structure En (K : PySem.W.Frag) (B : Base) (G H : Hp) (σ : St) (ρ : List Slot) (ex : List (V × Slot)) : Prop where
  anc : Anc B G H
  own : ∃ A, Cells K B G H (ex.map (fun p => some p.1) ++ σ) (ex.map (·.2) ++ ρ) A ∧ A.Nodup ∧ ∀ a ∈ A, G a = none
  len : σ.length = ρ.length
  ali : ∀ (i j : Nat) (p : List Nat), ρ[i]? = some (Slot.ali j p) → ∃ v w, σ[i]? = some (some v) ∧ σ[j]? = some (some w) ∧ At H w p v
def noAli (j : Nat) : List Slot → Bool
  | [] => true
  | .ali i _ :: r => i != j && noAli j r
  | _ :: r => noAli j r
theorem noAli_get {j : Nat} : ∀ {ρ : List Slot}, noAli j ρ = true → ∀ {i k : Nat} {p : List Nat}, ρ[i]? = some (.ali k p) → k ≠ j
  | [], _, _, _, _, e => nomatch e
  | s :: ρ, h, 0, k, p, e => by
    simp at e
    subst e
    simp [noAli] at h
    exact h.1
  | s :: ρ, h, i + 1, k, p, e => by
    have h' : noAli j ρ = true := by
      cases s <;> simp [noAli] at h
      · exact h
      · exact h
      · exact h
      · exact h.2
    exact noAli_get h' (i := i) (by simpa using e)
section
variable {K : PySem.W.Frag} {B : Base} {G G' H H' : Hp} {σ : St} {ρ : List Slot} {ex : List (V × Slot)}
theorem En.fresh (E : En K B G H σ ρ ex) {p : Addr} (hp : H p = none) : B.H0 p = none := E.anc.fresh hp
theorem En.sub (E : En K B G H σ ρ ex) : Ex G H := E.anc.sub
theorem En.get (E : En K B G H σ ρ ex) {i : Nat} {d : D} (h : ρ[i]? = some (.val d)) : ∃ v, σ[i]? = some (some v) ∧ Rp K G v d := by
  obtain ⟨A, c, _, _⟩ := E.own
  obtain ⟨x, A1, h1, h2, _⟩ := c.get (i := ex.length + i) (s := .val d) (by
    rw [List.getElem?_append_right (by simp), List.length_map]
    simpa using h)
  rw [List.getElem?_append_right (by simp), List.length_map] at h1
  cases h2 with
  | val r => exact ⟨_, by simpa using h1, r⟩
/-- the top temp -/
theorem En.top {v : V} {d : D} (E : En K B G H σ ρ ((v, .val d) :: ex)) : Rp K G v d := by
  obtain ⟨A, c, _, _⟩ := E.own
  cases c with
  | cons c r =>
    cases c with
    | val h => exact h
theorem En.pop {x : V × Slot} (E : En K B G H σ ρ (x :: ex)) : En K B G H σ ρ ex := by
  obtain ⟨A, c, n, f⟩ := E.own
  cases c with
  | cons c r => exact ⟨E.anc, ⟨_, r, (List.nodup_append.mp n).2.1, fun a m => f a (List.mem_append_right _ m)⟩, E.len, E.ali⟩
theorem En.push {v : V} {d : D} (E : En K B G H σ ρ ex) (h : Rp K G v d) : En K B G H σ ρ ((v, .val d) :: ex) := by
  obtain ⟨A, c, n, f⟩ := E.own
  exact ⟨E.anc, ⟨[] ++ A, .cons (.val h) c, n, f⟩, E.len, E.ali⟩
/-- temps of data may come and go -/
theorem En.swap {x y : V × Slot} (E : En K B G H σ ρ (x :: y :: ex)) : En K B G H σ ρ (y :: x :: ex) := by
  obtain ⟨A, c, n, f⟩ := E.own
  obtain ⟨A', c', p⟩ := c.swap2
  exact ⟨E.anc, ⟨A', c', p.nodup_iff.mpr n, fun a m => f a (p.mem_iff.mp m)⟩, E.len, E.ali⟩
/-- a new thing that never changes -/
theorem En.new (E : En K B G H σ ρ ex) {p : Addr} (hp : H p = none) (o : HO) : En K B (upd G p o) (upd H p o) σ ρ ex := by
  obtain ⟨A, c, n, f⟩ := E.own
  have hG := E.sub.back hp
  refine ⟨E.anc.new hp o, ⟨A, c.ex (Ex.new hG) fun a m u e => Ex.new hp a u e, n, fun a m => ?_⟩, E.len, fun i j q e => ?_⟩
  · obtain ⟨u, hu⟩ := c.there a m
    rw [upd_ne (ne_of_none hu hp)]
    exact f a m
  · obtain ⟨v, w, h1, h2, h3⟩ := E.ali i j q e
    exact ⟨v, w, h1, h2, h3.ex (Ex.new hp)⟩
/-- a new list of data, owned -/
theorem En.newL (E : En K B G H σ ρ ex) {p : Addr} (hp : H p = none) {vs : List V} {ds : List D} (r : RpAll K G vs ds) : En K B G (upd H p (.lst vs)) σ ρ ((.ref p, .own 0 (.lst (ds.map OT.dat))) :: ex) := by
  obtain ⟨A, c, n, f⟩ := E.own
  have hG := E.sub.back hp
  have h0 := E.fresh hp
  have ra : ∀ {vs : List V} {ds : List D}, RpAll K G vs ds → OwnAll K G (upd H p (.lst vs)) vs (ds.map OT.dat) [] := fun {vs ds} r => by
    have gen : ∀ (H' : Hp) {vs : List V} {ds : List D}, RpAll K G vs ds → OwnAll K G H' vs (ds.map OT.dat) [] := fun H' {vs ds} r => by
      induction ds generalizing vs with
      | nil =>
        cases r
        exact .nil
      | cons d ds ih =>
        cases r with
        | cons h r => exact .cons (A := []) (.dat h) (ih r)
    exact gen _ r
  have hn : p ∉ A := fun m => by
    obtain ⟨u, hu⟩ := c.there p m
    rw [hu] at hp
    cases hp
  refine ⟨E.anc.put hG (.inr h0) _, ⟨p :: ([] ++ A), .cons (A := [p]) (.own (.lst upd_same (ra r)) (fun a m => by
      rw [List.mem_singleton.mp m]
      exact .inr h0) (.inl rfl)) (c.ex (Ex.refl G) fun a m u e => by
      rw [upd_ne (ne_of_none e hp)]
      exact e), ?_, fun a m => ?_⟩, E.len, fun i j q e => ?_⟩
  · exact List.nodup_cons.mpr ⟨hn, n⟩
  · rcases List.mem_cons.mp m with rfl | m
    · exact hG
    · exact f a m
  · obtain ⟨v, w, h1, h2, h3⟩ := E.ali i j q e
    exact ⟨v, w, h1, h2, h3.ex (Ex.new hp)⟩
/-- what is owned here becomes data -/
theorem En.frz {v : V} {o : OT} (E : En K B G H σ ρ ((v, .own 0 o) :: ex)) : ∃ G', Ex G G' ∧ En K B G' H σ ρ ((v, .val o.toD) :: ex) := by
  obtain ⟨A, c, n, f⟩ := E.own
  cases c with
  | @cons _ _ A1 _ _ A2 c r =>
    cases c with
    | own h l _ =>
      have n1 := List.nodup_append.mp n
      have hA : ∀ a ∈ A1, G a = none ∧ B.H0 a = none := fun a m => ⟨f a (List.mem_append_left _ m), (l a m).resolve_left (by rw [B.m0]; exact fun z => nomatch z)⟩
      have eG : Ex G fun a => if a ∈ A1 then H a else G a := fun a u e => by
        show (if a ∈ A1 then H a else G a) = _
        by_cases ha : a ∈ A1
        · rw [(hA a ha).1] at e
          cases e
        · rw [if_neg ha]
          exact e
      refine ⟨_, eG, E.anc.frz hA, ⟨[] ++ A2, .cons (.val (h.rp eG fun a m u e => by
          show (if a ∈ A1 then H a else G a) = _
          rw [if_pos m]
          exact e)) (r.ex eG fun _ _ _ e => e), n1.2.1, fun a m => ?_⟩, E.len, E.ali⟩
      have ha : a ∉ A1 := fun z => n1.2.2 a z a m rfl
      show (if a ∈ A1 then H a else G a) = _
      rw [if_neg ha]
      exact f a (List.mem_append_right _ m)
/-- the top temp goes into slot i -/
theorem En.set {v : V} {s : Slot} (E : En K B G H σ ρ [(v, s)]) {i : Nat} (hi : i < ρ.length) (hs : ∀ j p, s ≠ .ali j p) (ha : noAli i ρ = true) : En K B G H (σ.set i (some v)) (ρ.set i s) [] := by
  obtain ⟨A, c, n, f⟩ := E.own
  cases c with
  | @cons _ _ A1 _ _ A2 c r =>
    obtain ⟨A', C, h1, h2, h3⟩ := Cells.set r c hi
    have sub : (A1 ++ C).Sublist (A1 ++ A2) := h3.append_left A1
    refine ⟨E.anc, ⟨A', h1, h2.nodup_iff.mpr (sub.nodup n), fun a m => f a (sub.subset (h2.mem_iff.mp m))⟩, by rw [List.length_set, List.length_set]; exact E.len, fun k j p e => ?_⟩
    by_cases hk : i = k
    · subst hk
      rw [List.getElem?_set_self hi] at e
      cases e
      exact absurd rfl (hs j p)
    · rw [List.getElem?_set_ne hk] at e
      obtain ⟨v', w, q1, q2, q3⟩ := E.ali k j p e
      have hj := noAli_get ha e
      exact ⟨v', w, by rw [List.getElem?_set_ne hk]; exact q1, by rw [List.getElem?_set_ne (Ne.symm hj)]; exact q2, q3⟩
theorem En.forgot (E : En K B G H σ ρ []) (bs : List Bool) : En K B G H σ (forgot ρ bs) [] := by
  obtain ⟨A, c, n, f⟩ := E.own
  obtain ⟨A', h1, h2⟩ := Cells.forgot bs c
  refine ⟨E.anc, ⟨A', h1, h2.nodup n, fun a m => f a (h2.subset m)⟩, by rw [forgot_len]; exact E.len, fun i j p e => ?_⟩
  rcases forgot_get ρ bs i _ e with z | z
  · cases z
  · exact E.ali i j p z
end

/-! ### cells taken out and put back -/
section
variable {K : PySem.W.Frag} {B : Base} {G G' H H' : Hp}
theorem Cells.take1 {σ : L2.St} {ρ : List Slot} {A : List Addr} (h : Cells K B G H σ ρ A) : ∀ {i : Nat} {l : Nat} {o : OT}, ρ[i]? = some (.own l o) →
    ∃ v A1 A2, σ[i]? = some (some v) ∧ Own K G H v o A1 ∧ ((∀ a ∈ A1, a ∈ B.Mo l ∨ B.H0 a = none) ∧ (l = 0 ∨ B.pv l = some v)) ∧ Cells K B G H σ (ρ.set i .non) A2 ∧ A.Perm (A1 ++ A2) := by
  induction h with
  | nil => exact fun e => nomatch e
  | @cons x0 s0 A0 σ ρ A' c0 r ih =>
    intro i l o e
    cases i with
    | zero =>
      simp at e
      subst e
      cases c0 with
      | own hO hl hv => exact ⟨_, A0, [] ++ A', rfl, hO, ⟨hl, hv⟩, .cons (.non) r, List.Perm.refl _⟩
    | succ i =>
      obtain ⟨v, A1, A2, h1, h2, h3, h4, h5⟩ := ih (i := i) (l := l) (o := o) (by simpa using e)
      refine ⟨v, A1, A0 ++ A2, by simpa using h1, h2, h3, .cons c0 h4, ?_⟩
      have e1 : (A0 ++ A').Perm (A0 ++ (A1 ++ A2)) := h5.append_left _
      have e2 : (A0 ++ (A1 ++ A2)).Perm (A1 ++ (A0 ++ A2)) := by
        rw [← List.append_assoc, ← List.append_assoc]
        exact List.perm_append_comm.append_right A2
      exact e1.trans e2
theorem Cells.put1 {σ : L2.St} {ρ : List Slot} {A : List Addr} (h : Cells K B G H σ ρ A) : ∀ {i : Nat} {l : Nat} {o : OT} {v : V} {A1 : List Addr}, ρ[i]? = some .non → σ[i]? = some (some v) → Own K G H v o A1 → ((∀ a ∈ A1, a ∈ B.Mo l ∨ B.H0 a = none) ∧ (l = 0 ∨ B.pv l = some v)) →
    ∃ A2, Cells K B G H σ (ρ.set i (.own l o)) A2 ∧ A2.Perm (A1 ++ A) := by
  induction h with
  | nil => exact fun e => nomatch e
  | @cons x0 s0 A0 σ ρ A' c0 r ih =>
    intro i l o v A1 e e2 hO hl
    cases i with
    | zero =>
      simp at e
      subst e
      simp at e2
      subst e2
      cases c0
      exact ⟨A1 ++ A', .cons (.own hO hl.1 hl.2) r, by
        rw [List.nil_append]⟩
    | succ i =>
      obtain ⟨A2, h4, h5⟩ := ih (i := i) (l := l) (by simpa using e) (by simpa using e2) hO hl
      refine ⟨A0 ++ A2, .cons c0 h4, ?_⟩
      have e1 : (A0 ++ A2).Perm (A0 ++ (A1 ++ A')) := h5.append_left _
      have e2 : (A0 ++ (A1 ++ A')).Perm (A1 ++ (A0 ++ A')) := by
        rw [← List.append_assoc, ← List.append_assoc]
        exact List.perm_append_comm.append_right A'
      exact e1.trans e2
end
end DL

/-! DL3: the judgements; expressions -/
namespace DL
open PySem PySem.Spec L2

section
variable {X : Cx} {B : Base}
theorem PE_imp {e : Expr} {t t' : TE} (h : PE X e t) (k : ∀ σ H Q, t' σ H Q → t σ H Q) : PE X e t' := ⟨fun pins s σ H Q I q => h.run pins s σ H Q I (k σ H Q q)⟩
theorem PT_imp {e : Expr} {t t' : TT} (h : PT X e t) (k : ∀ σ H Q, t' σ H Q → t σ H Q) : PT X e t' := ⟨fun pins s σ H Q I q => h.run pins s σ H Q I (k σ H Q q)⟩
theorem PW_imp {e : Expr} {t t' : TT} (h : PW X e t) (k : ∀ σ H Q, t' σ H Q → t σ H Q) : PW X e t' := ⟨fun wh pins s σ H Q I q => h.run wh pins s σ H Q I (k σ H Q q)⟩
theorem PA_imp {e : List Expr} {t t' : TA} (h : PA X e t) (k : ∀ σ H Q, t' σ H Q → t σ H Q) : PA X e t' := ⟨fun pos pins s σ H Q I q => h.run pos pins s σ H Q I (k σ H Q q)⟩
theorem PS_imp {e : Stmt} {t t' : TS} (h : PS X e t) (k : ∀ D σ H, t' D σ H → t D σ H) : PS X e t' := ⟨fun pins s σ H D I q => h.run pins s σ H D I (k D σ H q)⟩
theorem PSs_imp {e : List Stmt} {t t' : TS} (h : PSs X e t) (k : ∀ D σ H, t' D σ H → t D σ H) : PSs X e t' := ⟨fun pins s σ H D I q => h.run pins s σ H D I (k D σ H q)⟩
end

/-- an expression: its mirror, the slot of its value, the slots behind it -/
def tJ (K : PySem.W.Frag) (B : Base) (ρ : List Slot) {β : Type} (m : R β) (sl : β → Slot) (ρ' : β → List Slot) : TE := fun σ H Q =>
  ∃ G, En K B G H σ ρ [] ∧ m.post (fun b => ∀ v G' H', Ex G G' → En K B G' H' σ (ρ' b) [(v, sl b)] → Q v H') B.rs
def JE (X : Cx) (B : Base) (ρ : List Slot) (e : Expr) {β : Type} (m : R β) (sl : β → Slot) (ρ' : β → List Slot) : Prop := PE X e (tJ X.K B ρ m sl ρ')
/-- one that changes nothing, fails never, and gives data -/
abbrev JP (X : Cx) (B : Base) (ρ : List Slot) (e : Expr) (d : D) : Prop := JE X B ρ e (.ok ()) (fun _ => .val d) (fun _ => ρ)
def tJT (K : PySem.W.Frag) (B : Base) (ρ : List Slot) {β : Type} (m : R β) (bn : β → Bool) (ρ' : β → List Slot) : TT := fun σ H Q =>
  ∃ G, En K B G H σ ρ [] ∧ m.post (fun b => ∀ G' H', Ex G G' → En K B G' H' σ (ρ' b) [] → Q (bn b) H') B.rs
def JT (X : Cx) (B : Base) (ρ : List Slot) (e : Expr) {β : Type} (m : R β) (bn : β → Bool) (ρ' : β → List Slot) : Prop := PT X e (tJT X.K B ρ m bn ρ')
def JW (X : Cx) (B : Base) (ρ : List Slot) (e : Expr) {β : Type} (m : R β) (bn : β → Bool) (ρ' : β → List Slot) : Prop := PW X e (tJT X.K B ρ m bn ρ')
abbrev TP0 (X : Cx) (B : Base) (ρ : List Slot) (e : Expr) (b : Bool) : Prop := JT X B ρ e (.ok ()) (fun _ => b) (fun _ => ρ)
/-- arguments: data, or an owned slot -/
inductive Ar where
  | val (d : D)
  | slot (i : Nat)
inductive ArOk (K : PySem.W.Frag) (G : Hp) (σ : L2.St) : List V → List Ar → Prop
  | nil : ArOk K G σ [] []
  | val {v : V} {d : D} {vs : List V} {as : List Ar} : Rp K G v d → ArOk K G σ vs as → ArOk K G σ (v :: vs) (.val d :: as)
  | slot {v : V} {i : Nat} {vs : List V} {as : List Ar} : σ[i]? = some (some v) → ArOk K G σ vs as → ArOk K G σ (v :: vs) (.slot i :: as)
theorem ArOk.ex {K : PySem.W.Frag} {G G' : Hp} {σ : L2.St} {vs : List V} {as : List Ar} (h : ArOk K G σ vs as) (e : Ex G G') : ArOk K G' σ vs as := by
  induction h with
  | nil => exact .nil
  | val h _ ih => exact .val (h.ex e) ih
  | slot h _ ih => exact .slot h ih
def tJA (K : PySem.W.Frag) (B : Base) (ρ : List Slot) {β : Type} (m : R β) (as : β → List Ar) (ρ' : β → List Slot) : TA := fun σ H Q =>
  ∃ G, En K B G H σ ρ [] ∧ m.post (fun b => ∀ vs G' H', Ex G G' → En K B G' H' σ (ρ' b) [] → ArOk K G' σ vs (as b) → Q vs H') B.rs
def JA (X : Cx) (B : Base) (ρ : List Slot) (es : List Expr) {β : Type} (m : R β) (as : β → List Ar) (ρ' : β → List Slot) : Prop := PA X es (tJA X.K B ρ m as ρ')

section
variable {X : Cx} {B : Base} {ρ : List Slot} {a b e : Expr} {pos : Pos}
theorem post_ok {α : Type} {x : α} {φ : α → Prop} {ψ : Exn → Prop} : (R.ok x).post φ ψ ↔ φ x := Iff.rfl

/-! ### names, constants -/
theorem jp_of {t : TE} {d : D} (h : PE X e t) (k : ∀ σ G H Q, En X.K B G H σ ρ [] → (∀ v G' H', Ex G G' → En X.K B G' H' σ ρ [(v, .val d)] → Q v H') → t σ H Q) : JP X B ρ e d :=
  PE_imp h fun σ H Q ⟨G, E, q⟩ => k σ G H Q E q
theorem jp_var (i : Nat) {x : Str} {d : D} (h : ρ[i]? = some (.val d) := by rfl) (hN : X.N[i]? = some x := by rfl) (hv : Vis X.env.scope x := by first | exact Or.inl rfl | exact Or.inr (Or.inl rfl) | exact Or.inr (Or.inr rfl))
    (hd : (x == ("__debug__" : Str)) = false := by decide) (hcd : (x == ("__classdict__" : Str)) = false := by decide) : JP X B ρ (.Name x pos) d :=
  jp_of (pv i hN hv hd hcd) fun σ G H Q E q => by
    obtain ⟨v, h1, h2⟩ := E.get h
    exact ⟨v, h1, q v G H (Ex.refl G) (E.push h2)⟩
theorem jp_int {i : Int} {j : Nat} : JP X B ρ (.Constant (.int i) j pos) (.int i) := jp_of pe_int fun σ G H Q E q => q _ G H (Ex.refl G) (E.push (.int i))
theorem jp_bl {b : Bool} {j : Nat} : JP X B ρ (.Constant (.bool b) j pos) (.bool b) := jp_of pe_bl fun σ G H Q E q => q _ G H (Ex.refl G) (E.push (.bl b))
theorem jp_non {j : Nat} : JP X B ρ (.Constant .none j pos) .none := jp_of pe_non fun σ G H Q E q => q _ G H (Ex.refl G) (E.push .non)
theorem jp_str {x : Str} {j : Nat} : JP X B ρ (.Constant (.str x) j pos) (.str x) := jp_of pe_str fun σ G H Q E q => q _ G H (Ex.refl G) (E.push (.str x))
/-- the result of an own expression, as data -/
theorem je_frz {β : Type} {m : R β} {o : β → OT} {ρ' : β → List Slot} (h : JE X B ρ e m (fun b => .own 0 (o b)) ρ') : JE X B ρ e m (fun b => .val (o b).toD) ρ' :=
  PE_imp h fun σ H Q ⟨G, E, q⟩ => ⟨G, E, R.post_mono q fun b k v G' H' x E' => by
    obtain ⟨G2, x2, E2⟩ := E'.frz
    exact k v G2 H' (x.trans x2) E2⟩
/-- the same mirror by another name -/
theorem je_eq {β : Type} {m m' : R β} {sl : β → Slot} {ρ' : β → List Slot} (h : JE X B ρ e m sl ρ') (k : m' = m) : JE X B ρ e m' sl ρ' := by
  rw [k]
  exact h

/-! ### operators by data -/
/-- what a two-place operation makes of data -/
def OpD (K : PySem.W.Frag) (B : Base) (r : R2) (x y : D) {γ : Type} (mr : R γ) (s : γ → Slot) : Prop :=
  ∀ G H σ ρ vx vy Q, En K B G H σ ρ [] → Rp K G vx x → Rp K G vy y → mr.post (fun z => ∀ v G' H', Ex G G' → En K B G' H' σ ρ [(v, s z)] → Q v H') B.rs → r vx vy H Q
theorem od_val {K : PySem.W.Frag} {r : R2} {x y z : D} {c : Prop} [Decidable c] {w : V} (h : c → ∀ G H vx vy Q, Ex G H → Rp K G vx x → Rp K G vy y → Q w H → r vx vy H Q) (hw : ∀ G, Rp K G w z) : OpD K B r x y (R.guard c) (fun _ => .val z) :=
  fun G H σ ρ vx vy Q E hx hy q => by
    obtain ⟨hc, q⟩ := R.post_guard q
    exact h hc G H vx vy Q E.sub hx hy (q w G H (Ex.refl G) (E.push (hw G)))
theorem od_val0 {K : PySem.W.Frag} {r : R2} {x y z : D} {w : V} (h : ∀ G H vx vy Q, Ex G H → Rp K G vx x → Rp K G vy y → Q w H → r vx vy H Q) (hw : ∀ G, Rp K G w z) : OpD K B r x y (.ok ()) (fun _ => .val z) :=
  fun G H σ ρ vx vy Q E hx hy q => h G H vx vy Q E.sub hx hy (q w G H (Ex.refl G) (E.push (hw G)))
def op2 {α β γ : Type} (ma : R α) (mb : α → R β) (mr : α → β → R γ) : R (α × β × γ) := ma.bind fun x => (mb x).bind fun y => (mr x y).bind fun z => .ok (x, y, z)
theorem je_op2 {r : R2} (ht : ∀ ta tb, PE X a ta → PE X b tb → PE X e (tOp r ta tb)) {α β γ : Type} {ma : R α} {mb : α → R β} {xa : α → D} {xb : α → β → D} {ρa : α → List Slot} {ρb : α → β → List Slot} {mr : α → β → R γ} {s : α → β → γ → Slot}
    (ha : JE X B ρ a ma (fun x => .val (xa x)) ρa) (hb : ∀ x, JE X B (ρa x) b (mb x) (fun y => .val (xb x y)) (ρb x)) (hr : ∀ x y, OpD X.K B r (xa x) (xb x y) (mr x y) (s x y)) :
    JE X B ρ e (op2 ma mb mr) (fun p => s p.1 p.2.1 p.2.2) (fun p => ρb p.1 p.2.1) := by
  have hb' : PE X b (fun σ H Q => ∃ x, tJ X.K B (ρa x) (mb x) (fun y => .val (xb x y)) (ρb x) σ H Q) := ⟨fun pins s σ H Q I ⟨x, q⟩ => (hb x).run pins s σ H Q I q⟩
  refine PE_imp (ht _ _ ha hb') fun σ H Q ⟨G, E, q⟩ => ?_
  refine ⟨G, E, R.post_mono (R.post_bind.mp q) fun x q1 vx G1 H1 x1 E1 => ?_⟩
  refine ⟨x, G1, E1.pop, R.post_mono (R.post_bind.mp q1) fun y q2 vy G2 H2 x2 E2 => ?_⟩
  exact hr x y G2 H2 σ (ρb x y) vx vy Q E2.pop (E1.top.ex x2) E2.top (R.post_mono (R.post_bind.mp q2) fun z q3 v G3 H3 x3 E3 => q3 v G3 H3 (x1.trans (x2.trans x3)) E3)
/-- both pure -/
theorem je_op {r : R2} (ht : ∀ ta tb, PE X a ta → PE X b tb → PE X e (tOp r ta tb)) {x y : D} {γ : Type} {mr : R γ} {s : γ → Slot} (ha : JP X B ρ a x) (hb : JP X B ρ b y) (hr : OpD X.K B r x y mr s) : JE X B ρ e mr s (fun _ => ρ) := by
  refine PE_imp (ht _ _ ha hb) fun σ H Q ⟨G, E, q⟩ => ?_
  refine ⟨G, E, fun vx G1 H1 x1 E1 => ?_⟩
  refine ⟨G1, E1.pop, fun vy G2 H2 x2 E2 => ?_⟩
  exact hr G2 H2 σ ρ vx vy Q E2.pop (E1.top.ex x2) E2.top (R.post_mono q fun z q v G3 H3 x3 E3 => q v G3 H3 (x1.trans (x2.trans x3)) E3)

/-! ### int operators -/
/-- what C's division does by itself -/
def divOk (i j : Int) : Prop := j ≠ 0 ∧ Builtin.divisionGoesByPylong i j = false
instance {i j : Int} : Decidable (divOk i j) := by unfold divOk; infer_instance
def powOk (i j : Int) : Prop := 0 ≤ j ∧ j ≤ 1000000 ∧ i.natAbs < 2 ^ 64
instance {i j : Int} : Decidable (powOk i j) := by unfold powOk; infer_instance
instance {i j : Int} : Decidable (CPow i j) := by unfold CPow; infer_instance
instance {i j : Int} : Decidable (CMulX i j) := by unfold CMulX; infer_instance
theorem op_fdivZ : OpR X (binaryOp .FloorDiv) (rI divOk fun i j => .int (i.fdiv j)) := opI fun i j _ _ _ _ _ hc q => PyProof.Rows.floordiv_int hc.1 q (.inl hc.2)
section
variable {K : PySem.W.Frag} {i j : Int}
theorem od_I0 {g : Int → Int → V} {z : D} (hz : ∀ G, Rp K G (g i j) z) : OpD K B (rI0 g) (.int i) (.int j) (.ok ()) (fun _ => .val z) :=
  od_val0 (fun G H vx vy Q _ hx hy q => ⟨i, j, hx.int_inv, hy.int_inv, q⟩) hz
theorem od_I {C : Int → Int → Prop} [Decidable (C i j)] {g : Int → Int → V} {z : D} (hz : ∀ G, Rp K G (g i j) z) : OpD K B (rI C g) (.int i) (.int j) (R.guard (C i j)) (fun _ => .val z) :=
  od_val (fun c G H vx vy Q _ hx hy q => ⟨i, j, hx.int_inv, hy.int_inv, c, q⟩) hz
theorem od_add : OpD K B (rI0 fun i j => .int (i + j)) (.int i) (.int j) (.ok ()) (fun _ => .val (.int (i + j))) := od_I0 fun _ => .int _
theorem od_sub : OpD K B (rI0 fun i j => .int (i - j)) (.int i) (.int j) (.ok ()) (fun _ => .val (.int (i - j))) := od_I0 fun _ => .int _
theorem od_mul : OpD K B (rI CMulX fun i j => .int (i * j)) (.int i) (.int j) (R.guard (CMulX i j)) (fun _ => .val (.int (i * j))) := od_I fun _ => .int _
theorem od_fdiv : OpD K B (rI divOk fun i j => .int (i.fdiv j)) (.int i) (.int j) (R.guard (divOk i j)) (fun _ => .val (.int (i.fdiv j))) := od_I fun _ => .int _
theorem od_mod : OpD K B (rI (fun _ j => j ≠ 0) fun i j => .int (i.fmod j)) (.int i) (.int j) (R.guard (j ≠ 0)) (fun _ => .val (.int (i.fmod j))) := od_I (C := fun _ j => j ≠ 0) fun _ => .int _
theorem od_pow : OpD K B (rI CPow fun i j => .int (i ^ j.toNat)) (.int i) (.int j) (R.guard (CPow i j)) (fun _ => .val (.int (i ^ j.toNat))) := od_I (C := CPow) (fun _ => .int _)
theorem od_lt : OpD K B (rI0 fun i j => .bl (decide (i < j))) (.int i) (.int j) (.ok ()) (fun _ => .val (.bool (decide (i < j)))) := od_I0 fun _ => .bl _
theorem od_le : OpD K B (rI0 fun i j => .bl (decide (i ≤ j))) (.int i) (.int j) (.ok ()) (fun _ => .val (.bool (decide (i ≤ j)))) := od_I0 fun _ => .bl _
theorem od_gt : OpD K B (rI0 fun i j => .bl (decide (j < i))) (.int i) (.int j) (.ok ()) (fun _ => .val (.bool (decide (j < i)))) := od_I0 fun _ => .bl _
theorem od_ge : OpD K B (rI0 fun i j => .bl (decide (j ≤ i))) (.int i) (.int j) (.ok ()) (fun _ => .val (.bool (decide (j ≤ i)))) := od_I0 fun _ => .bl _
/-- == of ints, of bools, of texts -/
theorem od_eqI : OpD K B rEq (.int i) (.int j) (.ok ()) (fun _ => .val (.bool (decide (i = j)))) := od_val0 (w := .bl (decide (i = j))) (fun G H vx vy Q _ hx hy q => by
  rw [hx.int_inv, hy.int_inv]
  refine ⟨rfl, ?_⟩
  rw [show decide (V.int i = V.int j) = decide (i = j) from decide_eq_decide.mpr ⟨fun h => V.int.inj h, fun h => by rw [h]⟩]
  exact q) fun _ => .bl _
theorem od_neI : OpD K B rNe (.int i) (.int j) (.ok ()) (fun _ => .val (.bool (!decide (i = j)))) := od_val0 (w := .bl (!decide (i = j))) (fun G H vx vy Q _ hx hy q => by
  rw [hx.int_inv, hy.int_inv]
  refine ⟨rfl, ?_⟩
  rw [show decide (V.int i = V.int j) = decide (i = j) from decide_eq_decide.mpr ⟨fun h => V.int.inj h, fun h => by rw [h]⟩]
  exact q) fun _ => .bl _
end
theorem jp_neg {i : Int} (ha : JP X B ρ a (.int i)) : JP X B ρ (.UnaryOp .USub a pos) (.int (-i)) :=
  jp_of (pe_un un_neg ha) fun σ G H Q E q => ⟨G, E, fun v G1 H1 x1 E1 => ⟨i, E1.top.int_inv, q _ G1 H1 x1 (E1.pop.push (.int _))⟩⟩
theorem je_neg {β : Type} {m : R β} {i : β → Int} {ρ' : β → List Slot} (ha : JE X B ρ a m (fun b => .val (.int (i b))) ρ') : JE X B ρ (.UnaryOp .USub a pos) m (fun b => .val (.int (-(i b)))) ρ' :=
  PE_imp (pe_un un_neg ha) fun σ H Q ⟨G, E, q⟩ => ⟨G, E, R.post_mono q fun b k v G1 H1 x1 E1 => ⟨i b, E1.top.int_inv, k _ G1 H1 x1 (E1.pop.push (.int _))⟩⟩

/-! ### tests -/
theorem jt_val {β : Type} {m : R β} {bn : β → Bool} {ρ' : β → List Slot} (h : JE X B ρ e m (fun b => .val (.bool (bn b))) ρ') (he : ∀ whole, isTrue e X.env whole = (do let v ← whole; standAt e.pos; holding [v] (truthy v)) := by intro _; rfl) : JT X B ρ e m bn ρ' :=
  PT_imp (pt_val h he) fun σ H Q ⟨G, E, q⟩ => ⟨G, E, R.post_mono q fun b k v G1 H1 x1 E1 => ⟨bn b, E1.top.bl_inv, k G1 H1 x1 E1.pop⟩⟩
theorem jt_not {β : Type} {m : R β} {bn : β → Bool} {ρ' : β → List Slot} (h : JT X B ρ a m bn ρ') : JT X B ρ (.UnaryOp .Not a pos) m (fun b => !bn b) ρ' :=
  PT_imp (pt_not h) fun σ H Q ⟨G, E, q⟩ => ⟨G, E, q⟩
theorem jt_w {β : Type} {m : R β} {bn : β → Bool} {ρ' : β → List Slot} (h : JW X B ρ e m bn ρ') : JT X B ρ e m bn ρ' := PW.pt h
variable {rest : List Expr}
theorem jw_and1 {β : Type} {m : R β} {bn : β → Bool} {ρ' : β → List Slot} (h : JT X B ρ a m bn ρ') : JW X B ρ (.BoolOp .And [a] pos) m bn ρ' := pw_and1 h
theorem jw_or1 {β : Type} {m : R β} {bn : β → Bool} {ρ' : β → List Slot} (h : JT X B ρ a m bn ρ') : JW X B ρ (.BoolOp .Or [a] pos) m bn ρ' := pw_or1 h
/-- pure ones -/
theorem tw_and {x y : Bool} (ha : TP0 X B ρ a x) (hb : JW X B ρ (.BoolOp .And (b :: rest) pos) (.ok ()) (fun _ => y) (fun _ => ρ)) : JW X B ρ (.BoolOp .And (a :: b :: rest) pos) (.ok ()) (fun _ => x && y) (fun _ => ρ) :=
  PW_imp (pw_and ha hb) fun σ H Q ⟨G, E, q⟩ => ⟨G, E, fun G1 H1 x1 E1 => by
    cases x with
    | true => exact ⟨G1, E1, fun G2 H2 x2 E2 => q G2 H2 (x1.trans x2) E2⟩
    | false => exact q G1 H1 x1 E1⟩
theorem tw_or {x y : Bool} (ha : TP0 X B ρ a x) (hb : JW X B ρ (.BoolOp .Or (b :: rest) pos) (.ok ()) (fun _ => y) (fun _ => ρ)) : JW X B ρ (.BoolOp .Or (a :: b :: rest) pos) (.ok ()) (fun _ => x || y) (fun _ => ρ) :=
  PW_imp (pw_or ha hb) fun σ H Q ⟨G, E, q⟩ => ⟨G, E, fun G1 H1 x1 E1 => by
    cases x with
    | false => exact ⟨G1, E1, fun G2 H2 x2 E2 => q G2 H2 (x1.trans x2) E2⟩
    | true => exact q G1 H1 x1 E1⟩
/-- the second part only where it is asked; nothing stored changes -/
def and2 {α : Type} (ma : R α) (xa : α → Bool) (mb : R Bool) : R Bool := ma.bind fun x => if xa x = true then mb else .ok false
def or2 {α : Type} (ma : R α) (xa : α → Bool) (mb : R Bool) : R Bool := ma.bind fun x => if xa x = true then .ok true else mb
theorem jw_and {α : Type} {ma : R α} {xa : α → Bool} {mb : R Bool} (ha : JT X B ρ a ma xa (fun _ => ρ)) (hb : JW X B ρ (.BoolOp .And (b :: rest) pos) mb (fun y => y) (fun _ => ρ)) : JW X B ρ (.BoolOp .And (a :: b :: rest) pos) (and2 ma xa mb) (fun y => y) (fun _ => ρ) :=
  PW_imp (pw_and ha hb) fun σ H Q ⟨G, E, q⟩ => ⟨G, E, R.post_mono (R.post_bind.mp q) fun x k G1 H1 x1 E1 => by
    cases hx : xa x with
    | true =>
      rw [if_pos hx] at k
      exact ⟨G1, E1, R.post_mono k fun b k G2 H2 x2 E2 => k G2 H2 (x1.trans x2) E2⟩
    | false =>
      rw [if_neg (by rw [hx]; decide)] at k
      exact k G1 H1 x1 E1⟩
theorem jw_or {α : Type} {ma : R α} {xa : α → Bool} {mb : R Bool} (ha : JT X B ρ a ma xa (fun _ => ρ)) (hb : JW X B ρ (.BoolOp .Or (b :: rest) pos) mb (fun y => y) (fun _ => ρ)) : JW X B ρ (.BoolOp .Or (a :: b :: rest) pos) (or2 ma xa mb) (fun y => y) (fun _ => ρ) :=
  PW_imp (pw_or ha hb) fun σ H Q ⟨G, E, q⟩ => ⟨G, E, R.post_mono (R.post_bind.mp q) fun x k G1 H1 x1 E1 => by
    cases hx : xa x with
    | false =>
      rw [if_neg (by rw [hx]; decide)] at k
      exact ⟨G1, E1, R.post_mono k fun b k G2 H2 x2 E2 => k G2 H2 (x1.trans x2) E2⟩
    | true =>
      rw [if_pos hx] at k
      exact k G1 H1 x1 E1⟩
/-- a test's outcome as the mirror's own result -/
theorem jt_map {β : Type} {m : R β} {bn : β → Bool} (h : JT X B ρ e m bn (fun _ => ρ)) : JT X B ρ e (m.bind fun b => .ok (bn b)) (fun y => y) (fun _ => ρ) :=
  PT_imp h fun σ H Q ⟨G, E, q⟩ => ⟨G, E, R.post_mono (R.post_bind.mp q) fun b k => k⟩
/-- and, or, not as values -/
theorem jp_one {op : PySem.BoolOp} {β : Type} {m : R β} {sl : β → Slot} {ρ' : β → List Slot} (h : JE X B ρ a m sl ρ') : JE X B ρ (.BoolOp op [a] pos) m sl ρ' := pe_one h
theorem jp_and {x y : Bool} (ha : JP X B ρ a (.bool x)) (hb : JP X B ρ (.BoolOp .And (b :: rest) pos) (.bool y)) : JP X B ρ (.BoolOp .And (a :: b :: rest) pos) (.bool (x && y)) :=
  jp_of (pe_and ha hb) fun σ G H Q E q => ⟨G, E, fun v G1 H1 x1 E1 => ⟨x, E1.top.bl_inv, by
    cases x with
    | true => exact ⟨G1, E1.pop, fun v G2 H2 x2 E2 => q v G2 H2 (x1.trans x2) E2⟩
    | false => exact q _ G1 H1 x1 (E1.pop.push (.bl false))⟩⟩
theorem jp_or {x y : Bool} (ha : JP X B ρ a (.bool x)) (hb : JP X B ρ (.BoolOp .Or (b :: rest) pos) (.bool y)) : JP X B ρ (.BoolOp .Or (a :: b :: rest) pos) (.bool (x || y)) :=
  jp_of (pe_or ha hb) fun σ G H Q E q => ⟨G, E, fun v G1 H1 x1 E1 => ⟨x, E1.top.bl_inv, by
    cases x with
    | false => exact ⟨G1, E1.pop, fun v G2 H2 x2 E2 => q v G2 H2 (x1.trans x2) E2⟩
    | true => exact q _ G1 H1 x1 (E1.pop.push (.bl true))⟩⟩
theorem je_and {α : Type} {ma : R α} {xa : α → Bool} {mb : R Bool} (ha : JE X B ρ a ma (fun x => .val (.bool (xa x))) (fun _ => ρ)) (hb : JE X B ρ (.BoolOp .And (b :: rest) pos) mb (fun y => .val (.bool y)) (fun _ => ρ)) : JE X B ρ (.BoolOp .And (a :: b :: rest) pos) (and2 ma xa mb) (fun y => .val (.bool y)) (fun _ => ρ) :=
  PE_imp (pe_and ha hb) fun σ H Q ⟨G, E, q⟩ => ⟨G, E, R.post_mono (R.post_bind.mp q) fun x k v G1 H1 x1 E1 => ⟨xa x, E1.top.bl_inv, by
    cases hx : xa x with
    | true =>
      rw [if_pos hx] at k
      exact ⟨G1, E1.pop, R.post_mono k fun b k v G2 H2 x2 E2 => k v G2 H2 (x1.trans x2) E2⟩
    | false =>
      rw [if_neg (by rw [hx]; decide)] at k
      exact k _ G1 H1 x1 (E1.pop.push (.bl false))⟩⟩
theorem je_or {α : Type} {ma : R α} {xa : α → Bool} {mb : R Bool} (ha : JE X B ρ a ma (fun x => .val (.bool (xa x))) (fun _ => ρ)) (hb : JE X B ρ (.BoolOp .Or (b :: rest) pos) mb (fun y => .val (.bool y)) (fun _ => ρ)) : JE X B ρ (.BoolOp .Or (a :: b :: rest) pos) (or2 ma xa mb) (fun y => .val (.bool y)) (fun _ => ρ) :=
  PE_imp (pe_or ha hb) fun σ H Q ⟨G, E, q⟩ => ⟨G, E, R.post_mono (R.post_bind.mp q) fun x k v G1 H1 x1 E1 => ⟨xa x, E1.top.bl_inv, by
    cases hx : xa x with
    | false =>
      rw [if_neg (by rw [hx]; decide)] at k
      exact ⟨G1, E1.pop, R.post_mono k fun b k v G2 H2 x2 E2 => k v G2 H2 (x1.trans x2) E2⟩
    | true =>
      rw [if_pos hx] at k
      exact k _ G1 H1 x1 (E1.pop.push (.bl true))⟩⟩
theorem je_map {β γ : Type} {m : R β} {sl : β → Slot} {sl' : γ → Slot} {f : β → γ} (h : JE X B ρ e m sl (fun _ => ρ)) (k : ∀ b, sl b = sl' (f b)) : JE X B ρ e (m.bind fun b => .ok (f b)) sl' (fun _ => ρ) :=
  PE_imp h fun σ H Q ⟨G, E, q⟩ => ⟨G, E, R.post_mono (R.post_bind.mp q) fun b q1 v G' H' x E' => q1 v G' H' x (by rw [← k b]; exact E')⟩
theorem je_not {β : Type} {m : R β} {bn : β → Bool} {ρ' : β → List Slot} (ha : JE X B ρ a m (fun b => .val (.bool (bn b))) ρ') : JE X B ρ (.UnaryOp .Not a pos) m (fun b => .val (.bool (!bn b))) ρ' :=
  PE_imp (pe_not ha) fun σ H Q ⟨G, E, q⟩ => ⟨G, E, R.post_mono q fun b k v G1 H1 x1 E1 => ⟨bn b, E1.top.bl_inv, k _ G1 H1 x1 (E1.pop.push (.bl _))⟩⟩
end
end DL

/-! DL4: calls of defs -/
namespace DL
open PySem PySem.Spec L2

def insAt : Nat → List Slot → List Ar → List Slot
  | _, _, [] => []
  | n, ρ, .val d :: as => .val d :: insAt (n + 1) ρ as
  | n, ρ, .slot i :: as => (match ρ[i]? with | some (.own _ o) => .own (n + 1) o | _ => .non) :: insAt (n + 1) (ρ.set i .non) as
def movedAt : List Slot → List Ar → List Slot
  | ρ, [] => ρ
  | ρ, .val _ :: as => movedAt ρ as
  | ρ, .slot i :: as => movedAt (ρ.set i .non) as
def relab : Slot → Option Slot → Slot
  | .own _ o, some (.own l _) => .own l o
  | _, _ => .non
def backAt (ρ0 : List Slot) : List Slot → List Ar → List Slot → List Slot
  | ρ, [], _ => ρ
  | ρ, _, [] => ρ
  | ρ, .val _ :: as, _ :: os => backAt ρ0 ρ as os
  | ρ, .slot i :: as, s :: os => backAt ρ0 (ρ.set i (relab s ρ0[i]?)) as os
def isOwn : Option Slot → Bool
  | some (.own _ _) => true
  | _ => false
def goodIn : List Slot → List Ar → Bool
  | _, [] => true
  | ρ, .val _ :: as => goodIn ρ as
  | ρ, .slot i :: as => isOwn ρ[i]? && goodIn (ρ.set i .non) as
def isOwnL (n : Nat) : Slot → Bool
  | .own l _ => l == n
  | _ => false
def goodOut : Nat → List Ar → List Slot → Bool
  | _, [], [] => true
  | n, .val _ :: as, _ :: os => goodOut (n + 1) as os
  | n, .slot _ :: as, s :: os => isOwnL (n + 1) s && goodOut (n + 1) as os
  | _, _, _ => false
def noSlots : List Ar → Bool
  | [] => true
  | .val _ :: as => noSlots as
  | .slot _ :: _ => false
def noAlis : List Slot → Bool
  | [] => true
  | .ali _ _ :: _ => false
  | _ :: r => noAlis r
theorem noAlis_get : ∀ {ρ : List Slot}, noAlis ρ = true → ∀ {i j : Nat} {p : List Nat}, ρ[i]? ≠ some (.ali j p)
  | [], _, _, _, _ => fun e => nomatch e
  | s :: ρ, h, 0, j, p => fun e => by
    simp at e
    subst e
    simp [noAlis] at h
  | s :: ρ, h, i + 1, j, p => fun e => by
    have h' : noAlis ρ = true := by
      cases s <;> simp [noAlis] at h <;> exact h
    exact noAlis_get h' (i := i) (j := j) (p := p) (by simpa using e)
section
variable {K : PySem.W.Frag} {B B' : Base} {G G' H H' : Hp}
theorem isOwn_inv {s : Option Slot} (h : isOwn s = true) : ∃ l o, s = some (.own l o) := by
  match s, h with
  | some (.own l o), _ => exact ⟨l, o, rfl⟩
theorem isOwnL_inv {n : Nat} {s : Slot} (h : isOwnL n s = true) : ∃ o, s = .own n o := by
  match s, h with
  | .own l o, h =>
    simp [isOwnL] at h
    subst h
    exact ⟨o, rfl⟩
/-- the arguments' cells, each with its places; the rest -/
theorem Cells.args {σ : L2.St} : ∀ {as : List Ar} {vs : List V} {ρ : List Slot} {A : List Addr} (n : Nat), Cells K B G H σ ρ A → ArOk K G σ vs as → goodIn ρ as = true →
    ∃ (As : List (List Addr)) (Ar' : List Addr), As.length = as.length ∧ (∀ B' : Base, (∀ k, B'.Mo (n + 1 + k) = As.getD k []) → (∀ k, B'.pv (n + 1 + k) = vs[k]?) → Cells K B' G H (vs.map some) (insAt n ρ as) As.flatten) ∧ Cells K B G H σ (movedAt ρ as) Ar' ∧ A.Perm (As.flatten ++ Ar') ∧
      ∀ (k i : Nat), as[k]? = some (.slot i) → ∃ l o, ρ[i]? = some (.own l o) ∧ (∀ a ∈ As.getD k [], a ∈ B.Mo l ∨ B.H0 a = none) ∧ ∀ v, σ[i]? = some (some v) → l = 0 ∨ B.pv l = some v
  | [], _, ρ, A, n, h, .nil, _ => ⟨[], A, rfl, fun _ _ _ => .nil, h, List.Perm.refl _, fun _ _ e => by simp at e⟩
  | .val d :: as, v :: vs, ρ, A, n, h, .val r q, g => by
    obtain ⟨As, A', h1, h2, h3, h4, h5⟩ := Cells.args (n + 1) h q (by simpa [goodIn] using g)
    refine ⟨[] :: As, A', by simp [h1], fun B' hB hP => ?_, h3, by simpa using h4, fun k i e => ?_⟩
    · exact .cons (A := []) (.val r) (h2 B' (fun k => by
        have := hB (k + 1)
        rw [show n + 1 + (k + 1) = n + 1 + 1 + k by omega] at this
        simpa using this) (fun k => by
        have := hP (k + 1)
        rw [show n + 1 + (k + 1) = n + 1 + 1 + k by omega] at this
        simpa using this))
    · cases k with
      | zero => simp at e
      | succ k =>
        obtain ⟨l, o, e1, e2⟩ := h5 k i (by simpa using e)
        exact ⟨l, o, e1, by simpa using e2.1, e2.2⟩
  | .slot j :: as, v :: vs, ρ, A, n, h, .slot e0 q, g => by
    simp [goodIn] at g
    obtain ⟨l, o, ho⟩ := isOwn_inv g.1
    obtain ⟨v', A1, A2, e1, hO, ⟨hl, hv⟩, c2, p⟩ := h.take1 ho
    have ev : v = v' := by
      have z := e0.symm.trans e1
      injection z with z
      injection z
    subst ev
    obtain ⟨As, A', h1, h2, h3, h4, h5⟩ := Cells.args (n + 1) c2 q g.2
    refine ⟨A1 :: As, A', by simp [h1], fun B' hB hP => ?_, h3, ?_, fun k i e => ?_⟩
    · have hins : insAt n ρ (.slot j :: as) = .own (n + 1) o :: insAt (n + 1) (ρ.set j .non) as := by
        show (match ρ[j]? with | some (.own _ o) => Slot.own (n + 1) o | _ => .non) :: _ = _
        rw [ho]
      rw [hins]
      refine .cons (A := A1) (.own hO (fun a m => .inl ?_) (.inr ?_)) (h2 B' (fun k => ?_) fun k => ?_)
      · have := hB 0
        simp at this
        rw [this]
        exact m
      · have := hP 0
        simpa using this
      · have := hB (k + 1)
        rw [show n + 1 + (k + 1) = n + 1 + 1 + k by omega] at this
        simpa using this
      · have := hP (k + 1)
        rw [show n + 1 + (k + 1) = n + 1 + 1 + k by omega] at this
        simpa using this
    · have := p.trans (h4.append_left A1)
      rw [← List.append_assoc] at this
      exact this
    · cases k with
      | zero =>
        simp at e
        subst e
        exact ⟨l, o, ho, by simpa using hl, fun w ew => by
          have z := e1.symm.trans ew
          injection z with z
          injection z with z
          rw [← z]
          exact hv⟩
      | succ k =>
        obtain ⟨l', o', q1, q2⟩ := h5 k i (by simpa using e)
        have hij : j ≠ i := fun z => by
          subst z
          by_cases hlt : j < ρ.length
          · rw [List.getElem?_set_self hlt] at q1
            cases q1
          · rw [List.getElem?_eq_none (by simpa using hlt)] at q1
            cases q1
        rw [List.getElem?_set_ne hij] at q1
        exact ⟨l', o', q1, by simpa using q2.1, q2.2⟩
theorem Cells.region {σ : L2.St} {ρ : List Slot} {A : List Addr} (h : Cells K B G H σ ρ A) : ∀ a ∈ A, (∃ l, a ∈ B.Mo l) ∨ B.H0 a = none := by
  induction h with
  | nil => exact fun _ m => nomatch m
  | cons c r ih =>
    intro a m
    rcases List.mem_append.mp m with m | m
    · cases c with
      | non => exact nomatch m
      | val _ => exact nomatch m
      | own _ hl _ => exact (hl a m).imp (fun z => ⟨_, z⟩) id
      | ali => exact nomatch m
    · exact ih a m
def slotsOf : List Ar → List Nat
  | [] => []
  | .val _ :: as => slotsOf as
  | .slot i :: as => i :: slotsOf as
theorem goodIn_nodup : ∀ {as : List Ar} {ρ : List Slot}, goodIn ρ as = true → (slotsOf as).Nodup ∧ ∀ i ∈ slotsOf as, isOwn ρ[i]? = true
  | [], _, _ => ⟨List.nodup_nil, fun _ m => nomatch m⟩
  | .val _ :: as, ρ, h => goodIn_nodup (as := as) (by simpa [goodIn] using h)
  | .slot j :: as, ρ, h => by
    simp [goodIn] at h
    obtain ⟨h1, h2⟩ := goodIn_nodup h.2
    have hj : ∀ i ∈ slotsOf as, i ≠ j := fun i m z => by
      subst z
      have := h2 i m
      by_cases hlt : i < ρ.length
      · rw [List.getElem?_set_self hlt] at this
        cases this
      · rw [List.getElem?_eq_none (by simpa using hlt)] at this
        cases this
    refine ⟨List.nodup_cons.mpr ⟨fun m => hj j m rfl, h1⟩, fun i m => ?_⟩
    rcases List.mem_cons.mp m with rfl | m
    · exact h.1
    · have := h2 i m
      rw [List.getElem?_set_ne (Ne.symm (hj i m))] at this
      exact this
theorem movedAt_len : ∀ (as : List Ar) (ρ : List Slot), (movedAt ρ as).length = ρ.length
  | [], _ => rfl
  | .val _ :: as, ρ => movedAt_len as ρ
  | .slot i :: as, ρ => by
    show (movedAt (ρ.set i .non) as).length = _
    rw [movedAt_len as, List.length_set]
theorem movedAt_get : ∀ {as : List Ar} {ρ : List Slot} {i : Nat}, i ∈ slotsOf as → i < ρ.length → (movedAt ρ as)[i]? = some .non
  | .val _ :: as, ρ, i, m, h => movedAt_get (as := as) (ρ := ρ) (by simpa [slotsOf] using m) h
  | .slot j :: as, ρ, i, m, h => by
    show (movedAt (ρ.set j .non) as)[i]? = _
    by_cases hi : i ∈ slotsOf as
    · exact movedAt_get hi (by simpa using h)
    · have e : i = j := by
        rcases List.mem_cons.mp m with e | m
        · exact e
        · exact absurd m hi
      subst e
      have keep : ∀ (as : List Ar) (ρ : List Slot), i ∉ slotsOf as → (movedAt ρ as)[i]? = ρ[i]? := by
        intro as
        induction as with
        | nil => intro ρ _; rfl
        | cons a as ih =>
          intro ρ hn
          cases a with
          | val d => exact ih ρ (by simpa [slotsOf] using hn)
          | slot k =>
            have hk : i ≠ k ∧ i ∉ slotsOf as := by simpa [slotsOf] using hn
            show (movedAt (ρ.set k .non) as)[i]? = _
            rw [ih _ hk.2, List.getElem?_set_ne (Ne.symm hk.1)]
      rw [keep as _ hi, List.getElem?_set_self h]
/-- the arguments' cells put back -/
theorem Cells.back {σ : L2.St} {G0 : Hp} (ρ0 : List Slot) : ∀ {as : List Ar} {vs : List V} {os ρ : List Slot} {A A' : List Addr} (n : Nat), ArOk K G0 σ vs as → Cells K B' G' H' (vs.map some) os A' → Cells K B G' H' σ ρ A → goodOut n as os = true →
    (slotsOf as).Nodup → (∀ i ∈ slotsOf as, ρ[i]? = some .non) → (∀ (k i : Nat), as[k]? = some (.slot i) → ∃ l o, ρ0[i]? = some (.own l o) ∧ (∀ a, (a ∈ B'.Mo (n + 1 + k) ∨ B'.H0 a = none) → a ∈ B.Mo l ∨ B.H0 a = none) ∧ ∀ v, σ[i]? = some (some v) → l = 0 ∨ B.pv l = some v) →
    ∃ A2 C, Cells K B G' H' σ (backAt ρ0 ρ as os) A2 ∧ A2.Perm (C ++ A) ∧ C.Sublist A'
  | [], _, os, ρ, A, A', n, .nil, _, h, _, _, _, _ => ⟨A, [], by rw [backAt]; exact h, List.Perm.refl _, List.nil_sublist _⟩
  | .val d :: as, v :: vs, os, ρ, A, A', n, .val r q, c, h, g, nd, hn, hl => by
    cases c with
    | @cons _ s A1 _ os A2 c1 cr =>
      obtain ⟨A3, C, h1, h2, h3⟩ := Cells.back ρ0 (n + 1) q cr h (by simpa [goodOut] using g) (by simpa [slotsOf] using nd) (by simpa [slotsOf] using hn) (fun k i e => by
        obtain ⟨l, o, e1, e2⟩ := hl (k + 1) i (by simpa using e)
        rw [show n + 1 + (k + 1) = n + 1 + 1 + k by omega] at e2
        exact ⟨l, o, e1, e2⟩)
      exact ⟨A3, C, by rw [backAt]; exact h1, h2, h3.trans (List.sublist_append_right _ _)⟩
  | .slot j :: as, v :: vs, os, ρ, A, A', n, .slot e0 q, c, h, g, nd, hn, hl => by
    cases c with
    | @cons _ s A1 _ os A2 c1 cr =>
      have g' : isOwnL (n + 1) s = true ∧ goodOut (n + 1) as os = true := by simpa [goodOut] using g
      obtain ⟨o, rfl⟩ := isOwnL_inv g'.1
      cases c1 with
      | own hO hr _ =>
        obtain ⟨l, o0, e1, e2, e3⟩ := hl 0 j rfl
        have hj : ρ[j]? = some .non := hn j (by simp [slotsOf])
        obtain ⟨A4, c4, p4⟩ := h.put1 (l := l) hj e0 hO ⟨fun a m => e2 a (by simpa using hr a m), e3 _ e0⟩
        have nd' : j ∉ slotsOf as ∧ (slotsOf as).Nodup := by simpa [slotsOf] using nd
        obtain ⟨A3, C, h1, h2, h3⟩ := Cells.back ρ0 (n + 1) q cr c4 g'.2 nd'.2 (fun i m => by
          have hij : j ≠ i := fun z => nd'.1 (z ▸ m)
          rw [List.getElem?_set_ne hij]
          exact hn i (by simp [slotsOf, m])) (fun k i e => by
          obtain ⟨l, o, e1, e2⟩ := hl (k + 1) i (by simpa using e)
          rw [show n + 1 + (k + 1) = n + 1 + 1 + k by omega] at e2
          exact ⟨l, o, e1, e2⟩)
        refine ⟨A3, A1 ++ C, ?_, ?_, h3.append_left A1⟩
        · rw [backAt, e1]
          exact h1
        · have p5 := h2.trans (p4.append_left C)
          refine p5.trans ?_
          rw [← List.append_assoc]
          exact List.perm_append_comm.append_right A
theorem backAt_len (ρ0 : List Slot) : ∀ (as : List Ar) (os ρ : List Slot), (backAt ρ0 ρ as os).length = ρ.length
  | [], _, _ => by rw [backAt]
  | .val _ :: _, [], _ => by rw [backAt]; exact fun h => nomatch h
  | .slot _ :: _, [], _ => by rw [backAt]; exact fun h => nomatch h
  | .val _ :: as, _ :: os, ρ => by
    rw [backAt]
    exact backAt_len ρ0 as os ρ
  | .slot i :: as, s :: os, ρ => by
    rw [backAt, backAt_len ρ0 as os, List.length_set]
end
/-- a def's promise by its mirror: how its arguments stand, its mirror, how its result and its owned arguments stand -/
def baseOf (H G : Hp) (As : List (List Addr)) (vs : List V) (rs : Exn → Prop) : Base := ⟨H, G, fun l => match l with | 0 => [] | n + 1 => As.getD n [], rfl, fun l => match l with | 0 => none | n + 1 => vs[n]?, rs⟩
def spM (K : PySem.W.Frag) {α β : Type} (ins : α → List Slot) (m : α → R β) (sl : β → Slot) (outs : β → List Slot) : Sp := fun vs H Q _ =>
  ∃ (a : α) (G : Hp) (As : List (List Addr)), En K (baseOf H G As vs fun _ => False) G H (vs.map some) (ins a) [] ∧
    (m a).post (fun b => ∀ v G' H', En K (baseOf H G As vs fun _ => False) G' H' (vs.map some) (outs b) [(v, sl b)] → Q v H') fun _ => False
/-- a result: data, or a new owned thing -/
def resOk : Slot → Bool
  | .val _ => true
  | .own 0 _ => true
  | _ => false
/-- no alias is met -/
def aliOk (ρ : List Slot) (as : List Ar) : Bool := noSlots as || noAlis ρ
theorem noSlots_As {K : PySem.W.Frag} {G : Hp} {σ : L2.St} : ∀ {as : List Ar}, noSlots as = true → slotsOf as = []
  | [], _ => rfl
  | .val _ :: as, h => noSlots_As (K := K) (G := G) (σ := σ) (as := as) h
theorem insAt_noAli : ∀ {as : List Ar} {n : Nat} {ρ : List Slot} {i j : Nat} {p : List Nat}, (insAt n ρ as)[i]? ≠ some (.ali j p)
  | [], n, ρ, i, j, p => fun e => nomatch e
  | .val d :: as, n, ρ, 0, j, p => fun e => by simp [insAt] at e
  | .val d :: as, n, ρ, i + 1, j, p => fun e => insAt_noAli (as := as) (n := n + 1) (ρ := ρ) (i := i) (j := j) (p := p) (by simpa [insAt] using e)
  | .slot k :: as, n, ρ, 0, j, p => fun e => by
    simp [insAt] at e
    split at e <;> cases e
  | .slot k :: as, n, ρ, i + 1, j, p => fun e => insAt_noAli (as := as) (n := n + 1) (ρ := ρ.set k .non) (i := i) (j := j) (p := p) (by simpa [insAt] using e)
theorem movedAt_noSlots : ∀ {as : List Ar} {ρ : List Slot}, noSlots as = true → movedAt ρ as = ρ
  | [], _, _ => rfl
  | .val _ :: as, ρ, h => movedAt_noSlots (as := as) h
theorem backAt_noSlots {ρ0 : List Slot} : ∀ {as : List Ar} {os ρ : List Slot}, noSlots as = true → backAt ρ0 ρ as os = ρ
  | [], _, _, _ => by rw [backAt]
  | .val _ :: as, [], _, _ => by rw [backAt]; exact fun h => nomatch h
  | .val _ :: as, _ :: os, ρ, h => by
    rw [backAt]
    exact backAt_noSlots (as := as) h
theorem backAt_noAlis {ρ0 : List Slot} : ∀ {as : List Ar} {os ρ : List Slot}, (∀ {i j : Nat} {p : List Nat}, ρ[i]? ≠ some (.ali j p)) → ∀ {i j : Nat} {p : List Nat}, (backAt ρ0 ρ as os)[i]? ≠ some (.ali j p)
  | [], _, _, h => by
    rw [backAt]
    exact h
  | .val _ :: _, [], _, h => by
    rw [backAt]
    exact h
    exact fun h => nomatch h
  | .slot _ :: _, [], _, h => by
    rw [backAt]
    exact h
    exact fun h => nomatch h
  | .val _ :: as, _ :: os, ρ, h => by
    rw [backAt]
    exact backAt_noAlis h
  | .slot k :: as, s :: os, ρ, h => by
    rw [backAt]
    refine backAt_noAlis fun {i j p} e => ?_
    by_cases hk : k = i
    · subst hk
      by_cases hlt : k < ρ.length
      · rw [List.getElem?_set_self hlt] at e
        have e : relab s ρ0[k]? = .ali j p := Option.some.inj e
        cases s <;> simp [relab] at e
        split at e <;> cases e
      · rw [List.getElem?_eq_none (by simpa using hlt)] at e
        cases e
    · rw [List.getElem?_set_ne hk] at e
      exact h e
theorem movedAt_noAlis : ∀ {as : List Ar} {ρ : List Slot}, (∀ {i j : Nat} {p : List Nat}, ρ[i]? ≠ some (.ali j p)) → ∀ {i j : Nat} {p : List Nat}, (movedAt ρ as)[i]? ≠ some (.ali j p)
  | [], _, h => h
  | .val _ :: as, ρ, h => movedAt_noAlis (as := as) h
  | .slot k :: as, ρ, h => movedAt_noAlis (as := as) (ρ := ρ.set k .non) fun {i j p} e => by
    by_cases hk : k = i
    · subst hk
      by_cases hlt : k < ρ.length
      · rw [List.getElem?_set_self hlt] at e
        cases e
      · rw [List.getElem?_eq_none (by simpa using hlt)] at e
        cases e
    · rw [List.getElem?_set_ne hk] at e
      exact h e
section
variable {K : PySem.W.Frag} {B : Base} {G H : Hp} {σ : L2.St} {ρ : List Slot} {as : List Ar} {vs : List V}
/-- THE CALL: what a caller must show, and what it has behind -/
theorem call_sp {α β : Type} {ins : α → List Slot} {m : α → R β} {sl : β → Slot} {outs : β → List Slot} {Q : VK} {E : XK} (a : α) (En0 : En K B G H σ ρ []) (ok : ArOk K G σ vs as) (hi : goodIn ρ as = true) (hins : insAt 0 ρ as = ins a)
    (ho : ∀ b, goodOut 0 as (outs b) = true) (hal : aliOk ρ as = true) (hres : ∀ b, resOk (sl b) = true) (hr : ∀ e, ¬ B.rs e)
    (q : (m a).post (fun b => ∀ v G' H', Ex G G' → En K B G' H' σ (backAt ρ (movedAt ρ as) as (outs b)) [(v, sl b)] → Q v H') B.rs) : spM K ins m sl outs vs H Q E := by
  obtain ⟨A, c, nd, f⟩ := En0.own
  obtain ⟨As, Ar', h1, h2, h3, h4, h5⟩ := Cells.args (as := as) 0 (show Cells K B G H σ ρ A from c) ok hi
  have nd2 := List.nodup_append.mp (h4.nodup_iff.mp nd)
  have fA : ∀ x ∈ As.flatten, G x = none := fun x m => f x (h4.mem_iff.mpr (List.mem_append_left _ m))
  have fR : ∀ x ∈ Ar', G x = none := fun x m => f x (h4.mem_iff.mpr (List.mem_append_right _ m))
  have mo : ∀ k, (baseOf H G As vs fun _ => False).Mo (0 + 1 + k) = As.getD k [] := fun k => by
    show (match 0 + 1 + k with | 0 => [] | n + 1 => As.getD n []) = _
    rw [show 0 + 1 + k = k + 1 by omega]
  have moIn : ∀ l x, x ∈ (baseOf H G As vs fun _ => False).Mo l → x ∈ As.flatten := fun l x m => by
    cases l with
    | zero => exact nomatch m
    | succ n =>
      have m : x ∈ As.getD n [] := m
      rw [List.getD_eq_getElem?_getD] at m
      cases e : As[n]? with
      | none =>
        rw [e] at m
        exact nomatch m
      | some L =>
        rw [e] at m
        exact List.mem_flatten.mpr ⟨L, List.mem_of_getElem? e, m⟩
  have cA := h2 (baseOf H G As vs fun _ => False) mo fun k => by
    show (match 0 + 1 + k with | 0 => none | n + 1 => vs[n]?) = _
    rw [show 0 + 1 + k = k + 1 by omega]
  have thA : ∀ x ∈ As.flatten, ∃ u, H x = some u := cA.there
  have thR : ∀ x ∈ Ar', ∃ u, H x = some u := h3.there
  refine ⟨a, G, As, ⟨⟨fun x o _ e => e, fun x l mx => ?_, Ex.refl G, fun x _ e => e, En0.sub⟩, ⟨_, by
      rw [← hins]
      exact cA, nd2.1, fA⟩, ?_, fun i j p e => ?_⟩, ?_⟩
  · obtain ⟨u, hu⟩ := thA x (moIn l x mx)
    rw [hu]
    exact fun z => nomatch z
  · rw [cA.len, hins]
  · rw [← hins] at e
    exact absurd e insAt_noAli
  · cases hm : m a with
    | bad =>
      rw [hm] at q
      exact q.elim
    | err e =>
      rw [hm] at q
      exact (hr e q).elim
    | ok b =>
      rw [hm] at q
      intro v G' H' E'
      have hG : Ex G G' := E'.anc.gsub
      refine q v G' H' hG ?_
      obtain ⟨A', c', n', f'⟩ := E'.own
      cases c' with
      | @cons _ _ A1 _ _ A2 cv cr =>
        have n1 := List.nodup_append.mp n'
        have keepH : ∀ x o, x ∉ As.flatten → H x = some o → H' x = some o := fun x o hx e => E'.anc.keep x o (fun l z => hx (moIn l x z)) e
        have reg : ∀ x ∈ A1 ++ A2, x ∈ As.flatten ∨ H x = none := fun x mx => by
          have := Cells.region (Cells.cons cv cr) x mx
          rcases this with ⟨l, z⟩ | z
          · exact .inl (moIn l x z)
          · exact .inr z
        have cR : Cells K B G' H' σ (movedAt ρ as) Ar' := h3.ex hG fun x mx u e => keepH x u (fun z => nd2.2.2 x z x mx rfl) e
        obtain ⟨gn1, gn2⟩ := goodIn_nodup hi
        obtain ⟨A3, C, b1, b2, b3⟩ := Cells.back (B := B) ρ (n := 0) ok cr cR (ho b) gn1 (fun i mi => movedAt_get mi (by
            have := gn2 i mi
            obtain ⟨l, o, e⟩ := isOwn_inv this
            exact (List.getElem?_eq_some_iff.mp e).1)) (fun k i e => by
            obtain ⟨l, o, e1, e2, e3⟩ := h5 k i e
            refine ⟨l, o, e1, fun x hx => ?_, e3⟩
            rcases hx with hx | hx
            · rw [mo] at hx
              exact e2 x hx
            · exact .inr (En0.fresh hx))
        have subC : (A1 ++ C).Sublist (A1 ++ A2) := b3.append_left A1
        have ndC : (A1 ++ C).Nodup := subC.nodup n'
        have dis : ∀ x ∈ A1 ++ A2, x ∉ Ar' := fun x mx mr => by
          rcases reg x mx with z | z
          · exact nd2.2.2 x z x mr rfl
          · obtain ⟨u, hu⟩ := thR x mr
            rw [hu] at z
            cases z
        have pA : (A1 ++ A3).Perm ((A1 ++ C) ++ Ar') := by
          rw [List.append_assoc]
          exact b2.append_left A1
        have cvB : Cell K B G' H' (some v) (sl b) A1 := by
          have cv2 : Cell K (baseOf H G As vs fun _ => False) G' H' (some v) (sl b) A1 := cv
          have hb := hres b
          revert cv2 hb
          generalize sl b = s
          intro cv2 hb
          cases cv2 with
          | non => exact .non
          | val h => exact .val h
          | @own _ l o _ hO hl _ =>
            cases l with
            | succ n => cases hb
            | zero =>
              refine .own hO (fun x mx => .inr (En0.fresh ?_)) (.inl rfl)
              rcases hl x mx with z | z
              · exact nomatch z
              · exact z
          | ali => exact .ali
        have lenEq : (backAt ρ (movedAt ρ as) as (outs b)).length = ρ.length := by rw [backAt_len, movedAt_len]
        have anc : Anc B G' H' := by
          refine ⟨fun x o hx e => ?_, fun x l hx => ?_, En0.anc.gsub.trans hG, fun x e1 e2 => ?_, E'.anc.sub⟩
          · have e1 := En0.anc.keep x o hx e
            refine keepH x o (fun z => ?_) e1
            rcases Cells.region (show Cells K B G H σ ρ A from c) x (h4.mem_iff.mpr (List.mem_append_left _ z)) with ⟨l, y⟩ | y
            · exact hx l y
            · rw [y] at e
              cases e
          · have e1 := En0.anc.there x l hx
            by_cases hxA : x ∈ As.flatten
            · obtain ⟨L, hL, mL⟩ := List.mem_flatten.mp hxA
              obtain ⟨k, hk⟩ := List.getElem?_of_mem hL
              refine E'.anc.there x (k + 1) ?_
              show x ∈ As.getD k []
              rw [List.getD_eq_getElem?_getD, hk]
              exact mL
            · cases e : H x with
              | none => exact absurd e e1
              | some o =>
                rw [keepH x o hxA e]
                exact fun z => nomatch z
          · refine E'.anc.gnew x ?_ (En0.anc.gnew x e1 e2)
            intro z
            exact e1 (En0.fresh z)
        refine ⟨anc, ⟨A1 ++ A3, .cons cvB b1, pA.nodup_iff.mpr (List.nodup_append.mpr ⟨ndC, nd2.2.1, fun x mx y my e => dis x (subC.subset mx) (e ▸ my)⟩), fun x mx => ?_⟩, by rw [lenEq]; exact En0.len, fun i j p e => ?_⟩
        · rcases List.mem_append.mp (pA.mem_iff.mp mx) with mx | mx
          · exact f' x (subC.subset mx)
          · refine E'.anc.gnew x ?_ (fR x mx)
            obtain ⟨u, hu⟩ := thR x mx
            show H x ≠ none
            rw [hu]
            exact fun z => nomatch z
        · cases hs : noSlots as with
          | false =>
            have hn : noAlis ρ = true := by
              unfold aliOk at hal
              rw [hs] at hal
              simpa using hal
            exact absurd e (backAt_noAlis (movedAt_noAlis (noAlis_get hn)))
          | true =>
            rw [backAt_noSlots hs, movedAt_noSlots hs] at e
            obtain ⟨v', w, q1, q2, q3⟩ := En0.ali i j p e
            refine ⟨v', w, q1, q2, q3.ex fun x o e => keepH x o (fun z => ?_) e⟩
            have hk : ∀ {as : List Ar} {As : List (List Addr)}, noSlots as = true → As.length = as.length → (∀ k : Nat, k < As.length → As.getD k [] = []) → As.flatten = [] := fun {as As} _ hl hk => by
              rw [List.flatten_eq_nil_iff]
              intro L hL
              obtain ⟨k, hk'⟩ := List.getElem?_of_mem hL
              have := hk k (List.getElem?_eq_some_iff.mp hk').1
              rw [List.getD_eq_getElem?_getD, hk'] at this
              exact this
            have vals : ∀ {as : List Ar} {vs : List V} {n : Nat} {ρ : List Slot} {A : List Addr} {B' : Base}, noSlots as = true → Cells K B' G H (vs.map some) (insAt n ρ as) A → A = [] := by
              intro as
              induction as with
              | nil =>
                intro vs n ρ A B' _ c
                cases vs with
                | nil =>
                  cases c
                  rfl
                | cons v vs => cases c
              | cons a as ih =>
                intro vs n ρ A B' hs c
                cases a with
                | slot i => cases hs
                | val d =>
                  cases vs with
                  | nil => cases c
                  | cons v vs =>
                    cases c with
                    | cons c r =>
                      cases c
                      exact ih hs r
            have := vals hs cA
            rw [this] at z
            exact nomatch z
end
/-! ### arguments -/
section
variable {X : Cx} {B : Base} {ρ : List Slot} {e : Expr} {es : List Expr} {pos : Pos}
theorem ja_nil : JA X B ρ [] (.ok ()) (fun _ => []) (fun _ => ρ) := PA_imp pa_nil fun σ H Q ⟨G, E, q⟩ => q [] G H (Ex.refl G) E .nil
theorem ja_p {d : D} {β : Type} {m : R β} {as : β → List Ar} {ρ' : β → List Slot} (h : JP X B ρ e d) (t : JA X B ρ es m as ρ') (hst : starEach (e :: es) X.env = (false, eval e X.env) :: starEach es X.env := by rfl) : JA X B ρ (e :: es) m (fun b => .val d :: as b) ρ' :=
  PA_imp (pa_cons h t hst) fun σ H Q ⟨G, E, q⟩ => ⟨G, E, fun v G1 H1 x1 E1 => ⟨G1, E1.pop, R.post_mono q fun b k vs G2 H2 x2 E2 ok => k _ G2 H2 (x1.trans x2) E2 (.val (E1.top.ex x2) ok)⟩⟩
theorem ja_e {α β : Type} {ma : R α} {xa : α → D} {ρa : α → List Slot} {mb : α → R β} {as : α → β → List Ar} {ρ' : α → β → List Slot} (h : JE X B ρ e ma (fun x => .val (xa x)) ρa) (t : ∀ x, JA X B (ρa x) es (mb x) (as x) (ρ' x)) (hst : starEach (e :: es) X.env = (false, eval e X.env) :: starEach es X.env := by rfl) :
    JA X B ρ (e :: es) (ma.bind fun x => (mb x).bind fun y => .ok (x, y)) (fun p => .val (xa p.1) :: as p.1 p.2) (fun p => ρ' p.1 p.2) := by
  have t' : PA X es (fun σ H Q => ∃ x, tJA X.K B (ρa x) (mb x) (as x) (ρ' x) σ H Q) := ⟨fun pos pins s σ H Q I ⟨x, q⟩ => (t x).run pos pins s σ H Q I q⟩
  exact PA_imp (pa_cons h t' hst) fun σ H Q ⟨G, E, q⟩ => ⟨G, E, R.post_mono (R.post_bind.mp q) fun x k v G1 H1 x1 E1 => ⟨x, G1, E1.pop, R.post_mono (R.post_bind.mp k) fun y k vs G2 H2 x2 E2 ok => k _ G2 H2 (x1.trans x2) E2 (.val (E1.top.ex x2) ok)⟩⟩
/-- an owned slot handed on -/
theorem ja_s (i : Nat) {x : Str} {β : Type} {m : R β} {as : β → List Ar} {ρ' : β → List Slot} (t : JA X B ρ es m as ρ') (h : isOwn ρ[i]? = true := by rfl) (hN : X.N[i]? = some x := by rfl) (hv : Vis X.env.scope x := by first | exact Or.inl rfl | exact Or.inr (Or.inl rfl) | exact Or.inr (Or.inr rfl))
    (hd : (x == ("__debug__" : Str)) = false := by decide) (hcd : (x == ("__classdict__" : Str)) = false := by decide) : JA X B ρ (.Name x pos :: es) m (fun b => .slot i :: as b) ρ' :=
  PA_imp (pa_cons (pv i hN hv hd hcd) t) fun σ H Q ⟨G, E, q⟩ => by
    obtain ⟨l, o, e⟩ := isOwn_inv h
    obtain ⟨A, c, _, _⟩ := E.own
    obtain ⟨v, _, _, e1, _⟩ := Cells.take1 (show Cells X.K B G H σ ρ A from c) e
    exact ⟨v, e1, G, E, R.post_mono q fun b k vs G2 H2 x2 E2 ok => k _ G2 H2 x2 E2 (.slot e1 ok)⟩
/-- data arguments -/
def arDs : List Ar → List D
  | [] => []
  | .val d :: as => d :: arDs as
  | .slot _ :: as => .none :: arDs as
theorem ArOk.ds {K : PySem.W.Frag} {G : Hp} {σ : L2.St} {vs : List V} {as : List Ar} (h : ArOk K G σ vs as) (hs : noSlots as = true) : RpAll K G vs (arDs as) := by
  induction h with
  | nil => exact .nil
  | val r _ ih => exact .cons r (ih hs)
  | slot _ _ _ => cases hs
/-! ### displays -/
theorem je_tup {x1 : Nat} {β : Type} {m : R β} {as : β → List Ar} {ρ' : β → List Slot} (h : JA X B ρ es m as ρ') (hs : ∀ b, noSlots (as b) = true := by intro _; rfl) (hl : ∀ b, (arDs (as b)).length ≤ 1000 := by intro _; exact of_decide_eq_true rfl) : JE X B ρ (.Tuple es x1 pos) m (fun b => .val (.tuple (arDs (as b)))) ρ' :=
  PE_imp (pe_tup h) fun σ H Q ⟨G, E, q⟩ => ⟨G, E, R.post_mono q fun b k vs G1 H1 x1 E1 ok => by
    have r := ok.ds (hs b)
    refine ⟨?_, fun p hp => k _ (upd G1 p (.tup vs)) _ (x1.trans (Ex.new (E1.sub.back hp))) ((E1.new hp _).push (.tup (.inl (.inl upd_same)) ?_))⟩
    · rw [r.len]
      exact Nat.le_of_lt (small1000 (hl b))
    · exact RpAll.ex (Ex.new (E1.sub.back hp)) r⟩
theorem je_lst {β : Type} {m : R β} {as : β → List Ar} {ρ' : β → List Slot} (h : JA X B ρ es m as ρ') (hs : ∀ b, noSlots (as b) = true := by intro _; rfl) (hl : ∀ b, (arDs (as b)).length ≤ 1000 := by intro _; exact of_decide_eq_true rfl) : JE X B ρ (.List es pos) m (fun b => .own 0 (.lst ((arDs (as b)).map OT.dat))) ρ' :=
  PE_imp (pe_lst h) fun σ H Q ⟨G, E, q⟩ => ⟨G, E, R.post_mono q fun b k vs G1 H1 x1 E1 ok => by
    have r := ok.ds (hs b)
    refine ⟨?_, fun p hp => k _ G1 _ x1 (E1.newL hp r)⟩
    rw [r.len]
    exact Nat.le_of_lt (small1000 (hl b))⟩
/-! ### calls -/
section
variable {CX : CXT} {k : Nat} {f : Addr} {fd : FuncData} {ps : List Str} {EE : XK} {x : Str} {p : Pos}
theorem je_call {α β γ : Type} {ins : α → List Slot} {mf : α → R β} {sl : β → Slot} {outs : β → List Slot} (F : FnG X.prog X.w X.K X.mg X.base CX k f fd ps (spM X.K ins mf sl outs)) (hr : RoomG k X.A) (hg : Gl X x) (hm : X.mg x = some (.ref f)) (hk : PySem.W.keepIn X.K (.ref f) = true)
    (hb : Binds X.K fd ps []) (hx : Passes CX X EE) {ma : R γ} {as : γ → List Ar} {ρa : γ → List Slot} (arg : γ → α) (ha : JA X B ρ (e :: es) ma as ρa) (hne : ∀ e, ¬ B.rs e) (hi : ∀ c, goodIn (ρa c) (as c) = true := by intro _; rfl) (hins : ∀ c, insAt 0 (ρa c) (as c) = ins (arg c) := by intro _; rfl)
    (ho : ∀ c b, goodOut 0 (as c) (outs b) = true := by intro _ _; rfl) (hal : ∀ c, aliOk (ρa c) (as c) = true := by intro _; rfl) (hres : ∀ b, resOk (sl b) = true := by intro _; rfl)
    (hdb : (x == ("__debug__" : Str)) = false := by decide) (he : starEach (e :: es) X.env = (false, eval e X.env) :: starEach es X.env := by rfl) (hpl : (backTo pos (starEach es X.env)).any (·.1) = false := by rfl) :
    JE X B ρ (.Call (.Name x p) (e :: es) [] pos) (ma.bind fun c => (mf (arg c)).bind fun b => .ok (c, b)) (fun y => sl y.2) (fun y => backAt (ρa y.1) (movedAt (ρa y.1) (as y.1)) (as y.1) (outs y.2)) :=
  PE_imp (pe_callG F hr hg hm hk hb hx ha hdb he hpl) fun σ H Q ⟨G, E, q⟩ => ⟨G, E, R.post_mono (R.post_bind.mp q) fun c k vs G1 H1 x1 E1 ok => by
    show spM X.K ins mf sl outs (vs ++ []) H1 Q EE
    rw [List.append_nil]
    exact call_sp (arg c) E1 ok (hi c) (hins c) (ho c) (hal c) hres hne (R.post_mono (R.post_bind.mp k) fun b k v G2 H2 x2 E2 => k v G2 H2 (x1.trans x2) E2)⟩
/-- its arguments pure -/
theorem je_callP {α β : Type} {ins : α → List Slot} {mf : α → R β} {sl : β → Slot} {outs : β → List Slot} (F : FnG X.prog X.w X.K X.mg X.base CX k f fd ps (spM X.K ins mf sl outs)) (hr : RoomG k X.A) (hg : Gl X x) (hm : X.mg x = some (.ref f)) (hk : PySem.W.keepIn X.K (.ref f) = true)
    (hb : Binds X.K fd ps []) (hx : Passes CX X EE) {as : List Ar} (arg : α) (ha : JA X B ρ (e :: es) (.ok ()) (fun _ => as) (fun _ => ρ)) (hne : ∀ e, ¬ B.rs e) (hi : goodIn ρ as = true := by rfl) (hins : insAt 0 ρ as = ins arg := by rfl)
    (ho : ∀ b, goodOut 0 as (outs b) = true := by intro _; rfl) (hal : aliOk ρ as = true := by rfl) (hres : ∀ b, resOk (sl b) = true := by intro _; rfl)
    (hdb : (x == ("__debug__" : Str)) = false := by decide) (he : starEach (e :: es) X.env = (false, eval e X.env) :: starEach es X.env := by rfl) (hpl : (backTo pos (starEach es X.env)).any (·.1) = false := by rfl) :
    JE X B ρ (.Call (.Name x p) (e :: es) [] pos) (mf arg) sl (fun y => backAt ρ (movedAt ρ as) as (outs y)) :=
  PE_imp (pe_callG F hr hg hm hk hb hx ha hdb he hpl) fun σ H Q ⟨G, E, q⟩ => ⟨G, E, fun vs G1 H1 x1 E1 ok => by
    show spM X.K ins mf sl outs (vs ++ []) H1 Q EE
    rw [List.append_nil]
    exact call_sp arg E1 ok hi hins ho hal hres hne (R.post_mono q fun b k v G2 H2 x2 E2 => k v G2 H2 (x1.trans x2) E2)⟩
end
end
end DL

/-! DL5: statements, loops -/
namespace DL
open PySem PySem.Spec L2

inductive Fl (N L T : Type) where
  | nx (n : N)
  | ct (l : L)
  | bk (l : L)
  | rt (t : T)
/-- how the ways out stand -/
structure Fin (N L T : Type) where
  n : N → List Slot
  c : L → List Slot
  k : L → List Slot
  s : T → Slot
  t : T → List Slot
def flP (K : PySem.W.Frag) (B : Base) (G : Hp) (D : Ends) {N L T : Type} (F : Fin N L T) : Fl N L T → Prop
  | .nx n => ∀ σ' G' H', Ex G G' → En K B G' H' σ' (F.n n) [] → D.nx σ' H'
  | .ct l => ∀ σ' G' H', Ex G G' → En K B G' H' σ' (F.c l) [] → D.ct σ' H'
  | .bk l => ∀ σ' G' H', Ex G G' → En K B G' H' σ' (F.k l) [] → D.bk σ' H'
  | .rt t => ∀ v σ' G' H', Ex G G' → En K B G' H' σ' (F.t t) [(v, F.s t)] → D.rt v H'
def tJS (K : PySem.W.Frag) (B : Base) (ρ : List Slot) {N L T : Type} (m : R (Fl N L T)) (F : Fin N L T) : TS := fun D σ H =>
  ∃ G, En K B G H σ ρ [] ∧ m.post (flP K B G D F) B.rs
def JS (X : Cx) (B : Base) (ρ : List Slot) (st : Stmt) {N L T : Type} (m : R (Fl N L T)) (F : Fin N L T) : Prop := PS X st (tJS X.K B ρ m F)
def JSs (X : Cx) (B : Base) (ρ : List Slot) (sts : List Stmt) {N L T : Type} (m : R (Fl N L T)) (F : Fin N L T) : Prop := PSs X sts (tJS X.K B ρ m F)
/-- a statement that just goes on -/
def tJ1 (K : PySem.W.Frag) (B : Base) (ρ : List Slot) {β : Type} (m : R β) (ρ' : β → List Slot) : TS := fun D σ H =>
  ∃ G, En K B G H σ ρ [] ∧ m.post (fun b => ∀ σ' G' H', Ex G G' → En K B G' H' σ' (ρ' b) [] → D.nx σ' H') B.rs
def J1 (X : Cx) (B : Base) (ρ : List Slot) (st : Stmt) {β : Type} (m : R β) (ρ' : β → List Slot) : Prop := PS X st (tJ1 X.K B ρ m ρ')
def bindF {N1 N L T : Type} (m : R (Fl N1 L T)) (k : N1 → R (Fl N L T)) : R (Fl N L T) := m.bind fun
  | .nx n => k n
  | .ct l => .ok (.ct l)
  | .bk l => .ok (.bk l)
  | .rt t => .ok (.rt t)
theorem flP_ex {K : PySem.W.Frag} {B : Base} {G G1 : Hp} {D : Ends} {N L T : Type} {F : Fin N L T} {f : Fl N L T} (h : flP K B G D F f) (e : Ex G G1) : flP K B G1 D F f := by
  cases f with
  | nx n => exact fun σ' G' H' x E => h σ' G' H' (e.trans x) E
  | ct n => exact fun σ' G' H' x E => h σ' G' H' (e.trans x) E
  | bk n => exact fun σ' G' H' x E => h σ' G' H' (e.trans x) E
  | rt n => exact fun v σ' G' H' x E => h v σ' G' H' (e.trans x) E
section
variable {X : Cx} {B : Base} {ρ : List Slot} {st : Stmt} {rest : List Stmt} {N N1 L T β : Type} {F : Fin N L T} {pos : Pos} {e : Expr}
theorem js_nil (bs : List Bool) (n : N) (h : forgot ρ bs = F.n n := by rfl) : JSs X B ρ [] (.ok (.nx n)) F :=
  PSs_imp pss_nil fun D σ H ⟨G, E, q⟩ => q σ G H (Ex.refl G) (by
    rw [← h]
    exact E.forgot bs)
theorem js_one {m : R (Fl N L T)} (h : JS X B ρ st m F) : JSs X B ρ [st] m F := pss_one h
theorem js_cons1 {m : R β} {ρ' : β → List Slot} {k : β → R (Fl N L T)} (h : J1 X B ρ st m ρ') (r : ∀ b, JSs X B (ρ' b) rest (k b) F) : JSs X B ρ (st :: rest) (m.bind k) F := by
  have r' : PSs X rest (fun D σ H => ∃ b, tJS X.K B (ρ' b) (k b) F D σ H) := ⟨fun pins s σ H D I ⟨b, q⟩ => (r b).run pins s σ H D I q⟩
  exact PSs_imp (pss_cons h r') fun D σ H ⟨G, E, q⟩ => ⟨G, E, R.post_mono (R.post_bind.mp q) fun b q1 σ' G' H' x E' => ⟨b, G', E', R.post_mono q1 fun f q2 => flP_ex q2 x⟩⟩
theorem js_cons {m : R (Fl N1 L T)} {ρ1 : N1 → List Slot} {k : N1 → R (Fl N L T)} (h : JS X B ρ st m ⟨ρ1, F.c, F.k, F.s, F.t⟩) (r : ∀ n, JSs X B (ρ1 n) rest (k n) F) : JSs X B ρ (st :: rest) (bindF m k) F := by
  have r' : PSs X rest (fun D σ H => ∃ b, tJS X.K B (ρ1 b) (k b) F D σ H) := ⟨fun pins s σ H D I ⟨b, q⟩ => (r b).run pins s σ H D I q⟩
  exact PSs_imp (pss_cons h r') fun D σ H ⟨G, E, q⟩ => ⟨G, E, R.post_mono (R.post_bind.mp q) fun f q1 => by
    cases f with
    | nx n => exact fun σ' G' H' x E' => ⟨n, G', E', R.post_mono q1 fun f q2 => flP_ex q2 x⟩
    | ct n => exact q1
    | bk n => exact q1
    | rt n => exact q1⟩
theorem js_ret {m : R β} {sl : β → Slot} {ρ' : β → List Slot} (f : β → T) (bs : List Bool) (h : JE X B ρ e m sl ρ') (hs : ∀ b, F.s (f b) = sl b := by intro _; rfl) (ht : ∀ b, forgot (ρ' b) bs = F.t (f b) := by intro _; rfl) : JS X B ρ (.Return (some e) pos) (m.bind fun b => .ok (.rt (f b))) F :=
  PS_imp (ps_ret h) fun D σ H ⟨G, E, q⟩ => ⟨G, E, R.post_mono (R.post_bind.mp q) fun b q1 v G' H' x E' => q1 v σ G' H' x (by
    rw [hs b, ← ht b]
    obtain ⟨A, c, nd, f'⟩ := E'.own
    cases c with
    | @cons _ _ A1 _ _ A2 c1 cr =>
      obtain ⟨A3, h1, h2⟩ := Cells.forgot bs (show Cells X.K B G' H' σ (ρ' b) A2 from cr)
      have sub : (A1 ++ A3).Sublist (A1 ++ A2) := h2.append_left A1
      refine ⟨E'.anc, ⟨A1 ++ A3, .cons c1 h1, sub.nodup nd, fun a m => f' a (sub.subset m)⟩, by rw [forgot_len]; exact E'.len, fun i j p e => ?_⟩
      rcases forgot_get (ρ' b) bs i _ e with z | z
      · cases z
      · exact E'.ali i j p z)⟩
theorem js_if {c : Expr} {a b : List Stmt} {mc : R β} {bn : β → Bool} {ρ' : β → List Slot} {ma mb : β → R (Fl N L T)} (h : JT X B ρ c mc bn ρ') (ha : ∀ x, JSs X B (ρ' x) a (ma x) F) (hb : ∀ x, JSs X B (ρ' x) b (mb x) F) :
    JS X B ρ (.If c a b pos) (mc.bind fun x => if bn x = true then ma x else mb x) F := by
  have ha' : PSs X a (fun D σ H => ∃ x, tJS X.K B (ρ' x) (ma x) F D σ H) := ⟨fun pins s σ H D I ⟨x, q⟩ => (ha x).run pins s σ H D I q⟩
  have hb' : PSs X b (fun D σ H => ∃ x, tJS X.K B (ρ' x) (mb x) F D σ H) := ⟨fun pins s σ H D I ⟨x, q⟩ => (hb x).run pins s σ H D I q⟩
  refine PS_imp (ps_if h ha' hb') fun D σ H ⟨G, E, q⟩ => ⟨G, E, R.post_mono (R.post_bind.mp q) fun x q1 G' H' y E' => ?_⟩
  cases hx : bn x with
  | true =>
    rw [if_pos hx] at q1
    exact ⟨x, G', E', R.post_mono q1 fun f q2 => flP_ex q2 y⟩
  | false =>
    rw [if_neg (by rw [hx]; decide)] at q1
    exact ⟨x, G', E', R.post_mono q1 fun f q2 => flP_ex q2 y⟩
/-- the test pure -/
theorem js_ifP {c : Expr} {a b : List Stmt} {t : Bool} {ma mb : R (Fl N L T)} (h : TP0 X B ρ c t) (ha : JSs X B ρ a ma F) (hb : JSs X B ρ b mb F) : JS X B ρ (.If c a b pos) (if t = true then ma else mb) F :=
  js_if (mc := .ok ()) (bn := fun _ => t) (ma := fun _ => ma) (mb := fun _ => mb) h (fun _ => ha) fun _ => hb
theorem js_break {F : Fin N L T} (bs : List Bool) (l : L) (h : forgot ρ bs = F.k l := by rfl) : JS X B ρ (.Break pos) (.ok (.bk l)) F :=
  PS_imp ps_break fun D σ H ⟨G, E, q⟩ => q σ G H (Ex.refl G) (by
    rw [← h]
    exact E.forgot bs)
theorem js_continue {F : Fin N L T} (bs : List Bool) (l : L) (h : forgot ρ bs = F.c l := by rfl) : JS X B ρ (.Continue pos) (.ok (.ct l)) F :=
  PS_imp ps_continue fun D σ H ⟨G, E, q⟩ => q σ G H (Ex.refl G) (by
    rw [← h]
    exact E.forgot bs)
theorem j1_pass : J1 X B ρ (.Pass pos) (.ok ()) (fun _ => ρ) := PS_imp ps_pass fun D σ H ⟨G, E, q⟩ => q σ G H (Ex.refl G) E
theorem j1_expr {m : R β} {sl : β → Slot} {ρ' : β → List Slot} (h : JE X B ρ e m sl ρ') (hs : swapsWith e none pos.line X.env = pure false := by rfl) : J1 X B ρ (.Expr e pos) m ρ' :=
  PS_imp (ps_expr h hs) fun D σ H ⟨G, E, q⟩ => ⟨G, E, R.post_mono q fun b q1 v G' H' x E' => q1 σ G' H' x E'.pop⟩
/-- x = e -/
theorem j1_set (i : Nat) {x : Str} {pos' : Pos} {m : R β} {sl : β → Slot} {ρ' : β → List Slot} (hN : X.N.Nodup) (h : JE X B ρ e m sl ρ') (hi : X.N[i]? = some x := by rfl) (hx : Loc X.env.scope x := by first | exact Or.inl rfl | exact Or.inr rfl)
    (hlt : ∀ b, i < (ρ' b).length := by intro _; exact of_decide_eq_true rfl) (hal : ∀ b, noAli i (ρ' b) = true := by intro _; rfl) (hres : ∀ b, resOk (sl b) = true := by intro _; rfl)
    (hs : swapsWith e (some (.Name x pos')) pos.line X.env = pure false := by rfl) (hf : X.fn x = true ∨ X.env.scope.names.lookup x = some .local := by first | exact .inl rfl | exact .inr rfl) : J1 X B ρ (.Assign [.Name x pos'] e pos) m (fun b => (ρ' b).set i (sl b)) :=
  PS_imp (ps_set (i := i) hN hi hx h (hs := hs) (hf := hf)) fun D σ H ⟨G, E, q⟩ => ⟨G, E, R.post_mono q fun b q1 v G' H' x E' => q1 (σ.set i (some v)) G' H' x (E'.set (hlt b) (fun j p z => by
    have := hres b
    rw [z] at this
    cases this) (hal b))⟩
end
end DL

/-! DL6: targets, loops -/
namespace DL
open PySem PySem.Spec L2

section
variable {K : PySem.W.Frag} {B : Base} {G G' H H' : Hp} {σ : L2.St} {ρ : List Slot} {ex : List (V × Slot)}
/-- an owned list of data, changed to another one of data -/
theorem own_dats : ∀ {vs : List V} {ds : List D}, RpAll K G vs ds → OwnAll K G H vs (ds.map OT.dat) []
  | _, _, .nil => .nil
  | _, _, .cons h r => .cons (A := []) (A' := []) (.dat h) (own_dats r)
theorem own_dats_inv : ∀ {vs : List V} {ds : List D} {A : List Addr}, OwnAll K G H vs (ds.map OT.dat) A → A = [] ∧ RpAll K G vs ds
  | _, [], _, h => by
    cases h
    exact ⟨rfl, .nil⟩
  | _, d :: ds, _, h => by
    cases h with
    | cons h r =>
      cases h with
      | dat h =>
        obtain ⟨e, r⟩ := own_dats_inv r
        exact ⟨by rw [e]; rfl, .cons h r⟩
theorem En.ownD (E : En K B G H σ ρ ex) {i l : Nat} {ds : List D} (h : ρ[i]? = some (.own l (.lst (ds.map OT.dat)))) (hal : noAlis ρ = true) : ∃ p vs, σ[i]? = some (some (.ref p)) ∧ H p = some (.lst vs) ∧ RpAll K G vs ds ∧
    ∀ G' H1 ex' vs' ds', En K B G' H1 σ ρ ex' → Ex G G' → H1 p = some (.lst vs) → RpAll K G' vs' ds' → En K B G' (upd H1 p (.lst vs')) σ (ρ.set i (.own l (.lst (ds'.map OT.dat)))) ex' := by
  obtain ⟨A, c, n, f⟩ := E.own
  have gen : ∀ {G H : Hp} {ex : List (V × Slot)} {A : List Addr}, Cells K B G H (ex.map (fun p => some p.1) ++ σ) (ex.map (·.2) ++ ρ) A → ∃ p vs A1 A2, σ[i]? = some (some (.ref p)) ∧ H p = some (.lst vs) ∧ RpAll K G vs ds ∧ A1 = [p] ∧ ((p ∈ B.Mo l ∨ B.H0 p = none) ∧ (l = 0 ∨ B.pv l = some (.ref p))) ∧
      Cells K B G H (ex.map (fun p => some p.1) ++ σ) ((ex.map (·.2) ++ ρ).set (ex.length + i) .non) A2 ∧ A.Perm (A1 ++ A2) := fun {G H ex A} c => by
    obtain ⟨v, A1, A2, e1, hO, ⟨hl, hv⟩, c2, p⟩ := c.take1 (i := ex.length + i) (l := l) (o := .lst (ds.map OT.dat)) (by
      rw [List.getElem?_append_right (by simp), List.length_map]
      simpa using h)
    rw [List.getElem?_append_right (by simp), List.length_map] at e1
    cases hO with
    | @lst a vs _ A3 ha hall =>
      obtain ⟨e3, r⟩ := own_dats_inv hall
      subst e3
      exact ⟨a, vs, [a], A2, by simpa using e1, ha, r, rfl, ⟨hl a (by simp), hv⟩, c2, p⟩
  obtain ⟨p, vs, A1, A2, e1, e2, e3, e4, e5, c2, pm⟩ := gen c
  refine ⟨p, vs, e1, e2, e3, fun G' H1 ex' vs' ds' E' hG hp r' => ?_⟩
  obtain ⟨A', c', n', f'⟩ := E'.own
  obtain ⟨q, ws, B1, B2, g1, g2, g3, g4, g5, d2, pm'⟩ := gen c'
  have epq : q = p := by
    have z := g1.symm.trans e1
    injection z with z
    injection z with z
    injection z
  subst epq
  subst g4
  have nq := pm'.nodup_iff.mp n'
  have nq2 : q ∉ B2 := (List.nodup_cons.mp nq).1
  have fq : G' q = none := f' q (pm'.mem_iff.mpr (by simp))
  have d3 : Cells K B G' (upd H1 q (.lst vs')) (ex'.map (fun p => some p.1) ++ σ) ((ex'.map (·.2) ++ ρ).set (ex'.length + i) .non) B2 := d2.ex (Ex.refl _) fun a m u e => by
    rw [upd_ne (fun z => nq2 (by rw [← z]; exact m))]
    exact e
  have hi : i < ρ.length := (List.getElem?_eq_some_iff.mp h).1
  obtain ⟨A3, c3, p3⟩ := d3.put1 (i := ex'.length + i) (l := l) (o := .lst (ds'.map OT.dat)) (v := .ref q) (A1 := [q]) (by
      rw [List.getElem?_set_self (by simp; omega)]) (by
      rw [List.getElem?_append_right (by simp), List.length_map]
      simpa using g1) (.lst upd_same (own_dats r')) ⟨fun a m => by
      rw [List.mem_singleton.mp m]
      exact g5.1, g5.2⟩
  rw [List.set_set, List.set_append_right _ _ (by simp), List.length_map, Nat.add_sub_cancel_left] at c3
  refine ⟨E'.anc.put fq (g5.1.imp (fun z => ⟨l, z⟩) id) _, ⟨A3, c3, p3.nodup_iff.mpr nq, fun a m => ?_⟩, by rw [List.length_set]; exact E'.len, fun k j pa e => ?_⟩
  · exact f' a (pm'.mem_iff.mpr (p3.mem_iff.mp m))
  · have hk : i ≠ k := fun z => by
      subst z
      rw [List.getElem?_set_self hi] at e
      cases e
    rw [List.getElem?_set_ne hk] at e
    exact absurd e (noAlis_get hal)
end
/-! ### targets -/
def tJG (K : PySem.W.Frag) (B : Base) (ρ : List Slot) (d : D) {γ : Type} (m : R γ) (ρ' : γ → List Slot) : TG := fun v σ H Q =>
  ∃ G, En K B G H σ ρ [] ∧ Rp K G v d ∧ m.post (fun c => ∀ σ' G' H', Ex G G' → En K B G' H' σ' (ρ' c) [] → Q σ' H') B.rs
def JG (X : Cx) (B : Base) (ρ : List Slot) (tg : Expr) (d : D) {γ : Type} (m : R γ) (ρ' : γ → List Slot) : Prop := PG X tg (tJG X.K B ρ d m ρ')
def tJGs (K : PySem.W.Frag) (B : Base) (ρ : List Slot) (ds : List D) {γ : Type} (m : R γ) (ρ' : γ → List Slot) : TGs := fun vs σ H Q =>
  ∃ G, En K B G H σ ρ [] ∧ RpAll K G vs ds ∧ m.post (fun c => ∀ σ' G' H', Ex G G' → En K B G' H' σ' (ρ' c) [] → Q σ' H') B.rs
def JGs (X : Cx) (B : Base) (ρ : List Slot) (ts : List Expr) (ds : List D) {γ : Type} (m : R γ) (ρ' : γ → List Slot) : Prop := PGs X ts (tJGs X.K B ρ ds m ρ')
section
variable {X : Cx} {B : Base} {ρ : List Slot} {pos : Pos} {e a b : Expr}
theorem PG_imp {e : Expr} {t t' : TG} (h : PG X e t) (k : ∀ v σ H Q, t' v σ H Q → t v σ H Q) : PG X e t' := ⟨fun pins s σ H v u Q I r q => h.run pins s σ H v u Q I r (k v σ H Q q)⟩
theorem PGs_imp {e : List Expr} {t t' : TGs} (h : PGs X e t) (k : ∀ v σ H Q, t' v σ H Q → t v σ H Q) : PGs X e t' := ⟨fun pins s σ H v u Q I r q => h.run pins s σ H v u Q I r (k v σ H Q q)⟩
theorem jg_name (i : Nat) {x : Str} {d : D} (hN : X.N.Nodup) (hi : X.N[i]? = some x := by rfl) (hx : Loc X.env.scope x := by first | exact Or.inl rfl | exact Or.inr rfl) (hf : X.fn x = true ∨ X.env.scope.names.lookup x = some .local := by first | exact .inl rfl | exact .inr rfl)
    (hlt : i < ρ.length := by exact of_decide_eq_true rfl) (hal : noAli i ρ = true := by rfl) : JG X B ρ (.Name x pos) d (.ok ()) (fun _ => ρ.set i (.val d)) :=
  PG_imp (pg_name (i := i) hN hi hx hf) fun v σ H Q ⟨G, E, r, q⟩ => q (σ.set i (some v)) G H (Ex.refl G) ((E.push r).set hlt (fun _ _ z => nomatch z) hal)
theorem jgs_nil : JGs X B ρ [] [] (.ok ()) (fun _ => ρ) := PGs_imp pgs_nil fun vs σ H Q ⟨G, E, r, q⟩ => by
  cases r
  exact ⟨rfl, q σ G H (Ex.refl G) E⟩
theorem jgs_cons {es : List Expr} {d : D} {ds : List D} {γ δ : Type} {m : R γ} {ρ1 : γ → List Slot} {m2 : γ → R δ} {ρ2 : γ → δ → List Slot} (h : JG X B ρ e d m ρ1) (t : ∀ c, JGs X B (ρ1 c) es ds (m2 c) (ρ2 c))
    (hs : (assignEach (e :: es) X.env).map (·.2) = assign e X.env :: (assignEach es X.env).map (·.2) := by rfl) : JGs X B ρ (e :: es) (d :: ds) (m.bind fun c => (m2 c).bind fun c2 => .ok (c, c2)) (fun p => ρ2 p.1 p.2) := by
  have t' : PGs X es (fun vs σ H Q => ∃ c, tJGs X.K B (ρ1 c) ds (m2 c) (ρ2 c) vs σ H Q) := ⟨fun pins s σ H vs us Q I r ⟨c, q⟩ => (t c).run pins s σ H vs us Q I r q⟩
  refine PGs_imp (pgs_cons h t' hs) fun vs σ H Q ⟨G, E, r, q⟩ => ?_
  cases r with
  | cons r rr => exact ⟨_, _, rfl, G, E, r, R.post_mono (R.post_bind.mp q) fun c q1 σ' G' H' x E' => ⟨c, G', E', rr.ex x, R.post_mono (R.post_bind.mp q1) fun c2 q2 σ2 G2 H2 x2 E2 => q2 σ2 G2 H2 (x.trans x2) E2⟩⟩
/-- the first target a name -/
theorem jgs_p {es : List Expr} {d : D} {ds : List D} {δ : Type} {ρ1 : List Slot} {m2 : R δ} {ρ2 : δ → List Slot} (h : JG X B ρ e d (.ok ()) (fun _ => ρ1)) (t : JGs X B ρ1 es ds m2 ρ2)
    (hs : (assignEach (e :: es) X.env).map (·.2) = assign e X.env :: (assignEach es X.env).map (·.2) := by rfl) : JGs X B ρ (e :: es) (d :: ds) m2 ρ2 := by
  refine PGs_imp (pgs_cons h t hs) fun vs σ H Q ⟨G, E, r, q⟩ => ?_
  cases r with
  | cons r rr => exact ⟨_, _, rfl, G, E, r, fun σ' G' H' x E' => ⟨G', E', rr.ex x, R.post_mono q fun c2 q2 σ2 G2 H2 x2 E2 => q2 σ2 G2 H2 (x.trans x2) E2⟩⟩
theorem jg_tup {es : List Expr} {k : Nat} {ds : List D} {γ : Type} {m : R γ} {ρ' : γ → List Slot} (hc : X.calm = true) (h : JGs X B ρ es ds m ρ') (hn : (assignEach es X.env).length = ds.length := by rfl) (hst : (assignEach es X.env).findIdx? (·.1) = none := by rfl) : JG X B ρ (.Tuple es k pos) (.tuple ds) m ρ' :=
  PG_imp (pg_tup (n := ds.length) hc h hn hst) fun v σ H Q ⟨G, E, r, q⟩ => by
    obtain ⟨a, xs, rfl, hS, hr⟩ := r.tup_inv
    exact ⟨a, xs, rfl, E.sub.t hS, hr.len, G, E, hr, q⟩
/-- targets = e -/
theorem j1_asg {tg : Expr} {β γ : Type} {m : R β} {d : β → D} {ρ' : β → List Slot} {m2 : β → R γ} {ρ2 : β → γ → List Slot} (h : JE X B ρ e m (fun b => .val (d b)) ρ') (g : ∀ b, JG X B (ρ' b) tg (d b) (m2 b) (ρ2 b))
    (hs : swapsWithSole [tg] e pos.line X.env = pure false := by rfl) (hw : swappedStores [tg] e X.env = pure none := by rfl) (h1 : (assignEach [tg] X.env).map (·.2) = [assign tg X.env] := by rfl) : J1 X B ρ (.Assign [tg] e pos) (m.bind fun b => (m2 b).bind fun c => .ok (b, c)) (fun p => ρ2 p.1 p.2) := by
  have g' : PG X tg (fun v σ H Q => ∃ b, tJG X.K B (ρ' b) (d b) (m2 b) (ρ2 b) v σ H Q) := ⟨fun pins s σ H v u Q I r ⟨b, q⟩ => (g b).run pins s σ H v u Q I r q⟩
  exact PS_imp (ps_asg h g' hs hw h1) fun D σ H ⟨G, E, q⟩ => ⟨G, E, R.post_mono (R.post_bind.mp q) fun b q1 v G' H' x E' => ⟨b, G', E'.pop, E'.top, R.post_mono (R.post_bind.mp q1) fun c q2 σ2 G2 H2 x2 E2 => q2 σ2 G2 H2 (x.trans x2) E2⟩⟩

/-- all targets names -/
theorem j1_asgN {tg : Expr} {β : Type} {m : R β} {d : β → D} {ρ' : β → List Slot} {ρ2 : β → List Slot} (h : JE X B ρ e m (fun b => .val (d b)) ρ') (g : ∀ b, JG X B (ρ' b) tg (d b) (.ok ()) (fun _ => ρ2 b))
    (hs : swapsWithSole [tg] e pos.line X.env = pure false := by rfl) (hw : swappedStores [tg] e X.env = pure none := by rfl) (h1 : (assignEach [tg] X.env).map (·.2) = [assign tg X.env] := by rfl) : J1 X B ρ (.Assign [tg] e pos) m ρ2 := by
  have g' : PG X tg (fun v σ H Q => ∃ b, tJG X.K B (ρ' b) (d b) (.ok ()) (fun _ => ρ2 b) v σ H Q) := ⟨fun pins s σ H v u Q I r ⟨b, q⟩ => (g b).run pins s σ H v u Q I r q⟩
  exact PS_imp (ps_asg h g' hs hw h1) fun D σ H ⟨G, E, q⟩ => ⟨G, E, R.post_mono q fun b q1 v G' H' x E' => ⟨b, G', E'.pop, E'.top, fun σ2 G2 H2 x2 E2 => q1 σ2 G2 H2 (x.trans x2) E2⟩⟩
/-- a, b = x, y: plain local names -/
theorem j1_par (i j : Nat) {x y : Str} {px py pt : Pos} {kt k2 : Nat} {pt2 : Pos} {β : Type} {m : R β} {as : β → List Ar} {ρ' : β → List Slot} {d1 d2 : β → D} (hc : X.calm = true) (hN : X.N.Nodup) (ha : JA X B ρ [a, b] m as ρ') (hd : ∀ c, as c = [.val (d1 c), .val (d2 c)] := by intro _; rfl)
    (hi : X.N[i]? = some x := by rfl) (hj : X.N[j]? = some y := by rfl) (hij : i ≠ j := by decide)
    (hx : X.env.scope.names.lookup x = some .local := by rfl) (hy : X.env.scope.names.lookup y = some .local := by rfl) (hw : swappedStores [.Tuple [.Name x px, .Name y py] kt pt] (.Tuple [a, b] k2 pt2) X.env = pure (some [x, y]) := by rfl)
    (hs : swapsWithSole [.Tuple [.Name x px, .Name y py] kt pt] (.Tuple [a, b] k2 pt2) pos.line X.env = pure false := by rfl) (hli : ∀ c, i < (ρ' c).length := by intro _; exact of_decide_eq_true rfl) (hlj : ∀ c, j < (ρ' c).length := by intro _; exact of_decide_eq_true rfl)
    (hai : ∀ c, noAli i (ρ' c) = true := by intro _; rfl) (haj : ∀ c, noAli j ((ρ' c).set i (.val (d1 c))) = true := by intro _; rfl) :
    J1 X B ρ (.Assign [.Tuple [.Name x px, .Name y py] kt pt] (.Tuple [a, b] k2 pt2) pos) m (fun c => ((ρ' c).set i (.val (d1 c))).set j (.val (d2 c))) :=
  PS_imp (ps_par hc hN hi hj hij hx hy ha hw hs) fun D σ H ⟨G, E, q⟩ => ⟨G, E, R.post_mono q fun c q1 vs G' H' z E' ok => by
    rw [hd c] at ok
    cases ok with
    | val r1 ok =>
      cases ok with
      | val r2 ok =>
        cases ok
        refine ⟨_, _, rfl, q1 _ G' H' z ?_⟩
        have E1 := (E'.push r1).set (hli c) (fun _ _ z => nomatch z) (hai c)
        exact (E1.push r2).set (by rw [List.length_set]; exact hlj c) (fun _ _ z => nomatch z) (haj c)⟩
/-- o[k] = .., o an owned list of data -/
theorem jg_sub (i : Nat) {x : Str} {px : Pos} {l : Nat} {α : Type} {en : α → D} {xs : List α} {y : α} {k : Int} {o2 : Expr} (h : ρ[i]? = some (.own l (.lst ((xs.map en).map OT.dat))) := by rfl) (hk : JP X B ρ o2 (.int k)) (hal : noAlis ρ = true := by rfl) (hN : X.N[i]? = some x := by rfl)
    (hv : Vis X.env.scope x := by first | exact Or.inl rfl | exact Or.inr (Or.inl rfl) | exact Or.inr (Or.inr rfl)) (hd : (x == ("__debug__" : Str)) = false := by decide) (hcd : (x == ("__classdict__" : Str)) = false := by decide)
    (ha : ∀ v, assign (.Subscript (.Name x px) o2 pos) X.env v = (do
      let ov ← holding [v] (eval (.Name x px) X.env)
      let iv ← holding [v, ov] (eval o2 X.env)
      standAt pos
      holding [v, ov, iv] (setItem ov iv v)
      release [v, ov, iv] []) := by intro _; rfl) :
    JG X B ρ (.Subscript (.Name x px) o2 pos) (en y) (R.some (ixN xs.length k)) (fun j => ρ.set i (.own l (.lst (((xs.set j y).map en).map OT.dat)))) :=
  PG_imp (pg_sub (pv i hN hv hd hcd) hk set_list ha) fun v σ H Q ⟨G, E, r, q⟩ => by
    obtain ⟨p, vs, e1, e2, e3, e4⟩ := E.ownD h hal
    obtain ⟨j, hj, q⟩ := R.post_some q
    refine ⟨.ref p, e1, G, E, fun w G1 H1 x1 E1 => ?_⟩
    have hn := E1.top.int_inv
    obtain ⟨p', vs', g1, g2, g3, g4⟩ := E1.pop.ownD h hal
    have ep : p' = p := by
      have z := g1.symm.trans e1
      injection z with z
      injection z with z
      injection z
    subst ep
    have hl : vs'.length = xs.length := by
      rw [g3.len, List.length_map]
    refine ⟨p', vs', k, j, rfl, hn, g2, by rw [hl]; exact hj, q σ G1 _ x1 ?_⟩
    have rs : ∀ {vs : List V} {ds : List D} (j : Nat), RpAll X.K G1 vs ds → RpAll X.K G1 (vs.set j v) (ds.set j (en y)) := by
      intro vs ds j h
      induction ds generalizing vs j with
      | nil =>
        cases h
        exact .nil
      | cons d ds ih =>
        cases h with
        | cons h1 h2 =>
          cases j with
          | zero => exact .cons (r.ex x1) h2
          | succ j => exact .cons h1 (ih j h2)
    have := g4 G1 H1 [] (vs'.set j v) ((xs.map en).set j (en y)) E1.pop (Ex.refl _) g2 (rs j g3)
    rw [← List.map_set] at this
    exact this
end
/-! ### loops -/
def forR {α S L T : Type} (f : α → S → R (Fl S S T)) : List α → S → R (Fl S L T)
  | [], s => .ok (.nx s)
  | x :: xs, s => (f x s).bind fun
    | .nx s' => forR f xs s'
    | .ct s' => forR f xs s'
    | .bk s' => .ok (.nx s')
    | .rt t => .ok (.rt t)
/-- an iterator that yields data -/
structure Yld (K : PySem.W.Frag) (J : It) (G : Hp) (ds : List D) : Prop where
  go : ∀ i H, i < ds.length → Ex G H → J.go i H
  stop : ∀ i H, ds.length ≤ i → Ex G H → J.stop i H
  yld : ∀ (B : Base) i G1 H1 σ ρ x H', Ex G G1 → En K B G1 H1 σ ρ [] → J.yld i H1 x H' → ∀ d, ds[i]? = some d → ∃ G2, Ex G1 G2 ∧ En K B G2 H' σ ρ [] ∧ Rp K G2 x d
def tJI (K : PySem.W.Frag) (B : Base) (ρ : List Slot) {β : Type} (m : R β) (ds : β → List D) (ρ' : β → List Slot) : TI := fun σ H Q =>
  ∃ G, En K B G H σ ρ [] ∧ m.post (fun b => ∀ J G' H', Ex G G' → En K B G' H' σ (ρ' b) [] → Yld K J G' (ds b) → Q J H') B.rs
def JI (X : Cx) (B : Base) (ρ : List Slot) (tg it : Expr) {β : Type} (m : R β) (ds : β → List D) (ρ' : β → List Slot) : Prop := PI X tg it (tJI X.K B ρ m ds ρ')
section
variable {X : Cx} {B : Base} {ρ : List Slot} {pos : Pos} {e a b tg it : Expr}
theorem PI_imp {t t' : TI} (h : PI X tg it t) (k : ∀ σ H Q, t' σ H Q → t σ H Q) : PI X tg it t' := ⟨fun pins s σ H Q I q => h.run pins s σ H Q I (k σ H Q q)⟩
theorem js_for {α β S L T : Type} {m : R β} {xs : β → List α} {en : α → D} {ρ' : β → List Slot} {s0 : β → S} (ρS : S → List Slot) (ρB : α → S → List Slot) {f : α → S → R (Fl S S T)} {F : Fin S L T} {body : List Stmt} (hp : PassesOwn (model X.prog X.w) X.A X.env X.xe) (hc : X.calm = true)
    (hi : JI X B ρ tg it m (fun b => (xs b).map en) ρ') (bs : List Bool) (hw : ∀ b, forgot (ρ' b) bs = ρS (s0 b)) (hg : ∀ x s, JG X B (ρS s) tg (en x) (.ok ()) (fun _ => ρB x s))
    (hb : ∀ x s, JSs X B (ρB x s) body (f x s) ⟨ρS, ρS, ρS, F.s, F.t⟩) (hn : F.n = ρS := by rfl) (hs : ∀ v, foldedSetIterable it X.env v = pure v := by intro _; rfl) : JS X B ρ (.For tg it body [] pos) (m.bind fun b => forR f (xs b) (s0 b)) F := by
  have hg' : PG X tg (fun v σ H Q => ∃ x s, tJG X.K B (ρS s) (en x) (.ok ()) (fun _ => ρB x s) v σ H Q) := ⟨fun pins s σ H v u Q I r ⟨x, s', q⟩ => (hg x s').run pins s σ H v u Q I r q⟩
  have hb' : PSs X body (fun D σ H => ∃ x s, tJS X.K B (ρB x s) (f x s) ⟨ρS, ρS, ρS, F.s, F.t⟩ D σ H) := ⟨fun pins s σ H D I ⟨x, s', q⟩ => (hb x s').run pins s σ H D I q⟩
  refine PS_imp (ps_for hp hc hi hg' hb' hs) fun D σ H ⟨G, E, q⟩ => ⟨G, E, R.post_mono (R.post_bind.mp q) fun b q1 J G' H' xG E' Y => ?_⟩
  have hlen : ((xs b).map en).length = (xs b).length := List.length_map _
  let W : Nat → L2.St → Hp → Prop := fun i σ' H1 => ∃ G1 s, Ex G' G1 ∧ En X.K B G1 H1 σ' (ρS s) [] ∧ (forR f ((xs b).drop i) s).post (flP X.K B G1 D F) B.rs
  refine ⟨fun i mm σ' H1 => mm = (xs b).length - i ∧ i ≤ (xs b).length ∧ W i σ' H1, ⟨_, rfl, Nat.zero_le _, G', s0 b, Ex.refl _, by rw [← hw b]; exact E'.forgot bs, R.post_mono q1 fun fl h => flP_ex h xG⟩, ?_⟩
  rintro i mm σ1 H1 ⟨rfl, hi1, G1, s, x1, E1, q2⟩
  have nxt : ∀ G2 s', Ex G' G2 → i < (xs b).length → (forR f ((xs b).drop (i + 1)) s').post (flP X.K B G2 D F) B.rs → ∀ σ' G3 H', Ex G2 G3 → En X.K B G3 H' σ' (ρS s') [] → W (i + 1) σ' H' := fun G2 s' y hlt h σ' G3 H' z E3 => ⟨G3, s', y.trans z, E3, R.post_mono h fun fl h => flP_ex h z⟩
  by_cases hlt : i < (xs b).length
  · refine .inr ⟨Y.go i H1 (by rw [hlen]; exact hlt) (x1.trans E1.sub), fun σ' H' => W (i + 1) σ' H', fun σ' H' w => ⟨_, ?_, rfl, hlt, w⟩, fun v H2 hy => ?_⟩
    · omega
    · have hd : ((xs b).map en)[i]? = some (en (xs b)[i]) := by rw [List.getElem?_map, List.getElem?_eq_getElem hlt]; rfl
      obtain ⟨G2, x2, E2, r2⟩ := Y.yld B i G1 H1 σ1 (ρS s) v H2 x1 E1 hy _ hd
      rw [List.drop_eq_getElem_cons hlt] at q2
      refine ⟨(xs b)[i], s, G2, E2, r2, fun σ' G3 H3 x3 E3 => ⟨(xs b)[i], s, G3, E3, R.post_mono (R.post_bind.mp q2) fun fl q3 => ?_⟩⟩
      have x13 := x2.trans x3
      have up : ∀ {m' : R (Fl S L T)}, m'.post (flP X.K B G1 D F) B.rs → m'.post (flP X.K B G3 D F) B.rs := fun h => R.post_mono h fun fl h => flP_ex h x13
      cases fl with
      | nx s' => exact nxt G3 s' (x1.trans x13) hlt (up q3)
      | ct s' => exact nxt G3 s' (x1.trans x13) hlt (up q3)
      | bk s' =>
        intro σ4 G4 H4 x4 E4
        have q3 : flP X.K B G1 D F (.nx s') := q3
        refine q3 σ4 G4 H4 (x13.trans x4) ?_
        rw [hn]
        exact E4
      | rt t =>
        intro v σ4 G4 H4 x4 E4
        have q3 : flP X.K B G1 D F (.rt t) := q3
        exact q3 v σ4 G4 H4 (x13.trans x4) E4
  · refine .inl ⟨Y.stop i H1 (by rw [hlen]; omega) (x1.trans E1.sub), ?_⟩
    rw [List.drop_eq_nil_of_le (by omega)] at q2
    have q2 : flP X.K B G1 D F (.nx s) := q2
    refine q2 σ1 G1 H1 (Ex.refl _) ?_
    rw [hn]
    exact E1
/-! what is walked -/
theorem yld_tup {K : PySem.W.Frag} {G : Hp} {a : Addr} {xs : List V} {ds : List D} (h : SqT K G a xs) (hr : RpAll K G xs ds) : Yld K (Itt K a) G ds where
  go := fun i H hi e => ⟨xs, xs[i]'(by rw [hr.len]; exact hi), e.t h, List.getElem?_eq_getElem _⟩
  stop := fun i H hi e => ⟨xs, e.t h, by rw [hr.len]; exact hi⟩
  yld := fun B i G1 H1 σ ρ x H' e E hy d hd => by
    obtain ⟨rfl, f⟩ := hy
    have := f xs ((e.trans E.sub).t h)
    obtain ⟨v, h1, h2⟩ := hr.get hd
    rw [this] at h1
    cases h1
    exact ⟨G1, Ex.refl _, E, h2.ex e⟩
theorem ji_list {β : Type} {m : R β} {ds : β → List D} {ρ' : β → List Slot} (h : JE X B ρ it m (fun b => .val (.list (ds b))) ρ') : JI X B ρ tg it m ds ρ' :=
  PI_imp (pi_list h) fun σ H Q ⟨G, E, q⟩ => ⟨G, E, R.post_mono q fun b q1 v G' H' x E' => by
    obtain ⟨a, xs, rfl, hS, hr⟩ := E'.top.lst_inv
    have hS' : SqL X.K G' a xs := .inl hS
    refine ⟨a, rfl, ⟨xs, E'.sub.l hS'⟩, q1 _ G' H' x E'.pop ⟨fun i H hi e => ⟨xs, xs[i]'(by rw [hr.len]; exact hi), e.l hS', List.getElem?_eq_getElem _⟩, fun i H hi e => ⟨xs, e.l hS', by rw [hr.len]; exact hi⟩, fun B i G1 H1 σ ρ x H' e E hy d hd => ?_⟩⟩
    obtain ⟨rfl, f⟩ := hy
    have := f xs ((e.trans E.sub).l hS')
    obtain ⟨v, h1, h2⟩ := hr.get hd
    rw [this] at h1
    cases h1
    exact ⟨G1, Ex.refl _, E, h2.ex e⟩⟩
theorem ji_tup {β : Type} {m : R β} {ds : β → List D} {ρ' : β → List Slot} (h : JE X B ρ it m (fun b => .val (.tuple (ds b))) ρ') : JI X B ρ tg it m ds ρ' :=
  PI_imp (pi_tup h) fun σ H Q ⟨G, E, q⟩ => ⟨G, E, R.post_mono q fun b q1 v G' H' x E' => by
    obtain ⟨a, xs, rfl, hS, hr⟩ := E'.top.tup_inv
    exact ⟨a, rfl, ⟨xs, E'.sub.t hS⟩, q1 _ G' H' x E'.pop (yld_tup hS hr)⟩⟩
/-- the ints lo, lo + 1, .. -/
def rng (lo hi : Int) : List Int := (List.range (hi - lo).toNat).map fun (k : Nat) => lo + (k : Int)
theorem yld_rng {K : PySem.W.Frag} {G : Hp} {lo : Int} {n : Nat} : Yld K (Itr lo n) G (((List.range n).map fun (k : Nat) => lo + (k : Int)).map D.int) where
  go := fun i H hi e => by
    have : i < n := by simpa using hi
    exact this
  stop := fun i H hi e => by
    have : n ≤ i := by simpa using hi
    exact this
  yld := fun B i G1 H1 σ ρ x H' e E hy d hd => by
    obtain ⟨rfl, rfl⟩ := hy
    have hi : i < n := by
      have := (List.getElem?_eq_some_iff.mp hd).1
      simpa using this
    rw [List.map_map, List.getElem?_map, List.getElem?_range hi] at hd
    cases hd
    exact ⟨G1, Ex.refl _, E, .int _⟩
def rngOk (i : Int) : Prop := -(2 ^ 62) ≤ i ∧ i < 2 ^ 62
instance {i : Int} : Decidable (rngOk i) := by unfold rngOk; infer_instance
theorem ji_rng1 {p : Pos} {β : Type} {m : R β} {as : β → List Ar} (i : β → Int) {ρ' : β → List Slot} (hm : X.mg "range" = none) (h : JA X B ρ [a] m as ρ') (ha : ∀ b, as b = [.val (.int (i b))] := by intro _; rfl) (hg : Gl X "range" := by rfl) (hs : starEach [a] X.env = [(false, eval a X.env)] := by rfl) :
    JI X B ρ tg (.Call (.Name "range" p) [a] [] pos) (m.bind fun b => (R.guard (rngOk (i b))).bind fun _ => .ok b) (fun b => (rng 0 (i b)).map D.int) ρ' :=
  PI_imp (pi_range1 hg hm h hs) fun σ H Q ⟨G, E, q⟩ => ⟨G, E, R.post_mono (R.post_bind.mp q) fun b q1 vs G' H' x E' ok => by
    obtain ⟨hc, q2⟩ := R.post_guard (R.post_bind.mp q1)
    rw [ha b] at ok
    cases ok with
    | val r ok =>
      cases ok
      refine ⟨i b, by rw [r.int_inv], hc.1, hc.2, q2 _ G' H' x E' ?_⟩
      show Yld X.K _ G' ((rng 0 (i b)).map D.int)
      unfold rng
      rw [Int.sub_zero]
      exact yld_rng⟩
theorem ji_rng2 {p : Pos} {β : Type} {m : R β} {as : β → List Ar} (i j : β → Int) {ρ' : β → List Slot} (hm : X.mg "range" = none) (h : JA X B ρ [a, b] m as ρ') (ha : ∀ b, as b = [.val (.int (i b)), .val (.int (j b))] := by intro _; rfl) (hg : Gl X "range" := by rfl)
    (hs : starEach [a, b] X.env = [(false, eval a X.env), (false, eval b X.env)] := by rfl) (hs2 : starEach [b] X.env = [(false, eval b X.env)] := by rfl) :
    JI X B ρ tg (.Call (.Name "range" p) [a, b] [] pos) (m.bind fun b => (R.guard (rngOk (i b) ∧ rngOk (j b))).bind fun _ => .ok b) (fun b => (rng (i b) (j b)).map D.int) ρ' :=
  PI_imp (pi_range2 hg hm h hs hs2) fun σ H Q ⟨G, E, q⟩ => ⟨G, E, R.post_mono (R.post_bind.mp q) fun b q1 vs G' H' x E' ok => by
    obtain ⟨hc, q2⟩ := R.post_guard (R.post_bind.mp q1)
    rw [ha b] at ok
    cases ok with
    | val r ok =>
      cases ok with
      | val r2 ok =>
        cases ok
        exact ⟨i b, j b, by rw [r.int_inv, r2.int_inv], ⟨hc.1.1, hc.1.2, hc.2.1, hc.2.2⟩, q2 _ G' H' x E' yld_rng⟩⟩
/-! ### while -/
/-- so many turns -/
def whN {S L T : Type} (c : S → R Bool) (f : S → R (Fl S S T)) : Nat → S → R (Fl S L T)
  | 0, _ => .bad
  | n + 1, s => (c s).bind fun b => if b = true then (f s).bind fun
      | .nx s' => whN c f n s'
      | .ct s' => whN c f n s'
      | .bk s' => .ok (.nx s')
      | .rt t => .ok (.rt t)
    else .ok (.nx s)
open Classical in
/-- as many turns as it takes -/
noncomputable def whR {S L T : Type} (c : S → R Bool) (f : S → R (Fl S S T)) (s : S) : R (Fl S L T) :=
  if h : ∃ n, whN (L := L) c f n s ≠ .bad then whN c f h.choose s else .bad
theorem whN_mono {S L T : Type} {c : S → R Bool} {f : S → R (Fl S S T)} : ∀ {n : Nat} {s : S}, whN (L := L) c f n s ≠ .bad → ∀ m, n ≤ m → whN (L := L) c f m s = whN c f n s
  | 0, s, h, _, _ => absurd rfl h
  | n + 1, s, h, 0, hm => absurd hm (Nat.not_succ_le_zero _)
  | n + 1, s, h, m + 1, hm => by
    have hm' : n ≤ m := Nat.le_of_succ_le_succ hm
    rw [whN] at h ⊢
    rw [whN]
    cases hc : c s with
    | bad => rfl
    | err e => rfl
    | ok b =>
      rw [hc] at h
      cases b with
      | false => rfl
      | true =>
        simp only [R.bind, if_true] at h ⊢
        cases hf : f s with
        | bad => rfl
        | err e => rfl
        | ok fl =>
          rw [hf] at h
          cases fl with
          | nx s' => exact whN_mono h m hm'
          | ct s' => exact whN_mono h m hm'
          | bk s' => rfl
          | rt t => rfl
theorem whR_of {S L T : Type} {c : S → R Bool} {f : S → R (Fl S S T)} {n : Nat} {s : S} (h : whN (L := L) c f n s ≠ .bad) : whR (L := L) c f s = whN c f n s := by
  have hx : ∃ n, whN (L := L) c f n s ≠ .bad := ⟨n, h⟩
  unfold whR
  rw [dif_pos hx]
  rcases Nat.le_total n hx.choose with l | l
  · exact whN_mono h _ l
  · exact (whN_mono hx.choose_spec _ l).symm
theorem js_while {S L T : Type} (ρS : S → List Slot) {c : S → R Bool} {f : S → R (Fl S S T)} {F : Fin S L T} {body : List Stmt} (hp : PassesOwn (model X.prog X.w) X.A X.env X.xe) (s0 : S) (bs : List Bool) (hw : forgot ρ bs = ρS s0)
    (hc : ∀ s, JT X B (ρS s) e (c s) (fun b => b) (fun _ => ρS s)) (hb : ∀ s, JSs X B (ρS s) body (f s) ⟨ρS, ρS, ρS, F.s, F.t⟩) (hn : F.n = ρS := by rfl) : JS X B ρ (.While e body [] pos) (whR c f s0) F := by
  have hc' : PT X e (fun σ H Q => ∃ s, tJT X.K B (ρS s) (c s) (fun b => b) (fun _ => ρS s) σ H Q) := ⟨fun pins s σ H Q I ⟨x, q⟩ => (hc x).run pins s σ H Q I q⟩
  have hb' : PSs X body (fun D σ H => ∃ s, tJS X.K B (ρS s) (f s) ⟨ρS, ρS, ρS, F.s, F.t⟩ D σ H) := ⟨fun pins s σ H D I ⟨x, q⟩ => (hb x).run pins s σ H D I q⟩
  refine PS_imp (ps_while hp hc' hb') fun D σ H ⟨G, E, q⟩ => ?_
  have hne : ∃ n, (whN c f n s0 : R (Fl S L T)) ≠ .bad := by
    apply Classical.byContradiction
    intro z
    unfold whR at q
    rw [dif_neg z] at q
    exact q
  obtain ⟨n, hn0⟩ := hne
  rw [whR_of hn0] at q
  refine ⟨fun m σ' H' => ∃ G' s, Ex G G' ∧ En X.K B G' H' σ' (ρS s) [] ∧ (whN c f m s).post (flP X.K B G' D F) B.rs, ⟨n, G, s0, Ex.refl _, by rw [← hw]; exact E.forgot bs, q⟩, ?_⟩
  rintro m σ' H' ⟨G1, s, x1, E1, q1⟩
  cases m with
  | zero => exact q1.elim
  | succ m =>
    rw [whN] at q1
    refine ⟨s, G1, E1, R.post_mono (R.post_bind.mp q1) fun b q2 G2 H2 x2 E2 => ?_⟩
    cases b with
    | false =>
      have q2 : flP X.K B G1 D F (.nx s) := q2
      refine q2 σ' G2 H2 x2 ?_
      rw [hn]
      exact E2
    | true =>
      rw [if_pos rfl] at q2 ⊢
      refine ⟨fun σ3 H3 => ∃ G' s, Ex G G' ∧ En X.K B G' H3 σ3 (ρS s) [] ∧ (whN c f m s).post (flP X.K B G' D F) B.rs, fun σ3 H3 w => ⟨m, Nat.lt_succ_self m, w⟩, s, G2, E2, R.post_mono (R.post_bind.mp q2) fun fl q3 => ?_⟩
      have nxt : ∀ s', (whN c f m s').post (flP X.K B G1 D F) B.rs → ∀ σ' G3 H', Ex G2 G3 → En X.K B G3 H' σ' (ρS s') [] → ∃ G' s, Ex G G' ∧ En X.K B G' H' σ' (ρS s) [] ∧ (whN c f m s).post (flP X.K B G' D F) B.rs :=
        fun s' h σ' G3 H' z E3 => ⟨G3, s', x1.trans (x2.trans z), E3, R.post_mono h fun fl h => flP_ex h (x2.trans z)⟩
      cases fl with
      | nx s' => exact nxt s' q3
      | ct s' => exact nxt s' q3
      | bk s' =>
        intro σ4 G4 H4 x4 E4
        have q3 : flP X.K B G1 D F (.nx s') := q3
        refine q3 σ4 G4 H4 (x2.trans x4) ?_
        rw [hn]
        exact E4
      | rt t =>
        intro v σ4 G4 H4 x4 E4
        have q3 : flP X.K B G1 D F (.rt t) := q3
        exact q3 v σ4 G4 H4 (x2.trans x4) E4
end
end DL

/-! DL7: built-ins, subscripts, slices; a def -/
namespace DL
open PySem PySem.Spec L2

/-! ### built-ins by data -/
def CbD (K : PySem.W.Frag) (B : Base) (ρ : List Slot) (r : List V → Hp → VK → Prop) (as : List Ar) {γ : Type} (mr : R γ) (s : γ → Slot) : Prop :=
  ∀ G H σ vs Q, En K B G H σ ρ [] → ArOk K G σ vs as → mr.post (fun z => ∀ v G' H', Ex G G' → En K B G' H' σ ρ [(v, s z)] → Q v H') B.rs → r vs H Q
section
variable {X : Cx} {B : Base} {ρ : List Slot} {e a b : Expr} {es : List Expr} {pos : Pos}
theorem je_cb {E0 : Expr} {r : List V → Hp → VK → Prop} (hp : ∀ t, PA X es t → PE X E0 (tCB r t)) {as : List Ar} {γ : Type} {mr : R γ} {s : γ → Slot} (ha : JA X B ρ es (.ok ()) (fun _ => as) (fun _ => ρ)) (hr : CbD X.K B ρ r as mr s) : JE X B ρ E0 mr s (fun _ => ρ) :=
  PE_imp (hp _ ha) fun σ H Q ⟨G, E, q⟩ => ⟨G, E, fun vs G1 H1 x1 E1 ok => hr G1 H1 σ vs Q E1 ok (R.post_mono q fun z k v G2 H2 x2 E2 => k v G2 H2 (x1.trans x2) E2)⟩
theorem je_cb2 {E0 : Expr} {r : List V → Hp → VK → Prop} (hp : ∀ t, PA X es t → PE X E0 (tCB r t)) {β γ : Type} {ma : R β} {as : β → List Ar} {ρa : β → List Slot} {mr : β → R γ} {s : β → γ → Slot} (ha : JA X B ρ es ma as ρa) (hr : ∀ x, CbD X.K B (ρa x) r (as x) (mr x) (s x)) :
    JE X B ρ E0 (ma.bind fun x => (mr x).bind fun z => .ok (x, z)) (fun p => s p.1 p.2) (fun p => ρa p.1) :=
  PE_imp (hp _ ha) fun σ H Q ⟨G, E, q⟩ => ⟨G, E, R.post_mono (R.post_bind.mp q) fun x q1 vs G1 H1 x1 E1 ok => hr x G1 H1 σ vs Q E1 ok (R.post_mono (R.post_bind.mp q1) fun z k v G2 H2 x2 E2 => k v G2 H2 (x1.trans x2) E2)⟩
theorem cb_val {r : List V → Hp → VK → Prop} {K : PySem.W.Frag} {as : List Ar} {c : Prop} [Decidable c] {z : D} {w : V} (h : c → ∀ G H σ vs Q, Ex G H → ArOk K G σ vs as → Q w H → r vs H Q) (hw : ∀ G, Rp K G w z) : CbD K B ρ r as (R.guard c) (fun _ => .val z) :=
  fun G H σ vs Q E ok q => by
    obtain ⟨hc, q⟩ := R.post_guard q
    exact h hc G H σ vs Q E.sub ok (q w G H (Ex.refl G) (E.push (hw G)))
theorem cb_val0 {r : List V → Hp → VK → Prop} {K : PySem.W.Frag} {as : List Ar} {z : D} {w : V} (h : ∀ G H σ vs Q, Ex G H → ArOk K G σ vs as → Q w H → r vs H Q) (hw : ∀ G, Rp K G w z) : CbD K B ρ r as (.ok ()) (fun _ => .val z) :=
  fun G H σ vs Q E ok q => h G H σ vs Q E.sub ok (q w G H (Ex.refl G) (E.push (hw G)))
theorem ArOk.one {K : PySem.W.Frag} {G : Hp} {σ : L2.St} {vs : List V} {d : D} (h : ArOk K G σ vs [.val d]) : ∃ v, vs = [v] ∧ Rp K G v d := by
  cases h with
  | val r h =>
    cases h
    exact ⟨_, rfl, r⟩
theorem ArOk.two {K : PySem.W.Frag} {G : Hp} {σ : L2.St} {vs : List V} {d d' : D} (h : ArOk K G σ vs [.val d, .val d']) : ∃ v w, vs = [v, w] ∧ Rp K G v d ∧ Rp K G w d' := by
  cases h with
  | val r h =>
    obtain ⟨w, rfl, r'⟩ := h.one
    exact ⟨_, _, rfl, r, r'⟩
section
variable {K : PySem.W.Frag}
theorem cb_abs {i : Int} : CbD K B ρ (fun xs H Q => ∃ i, xs = [.int i] ∧ Q (.int (if i < 0 then -i else i)) H) [.val (.int i)] (.ok ()) (fun _ => .val (.int (if i < 0 then -i else i))) :=
  cb_val0 (fun G H σ vs Q _ ok q => by
    obtain ⟨v, rfl, r⟩ := ok.one
    exact ⟨i, by rw [r.int_inv], q⟩) fun _ => .int _
theorem cb_max {i j : Int} : CbD K B ρ (fun xs H Q => ∃ i j, xs = [.int i, .int j] ∧ Q (.int (if j > i then j else i)) H) [.val (.int i), .val (.int j)] (.ok ()) (fun _ => .val (.int (max i j))) :=
  cb_val0 (w := .int (max i j)) (fun G H σ vs Q _ ok q => by
    obtain ⟨v, w, rfl, r, r2⟩ := ok.two
    refine ⟨i, j, by rw [r.int_inv, r2.int_inv], ?_⟩
    rw [show (if j > i then j else i) = max i j by omega]
    exact q) fun _ => .int _
theorem cb_min {i j : Int} : CbD K B ρ (fun xs H Q => ∃ i j, xs = [.int i, .int j] ∧ Q (.int (if j < i then j else i)) H) [.val (.int i), .val (.int j)] (.ok ()) (fun _ => .val (.int (min i j))) :=
  cb_val0 (w := .int (min i j)) (fun G H σ vs Q _ ok q => by
    obtain ⟨v, w, rfl, r, r2⟩ := ok.two
    refine ⟨i, j, by rw [r.int_inv, r2.int_inv], ?_⟩
    rw [show (if j < i then j else i) = min i j by omega]
    exact q) fun _ => .int _
theorem cb_intB {k : Bool} : CbD K B ρ (fun xs H Q => (∃ i, xs = [.int i] ∧ Q (.int i) H) ∨ ∃ k, xs = [.bl k] ∧ Q (.int (if k then 1 else 0)) H) [.val (.bool k)] (.ok ()) (fun _ => .val (.int (if k = true then 1 else 0))) :=
  cb_val0 (fun G H σ vs Q _ ok q => by
    obtain ⟨v, rfl, r⟩ := ok.one
    exact .inr ⟨k, by rw [r.bl_inv], q⟩) fun _ => .int _
theorem cb_lenL {ds : List D} : CbD K B ρ (fun xs H Q => ∃ p ys, xs = [.ref p] ∧ (SqL K H p ys ∨ SqT K H p ys) ∧ Q (.int ys.length) H) [.val (.list ds)] (.ok ()) (fun _ => .val (.int ds.length)) :=
  cb_val0 (fun G H σ vs Q e ok q => by
    obtain ⟨v, rfl, r⟩ := ok.one
    obtain ⟨a, xs, rfl, hS, hr⟩ := r.lst_inv
    exact ⟨a, xs, rfl, .inl (.inl (e.rd hS)), by rw [hr.len]; exact q⟩) fun _ => .int _
theorem cb_lenT {ds : List D} : CbD K B ρ (fun xs H Q => ∃ p ys, xs = [.ref p] ∧ (SqL K H p ys ∨ SqT K H p ys) ∧ Q (.int ys.length) H) [.val (.tuple ds)] (.ok ()) (fun _ => .val (.int ds.length)) :=
  cb_val0 (fun G H σ vs Q e ok q => by
    obtain ⟨v, rfl, r⟩ := ok.one
    obtain ⟨a, xs, rfl, hS, hr⟩ := r.tup_inv
    exact ⟨a, xs, rfl, .inr (e.t hS), by rw [hr.len]; exact q⟩) fun _ => .int _
theorem Rp.scr_inv {K : PySem.W.Frag} {G : Hp} {v : V} {ns : List Int} (h : Rp K G v (.scr ns)) : ∃ a, v = .ref a ∧ SqL K G a (ns.map V.int) := by
  cases h with
  | scr h => exact ⟨_, rfl, h⟩
theorem cb_lenS {ns : List Int} : CbD K B ρ (fun xs H Q => ∃ p ys, xs = [.ref p] ∧ (SqL K H p ys ∨ SqT K H p ys) ∧ Q (.int ys.length) H) [.val (.scr ns)] (.ok ()) (fun _ => .val (.int ns.length)) :=
  cb_val0 (fun G H σ vs Q e ok q => by
    obtain ⟨v, rfl, r⟩ := ok.one
    obtain ⟨a, rfl, hS⟩ := r.scr_inv
    exact ⟨a, _, rfl, .inl (e.l hS), by rw [List.length_map]; exact q⟩) fun _ => .int _
instance {i j : Int} : Decidable (CDivP i j) := by unfold CDivP; infer_instance
theorem cb_divmod {i j : Int} : CbD K B ρ (fun xs H Q => ∃ i j, xs = [.int i, .int j] ∧ CDivP i j ∧ ∀ p, H p = none → Q (.ref p) (upd H p (.tup [.int (i / j), .int (i % j)]))) [.val (.int i), .val (.int j)] (R.guard (CDivP i j)) (fun _ => .val (.tuple [.int (i / j), .int (i % j)])) :=
  fun G H σ vs Q E ok q => by
    obtain ⟨hc, q⟩ := R.post_guard q
    obtain ⟨v, w, rfl, r, r2⟩ := ok.two
    refine ⟨i, j, by rw [r.int_inv, r2.int_inv], hc, fun p hp => q _ (upd G p _) _ (Ex.new (E.sub.back hp)) ((E.new hp _).push (.tup (.inl (.inl upd_same)) (.cons (.int _) (.cons (.int _) .nil))))⟩
end
/-! ### isinstance -/
def tyN : D → String
  | .none => "NoneType"
  | .bool _ => "bool"
  | .int _ => "int"
  | .str _ => "str"
  | .list _ => "list"
  | .tuple _ => "tuple"
  | .dict _ => "dict"
  | .scr _ => "list"
  | .row _ => "tuple"
  | .key _ => "tuple"
def isInt : D → Bool
  | .int _ => true
  | .bool _ => true
  | _ => false
def isBool : D → Bool
  | .bool _ => true
  | _ => false
def isTup : D → Bool
  | .tuple _ => true
  | .row _ => true
  | .key _ => true
  | _ => false
def isLst : D → Bool
  | .list _ => true
  | .scr _ => true
  | _ => false
def isStr : D → Bool
  | .str _ => true
  | _ => false
theorem isi_int (d : D) : kitB (tyN d) "int" = some (isInt d) := match d with
  | .none => (show kitB "NoneType" "int" = some false by decide +kernel)
  | .bool _ => (show kitB "bool" "int" = some true by decide +kernel)
  | .int _ => (show kitB "int" "int" = some true by decide +kernel)
  | .str _ => (show kitB "str" "int" = some false by decide +kernel)
  | .list _ => (show kitB "list" "int" = some false by decide +kernel)
  | .tuple _ => (show kitB "tuple" "int" = some false by decide +kernel)
  | .dict _ => (show kitB "dict" "int" = some false by decide +kernel)
  | .scr _ => (show kitB "list" "int" = some false by decide +kernel)
  | .row _ => (show kitB "tuple" "int" = some false by decide +kernel)
  | .key _ => (show kitB "tuple" "int" = some false by decide +kernel)
theorem isi_bool (d : D) : kitB (tyN d) "bool" = some (isBool d) := match d with
  | .none => (show kitB "NoneType" "bool" = some false by decide +kernel)
  | .bool _ => (show kitB "bool" "bool" = some true by decide +kernel)
  | .int _ => (show kitB "int" "bool" = some false by decide +kernel)
  | .str _ => (show kitB "str" "bool" = some false by decide +kernel)
  | .list _ => (show kitB "list" "bool" = some false by decide +kernel)
  | .tuple _ => (show kitB "tuple" "bool" = some false by decide +kernel)
  | .dict _ => (show kitB "dict" "bool" = some false by decide +kernel)
  | .scr _ => (show kitB "list" "bool" = some false by decide +kernel)
  | .row _ => (show kitB "tuple" "bool" = some false by decide +kernel)
  | .key _ => (show kitB "tuple" "bool" = some false by decide +kernel)
theorem isi_tuple (d : D) : kitB (tyN d) "tuple" = some (isTup d) := match d with
  | .none => (show kitB "NoneType" "tuple" = some false by decide +kernel)
  | .bool _ => (show kitB "bool" "tuple" = some false by decide +kernel)
  | .int _ => (show kitB "int" "tuple" = some false by decide +kernel)
  | .str _ => (show kitB "str" "tuple" = some false by decide +kernel)
  | .list _ => (show kitB "list" "tuple" = some false by decide +kernel)
  | .tuple _ => (show kitB "tuple" "tuple" = some true by decide +kernel)
  | .dict _ => (show kitB "dict" "tuple" = some false by decide +kernel)
  | .scr _ => (show kitB "list" "tuple" = some false by decide +kernel)
  | .row _ => (show kitB "tuple" "tuple" = some true by decide +kernel)
  | .key _ => (show kitB "tuple" "tuple" = some true by decide +kernel)
theorem isi_list (d : D) : kitB (tyN d) "list" = some (isLst d) := match d with
  | .none => (show kitB "NoneType" "list" = some false by decide +kernel)
  | .bool _ => (show kitB "bool" "list" = some false by decide +kernel)
  | .int _ => (show kitB "int" "list" = some false by decide +kernel)
  | .str _ => (show kitB "str" "list" = some false by decide +kernel)
  | .list _ => (show kitB "list" "list" = some true by decide +kernel)
  | .tuple _ => (show kitB "tuple" "list" = some false by decide +kernel)
  | .dict _ => (show kitB "dict" "list" = some false by decide +kernel)
  | .scr _ => (show kitB "list" "list" = some true by decide +kernel)
  | .row _ => (show kitB "tuple" "list" = some false by decide +kernel)
  | .key _ => (show kitB "tuple" "list" = some false by decide +kernel)
theorem isi_str (d : D) : kitB (tyN d) "str" = some (isStr d) := match d with
  | .none => (show kitB "NoneType" "str" = some false by decide +kernel)
  | .bool _ => (show kitB "bool" "str" = some false by decide +kernel)
  | .int _ => (show kitB "int" "str" = some false by decide +kernel)
  | .str _ => (show kitB "str" "str" = some true by decide +kernel)
  | .list _ => (show kitB "list" "str" = some false by decide +kernel)
  | .tuple _ => (show kitB "tuple" "str" = some false by decide +kernel)
  | .dict _ => (show kitB "dict" "str" = some false by decide +kernel)
  | .scr _ => (show kitB "list" "str" = some false by decide +kernel)
  | .row _ => (show kitB "tuple" "str" = some false by decide +kernel)
  | .key _ => (show kitB "tuple" "str" = some false by decide +kernel)
theorem Rp.ty {K : PySem.W.Frag} {G H : Hp} {v : V} {d : D} (h : Rp K G v d) (e : Ex G H) : TyX K H v (.type (tyN d)) := by
  cases h with
  | non => exact .base .non
  | bl b => exact .base (.bl b)
  | int b => exact .base (.int b)
  | str b => exact .base (.str b)
  | lst h r =>
    rcases e.rd h with h | ⟨o, h⟩
    · exact .base (.lst h)
    · exact .base (.frz h)
  | tup h r =>
    rcases e.t h with (h | ⟨o, h⟩) | ⟨o, its, n, h1, h2, _⟩
    · exact .base (.tup h)
    · exact .fTuple h
    · exact .kTuple h1 h2
  | scr h =>
    rcases h with h | ⟨o, its, n, h1, h2, _⟩
    · rcases e.rd h with h | ⟨o, h⟩
      · exact .base (.lst h)
      · exact .base (.frz h)
    · exact .kList h1 h2
  | dK h r => exact .base (.dK (e _ _ h))
  | dT h r => exact .base (.dT (e _ _ h))
  | row h d r => exact .fTuple (e _ _ h)
  | key h => exact .base (.tup (e _ _ h))
theorem je_isi {T : String} {f : D → Bool} (hf : ∀ d, kitB (tyN d) T = some (f d)) {x : Str} {p p2 : Pos} {β : Type} {m : R β} {d : β → D} {ρ' : β → List Slot} (h : JE X B ρ a m (fun b => .val (d b)) ρ') (hmi : X.mg "isinstance" = none) (hm : X.mg x = none) (hv : bootBuiltins x = some (.type T))
    (hgi : Gl X "isinstance" := by rfl) (hg : Gl X x := by rfl) (hn : x ≠ "__name__" := by decide) (hd : (x == ("__debug__" : Str)) = false := by decide)
    (h1 : starEach [a, .Name x p2] X.env = (false, eval a X.env) :: starEach [.Name x p2] X.env := by rfl) (h2 : starEach [.Name x p2] X.env = (false, eval (.Name x p2) X.env) :: starEach [] X.env := by rfl) (h3 : (backTo pos (starEach [.Name x p2] X.env)).any (·.1) = false := by rfl) :
    JE X B ρ (.Call (.Name "isinstance" p) [a, .Name x p2] [] pos) m (fun b => .val (.bool (f (d b)))) ρ' :=
  PE_imp (pe_callB call_isi hgi hmi (by decide +kernel) (pa_cons h (pa_cons (pe_bltn hg hm hv (v := .ty T) rfl hn hd) pa_nil h2) h1) (by decide) (by decide) h1 h3) fun σ H Q ⟨G, E, q⟩ => ⟨G, E, R.post_mono q fun b k v G1 H1 x1 E1 =>
    ⟨v, .ty T, .type (tyN (d b)), .type T, f (d b), rfl, .ty T, E1.top.ty E1.sub, kit_ty (hf _), k _ G1 H1 x1 (E1.pop.push (.bl _))⟩⟩
/-! ### subscripts -/
section
variable {K : PySem.W.Frag}
theorem od_ixT {ds : List D} {i : Int} : OpD K B (rIxT K) (.tuple ds) (.int i) (R.some (atI ds i)) (fun d => .val d) := fun G H σ ρ vx vy Q E hx hy q => by
  obtain ⟨d, hd, q⟩ := R.post_some q
  obtain ⟨a, xs, rfl, hS, hr⟩ := hx.tup_inv
  obtain ⟨j, hj, hd⟩ := Option.bind_eq_some_iff.mp hd
  obtain ⟨v, hv, rv⟩ := hr.get hd
  refine ⟨a, xs, i, v, rfl, hy.int_inv, E.sub.t hS, ?_, q v G H (Ex.refl G) (E.push rv)⟩
  unfold atI
  rw [hr.len, hj]
  exact hv
theorem od_ixL {ds : List D} {i : Int} : OpD K B (rIxL K) (.list ds) (.int i) (R.some (atI ds i)) (fun d => .val d) := fun G H σ ρ vx vy Q E hx hy q => by
  obtain ⟨d, hd, q⟩ := R.post_some q
  obtain ⟨a, xs, rfl, hS, hr⟩ := hx.lst_inv
  obtain ⟨j, hj, hd⟩ := Option.bind_eq_some_iff.mp hd
  obtain ⟨v, hv, rv⟩ := hr.get hd
  refine ⟨a, xs, i, v, rfl, hy.int_inv, .inl (E.sub.rd hS), ?_, q v G H (Ex.refl G) (E.push rv)⟩
  unfold atI
  rw [hr.len, hj]
  exact hv
theorem atI_map {α β : Type} (f : α → β) (xs : List α) (i : Int) : atI (xs.map f) i = (atI xs i).map f := by
  unfold atI
  rw [List.length_map]
  cases ixN xs.length i with
  | none => rfl
  | some j => simp
theorem od_map {r : R2} {x y : D} {α : Type} {o : Option α} {f : α → D} (h : OpD K B r x y (R.some (o.map f)) (fun d => .val d)) : OpD K B r x y (R.some o) (fun a => .val (f a)) := fun G H σ ρ vx vy Q E hx hy q => by
  obtain ⟨d, hd, q⟩ := R.post_some q
  refine h G H σ ρ vx vy Q E hx hy ?_
  rw [hd]
  exact q
/-- one kind of items -/
theorem od_ixTm {α : Type} {f : α → D} {xs : List α} {i : Int} : OpD K B (rIxT K) (.tuple (xs.map f)) (.int i) (R.some (atI xs i)) (fun a => .val (f a)) := od_map (by rw [← atI_map]; exact od_ixT)
theorem od_ixLm {α : Type} {f : α → D} {xs : List α} {i : Int} : OpD K B (rIxL K) (.list (xs.map f)) (.int i) (R.some (atI xs i)) (fun a => .val (f a)) := od_map (by rw [← atI_map]; exact od_ixL)
/-- a place known -/
theorem od_ixTs {ds : List D} {i : Int} {d : D} (h : atI ds i = some d) : OpD K B (rIxT K) (.tuple ds) (.int i) (.ok ()) (fun _ => .val d) := fun G H σ ρ vx vy Q E hx hy q => od_ixT G H σ ρ vx vy Q E hx hy (by rw [h]; exact q)
theorem od_ixLs {ds : List D} {i : Int} {d : D} (h : atI ds i = some d) : OpD K B (rIxL K) (.list ds) (.int i) (.ok ()) (fun _ => .val d) := fun G H σ ρ vx vy Q E hx hy q => od_ixL G H σ ρ vx vy Q E hx hy (by rw [h]; exact q)
end
/-- o[k], o an owned list of data -/
theorem je_ixO (i : Nat) {x : Str} {px : Pos} {l : Nat} {α : Type} {en : α → D} {xs : List α} {k : Int} (h : ρ[i]? = some (.own l (.lst ((xs.map en).map OT.dat))) := by rfl) (hk : JP X B ρ b (.int k)) (hal : noAlis ρ = true := by rfl) (hN : X.N[i]? = some x := by rfl)
    (hv : Vis X.env.scope x := by first | exact Or.inl rfl | exact Or.inr (Or.inl rfl) | exact Or.inr (Or.inr rfl)) (hd : (x == ("__debug__" : Str)) = false := by decide) (hcd : (x == ("__classdict__" : Str)) = false := by decide) (hs : PlainIx b := by exact fun _ _ => rfl) :
    JE X B ρ (.Subscript (.Name x px) b pos) (R.some (atI xs k)) (fun y => .val (en y)) (fun _ => ρ) :=
  PE_imp (pe_ix ix_list (pv i hN hv hd hcd) hk hs) fun σ H Q ⟨G, E, q⟩ => by
    obtain ⟨p, vs, e1, e2, e3, e4⟩ := E.ownD h hal
    obtain ⟨y, hy, q⟩ := R.post_some q
    refine ⟨.ref p, e1, G, E, fun w G1 H1 x1 E1 => ?_⟩
    have hn := E1.top.int_inv
    obtain ⟨p', vs', g1, g2, g3, g4⟩ := E1.pop.ownD h hal
    have ep : p' = p := by
      have z := g1.symm.trans e1
      injection z with z
      injection z with z
      injection z
    subst ep
    have hy' : atI (xs.map en) k = some (en y) := by rw [atI_map, hy]; rfl
    obtain ⟨j, hj, hd⟩ := Option.bind_eq_some_iff.mp hy'
    obtain ⟨v, hv, rv⟩ := g3.get hd
    refine ⟨p', vs', k, v, rfl, hn, .inl (.inl g2), ?_, q v G1 H1 x1 (E1.pop.push rv)⟩
    unfold atI
    rw [g3.len, hj]
    exact hv
/-! ### slices -/
def tJO (K : PySem.W.Frag) (B : Base) (ρ : List Slot) (o : Option Int) : TO := fun σ H Q => ∃ G, En K B G H σ ρ [] ∧ ∀ G' H', Ex G G' → En K B G' H' σ ρ [] → Q o H'
def JO (X : Cx) (B : Base) (ρ : List Slot) (e : Option Expr) (o : Option Int) : Prop := PO X e (tJO X.K B ρ o)
theorem PO_imp {e : Option Expr} {t t' : TO} (h : PO X e t) (k : ∀ σ H Q, t' σ H Q → t σ H Q) : PO X e t' := ⟨fun pins s σ H Q I q => h.run pins s σ H Q I (k σ H Q q)⟩
theorem jo_none : JO X B ρ none none := PO_imp po_none fun σ H Q ⟨G, E, q⟩ => q G H (Ex.refl G) E
theorem jo_some {i : Int} (h : JP X B ρ e (.int i)) : JO X B ρ (some e) (some i) := PO_imp (po_some h) fun σ H Q ⟨G, E, q⟩ => ⟨G, E, fun v G1 H1 x1 E1 => ⟨i, E1.top.int_inv, q G1 H1 x1 E1.pop⟩⟩
/-- a slice of a list -/
def cut {α : Type} (xs : List α) (lo hi : Option Int) : List α := (xs.drop (HT.sIx xs.length 0 lo)).take (HT.sIx xs.length xs.length hi - HT.sIx xs.length 0 lo)
theorem cut_map {α β : Type} (f : α → β) (xs : List α) (lo hi : Option Int) : cut (xs.map f) lo hi = (cut xs lo hi).map f := by
  unfold cut
  rw [List.length_map, List.map_take, List.map_drop]
theorem cut_rp {K : PySem.W.Frag} {G : Hp} {xs : List V} {ds : List D} {lo hi : Option Int} (h : RpAll K G xs ds) : RpAll K G (cutV xs lo hi) (cut ds lo hi) := by
  unfold cutV cut
  rw [h.len]
  exact (h.drop _).take _
theorem je_slL {o1 o2 : Option Expr} {p2 : Pos} {lo hi : Option Int} {β : Type} {m : R β} {ds : β → List D} {ρ' : β → List Slot} (h : JE X B ρ a m (fun b => .val (.list (ds b))) ρ') (h1 : ∀ b, JO X B (ρ' b) o1 lo) (h2 : ∀ b, JO X B (ρ' b) o2 hi) :
    JE X B ρ (.Subscript a (.Slice o1 o2 none p2) pos) m (fun b => .own 0 (.lst ((cut (ds b) lo hi).map OT.dat))) ρ' := by
  have h1' : PO X o1 (fun σ H Q => ∃ b, tJO X.K B (ρ' b) lo σ H Q) := ⟨fun pins s σ H Q I ⟨b, q⟩ => (h1 b).run pins s σ H Q I q⟩
  have h2' : PO X o2 (fun σ H Q => ∃ b, tJO X.K B (ρ' b) hi σ H Q) := ⟨fun pins s σ H Q I ⟨b, q⟩ => (h2 b).run pins s σ H Q I q⟩
  refine PE_imp (pe_slice sl_list h h1' h2') fun σ H Q ⟨G, E, q⟩ => ⟨G, E, R.post_mono q fun b k v G1 H1 x1 E1 => ⟨b, G1, E1.pop, fun G2 H2 x2 E2 => ⟨b, G2, E2, fun G3 H3 x3 E3 => ?_⟩⟩⟩
  obtain ⟨p, xs, rfl, hS, hr⟩ := E1.top.lst_inv
  have x13 := x2.trans x3
  exact ⟨p, xs, rfl, .inl ((x13.trans E3.sub).rd hS), fun q' hq => k _ G3 _ (x1.trans x13) (E3.newL hq (cut_rp (RpAll.ex x13 hr)))⟩
theorem je_slS {o1 o2 : Option Expr} {p2 : Pos} {lo hi : Option Int} {β : Type} {m : R β} {ns : β → List Int} {ρ' : β → List Slot} (h : JE X B ρ a m (fun b => .val (.scr (ns b))) ρ') (h1 : ∀ b, JO X B (ρ' b) o1 lo) (h2 : ∀ b, JO X B (ρ' b) o2 hi) :
    JE X B ρ (.Subscript a (.Slice o1 o2 none p2) pos) m (fun b => .own 0 (.lst (((cut (ns b) lo hi).map D.int).map OT.dat))) ρ' := by
  have h1' : PO X o1 (fun σ H Q => ∃ b, tJO X.K B (ρ' b) lo σ H Q) := ⟨fun pins s σ H Q I ⟨b, q⟩ => (h1 b).run pins s σ H Q I q⟩
  have h2' : PO X o2 (fun σ H Q => ∃ b, tJO X.K B (ρ' b) hi σ H Q) := ⟨fun pins s σ H Q I ⟨b, q⟩ => (h2 b).run pins s σ H Q I q⟩
  refine PE_imp (pe_slice sl_list h h1' h2') fun σ H Q ⟨G, E, q⟩ => ⟨G, E, R.post_mono q fun b k v G1 H1 x1 E1 => ⟨b, G1, E1.pop, fun G2 H2 x2 E2 => ⟨b, G2, E2, fun G3 H3 x3 E3 => ?_⟩⟩⟩
  obtain ⟨p, rfl, hS⟩ := E1.top.scr_inv
  have x13 := x2.trans x3
  refine ⟨p, _, rfl, (x13.trans E3.sub).l hS, fun q' hq => k _ G3 _ (x1.trans x13) (E3.newL hq ?_)⟩
  rw [← cut_map]
  exact cut_rp (RpAll.of_ints (ns b))
/-! ### lists joined -/
def rCatR : R2 := fun x y H Q => ∃ l b xs zs, x = .ref l ∧ y = .ref b ∧ Rd H l (.lst xs) ∧ Rd H b (.lst zs) ∧ xs.length + zs.length ≤ sizeLine ∧ ∀ p, H p = none → Q (.ref p) (upd H p (.lst (xs ++ zs)))
theorem op_catR : OpR X (binaryOp .Add) rCatR := by
  intro pins s σ H x y v u Q I rx ry h
  obtain ⟨l, b, xs, zs, rfl, rfl, hH, hB, hz, q⟩ := h
  cases rx
  cases ry
  obtain ⟨z1, i1, n1, r1, g1⟩ := hH.ok I.hok
  obtain ⟨z2, i2, n2, r2, g2⟩ := hB.ok I.hok
  have l1 := r1.length
  have l2 := r2.length
  refine PySem.P.add_list g1 g2 ?_ (by simp only [List.size_toArray]; omega)
  rw [List.append_toArray]
  exact ⟨.ref _, _, I.lnew (t' := s.toks) (r1.append r2) (by simp only [List.length_append]; omega), rfl, q _ I.fresh⟩
theorem od_cat {K : PySem.W.Frag} {ds es : List D} : OpD K B rCatR (.list ds) (.list es) (R.guard (ds.length + es.length ≤ sizeLine)) (fun _ => .own 0 (.lst ((ds ++ es).map OT.dat))) := fun G H σ ρ vx vy Q E hx hy q => by
  obtain ⟨hc, q⟩ := R.post_guard q
  obtain ⟨a, xs, rfl, hS, hr⟩ := hx.lst_inv
  obtain ⟨b, ys, rfl, hS2, hr2⟩ := hy.lst_inv
  exact ⟨a, b, xs, ys, rfl, rfl, E.sub.rd hS, E.sub.rd hS2, by rw [hr.len, hr2.len]; exact hc, fun p hp => q _ G _ (Ex.refl G) (E.newL hp (hr.append hr2))⟩
end
end DL

/-! DL8: a def keeps its mirror's promise -/
namespace DL
open PySem PySem.Spec L2

/-- a def as the head tells it -/
abbrev FnP (K : PySem.W.Frag) (x : Str) (st : Stmt) (f : Addr) (fd : FuncData) : Prop := FunD K x x (defArgs st) (defBody st) (defScope st) [] [] f fd
/-- a def behind the top: where it stands, its name, how arguments come -/
structure DT (K : PySem.W.Frag) (mg : Str → Option Value) (x : Str) (st : Stmt) (ps : List Str) where
  a : Addr
  d : FuncData
  f : FnP K x st a d
  g : mg x = some (.ref a)
  b : Binds K d ps []
/-- it always returns -/
def fin0 {N L T : Type} (m : R (Fl N L T)) : R T := m.bind fun
  | .rt t => .ok t
  | _ => .bad
/-- it never returns a value -/
def finN {N L T : Type} (m : R (Fl N L T)) : R N := m.bind fun
  | .nx n => .ok n
  | _ => .bad
section
variable {P : Program} {w : World} {K : PySem.W.Frag} {mg : Str → Option Value} {base : Heap} {x : Str} {st : Stmt} {f : Addr} {fd : FuncData} {N ps : List Str} {k : Nat}
theorem start_en {B : Base} {G H : Hp} {vs : List V} {ρ : List Slot} {d : Nat} (E : En K B G H (vs.map some) ρ []) (hN : N.length = vs.length + d) : En K B G H (L2.start N vs) (ρ ++ List.replicate d .non) [] := by
  unfold L2.start
  rw [show N.length - vs.length = d by omega]
  obtain ⟨A, c, n, g⟩ := E.own
  have ap : ∀ {σ : L2.St} {ρ : List Slot} {A : List Addr}, Cells K B G H σ ρ A → Cells K B G H (σ ++ List.replicate d none) (ρ ++ List.replicate d .non) A := by
    intro σ ρ A h
    induction h with
    | nil =>
      have nn : ∀ m : Nat, Cells K B G H (List.replicate m none) (List.replicate m .non) [] := by
        intro m
        induction m with
        | zero => exact .nil
        | succ m ih => exact .cons (A := []) .non ih
      exact nn d
    | cons c r ih => exact .cons c ih
  refine ⟨E.anc, ⟨A, ap (show Cells K B G H (vs.map some) ρ A from c), n, g⟩, by simp [← E.len], fun i j p e => ?_⟩
  by_cases hi : i < ρ.length
  · rw [List.getElem?_append_left hi] at e
    obtain ⟨v, w, h1, h2, h3⟩ := E.ali i j p e
    have l1 : i < (vs.map some).length := by rw [E.len]; exact hi
    have l2 : j < (vs.map some).length := (List.getElem?_eq_some_iff.mp h2).1
    exact ⟨v, w, by rw [List.getElem?_append_left l1]; exact h1, by rw [List.getElem?_append_left l2]; exact h2, h3⟩
  · rw [List.getElem?_append_right (by omega)] at e
    have := (List.mem_replicate.mp (List.mem_of_getElem? e)).2
    cases this
def okOuts : Nat → List Slot → Bool
  | _, [] => true
  | n, .non :: r => okOuts (n + 1) r
  | n, .own l _ :: r => l == n + 1 && okOuts (n + 1) r
  | _, _ :: _ => false
theorem okOuts_ali : ∀ {ρ : List Slot} {n : Nat}, okOuts n ρ = true → ∀ {i j : Nat} {p : List Nat}, ρ[i]? ≠ some (.ali j p)
  | [], _, _, _, _, _ => fun e => nomatch e
  | s :: ρ, n, h, i, j, p => fun e => by
    have h' : okOuts (n + 1) ρ = true ∧ s ≠ .ali j p := by
      cases s <;> simp [okOuts] at h
      · exact ⟨h, fun z => nomatch z⟩
      · exact ⟨h.2, fun z => nomatch z⟩
    cases i with
    | zero =>
      simp at e
      exact h'.2 e
    | succ i => exact okOuts_ali h'.1 (i := i) (by simpa using e)
theorem stop_en {B : Base} {G H : Hp} {vs : List V} {σ : L2.St} {ρ : List Slot} {d : Nat} {v : V} {s : Slot} (E : En K B G H σ (ρ ++ List.replicate d .non) [(v, s)]) (hv : ∀ k, B.pv (k + 1) = vs[k]?) (ho : okOuts 0 ρ = true) (hl : vs.length = ρ.length) : En K B G H (vs.map some) ρ [(v, s)] := by
  obtain ⟨A, c, n, g⟩ := E.own
  cases c with
  | @cons _ _ A1 _ _ A2 c1 cr =>
    have cut : ∀ {ρ : List Slot} {σ : L2.St} {A : List Addr} {ws : List V} (n : Nat), Cells K B G H σ (ρ ++ List.replicate d .non) A → (∀ k, B.pv (n + k + 1) = ws[k]?) → okOuts n ρ = true → ws.length = ρ.length → Cells K B G H (ws.map some) ρ A := by
      intro ρ
      induction ρ with
      | nil =>
        intro σ A ws n h _ _ hl
        have nn : ∀ (m : Nat) {σ : L2.St} {A : List Addr}, Cells K B G H σ (List.replicate m .non) A → A = [] := by
          intro m
          induction m with
          | zero =>
            intro σ A h
            cases h
            rfl
          | succ m ih =>
            intro σ A h
            cases h with
            | cons c r =>
              cases c
              rw [ih r]
              rfl
        have e := nn d h
        subst e
        cases ws with
        | nil => exact .nil
        | cons a b => cases hl
      | cons s ρ ih =>
        intro σ A ws n h hv ho hl
        cases h with
        | @cons x0 _ B1 σ0 _ B2 c r =>
          cases ws with
          | nil => cases hl
          | cons y ws =>
            have tl : okOuts (n + 1) ρ = true → Cells K B G H (ws.map some) ρ B2 := fun ho => ih (n + 1) r (fun k => by
              have := hv (k + 1)
              rw [show n + (k + 1) + 1 = n + 1 + k + 1 by omega] at this
              simpa using this) ho (by simpa using hl)
            cases c with
            | non => exact .cons .non (tl (by simpa [okOuts] using ho))
            | val h => simp [okOuts] at ho
            | ali => simp [okOuts] at ho
            | @own u l o _ hO hr hp =>
              have ho' : l = n + 1 ∧ okOuts (n + 1) ρ = true := by simpa [okOuts] using ho
              obtain ⟨rfl, ho2⟩ := ho'
              have e1 := hp.resolve_left (Nat.succ_ne_zero n)
              have e2 := hv 0
              rw [show n + 0 + 1 = n + 1 by omega, e1] at e2
              have e3 : u = y := by simpa using e2
              subst e3
              exact .cons (.own hO hr hp) (tl ho2)
    exact ⟨E.anc, ⟨_, .cons c1 (cut 0 (show Cells K B G H σ (ρ ++ List.replicate d .non) A2 from cr) (fun k => by rw [Nat.zero_add]; exact hv k) ho hl), n, g⟩, by rw [List.length_map]; exact hl, fun i j p e => absurd e (okOuts_ali ho)⟩
/-- THE RULE: the body's mirror is the def's -/
theorem fn_ok {α β N1 L1 : Type} {ins : α → List Slot} {sl : β → Slot} {outs : β → List Slot} {n1 : N1 → List Slot} {c1 k1 : L1 → List Slot} (mb : α → R (Fl N1 L1 β)) (d : Nat) (F : FnP K x st f fd) (S : FnScope N ps (defScope st)) (hN : N.length = ps.length + d)
    (hi : ∀ a, (ins a).length = ps.length) (ho : ∀ b, okOuts 0 (outs b) = true) (ho2 : ∀ b, (outs b).length = ps.length)
    (hbody : ∀ (cdv : Value) (A : Around) (outer : List PySem.Env) (s : Shared) (H : Hp) (E : XK), RoomG k (A.deeper (PyProof.Rows.envOfC x (defScope st) s.heap.objs.size f cdv)) → ∀ (B : Base), (∀ e, ¬ B.rs e) → ∀ a,
      JSs (cxOf CX0 P w K mg base N x (defScope st) f cdv A outer s H E).nox B (ins a ++ List.replicate d .non) (defBody st) (mb a) ⟨n1, c1, k1, sl, fun b => outs b ++ List.replicate d .non⟩) :
    FnG P w K mg base CX0 (k + 1) f fd ps (spM K ins (fun a => fin0 (mb a)) sl outs) := by
  refine fn_ofG F S (fun vs H Q E h => ?_) fun cdv A outer s H vs Q E hr h => ?_
  · obtain ⟨a, G, As, E0, _⟩ := h
    have := E0.len
    rw [List.length_map] at this
    rw [this, hi a]
  · obtain ⟨a, G, As, E0, q⟩ := h
    have hl : vs.length = ps.length := by
      have := E0.len
      rw [List.length_map] at this
      rw [this, hi a]
    refine ⟨_, (hbody cdv A outer s H E hr (baseOf H G As vs fun _ => False) (fun e z => z) a).nox, G, start_en E0 (by rw [hN, hl]), ?_⟩
    have q' := R.post_bind.mp q
    refine R.post_mono q' fun fl q1 => ?_
    cases fl with
    | nx n => exact q1.elim
    | ct n => exact q1.elim
    | bk n => exact q1.elim
    | rt b => exact fun v σ' G' H' x1 E1 => q1 v G' H' (stop_en E1 (fun k => rfl) (ho b) (by rw [hl, ho2 b]))
/-- .. of a def that hands back nothing -/
theorem fn_okN {α β T1 L1 : Type} {ins : α → List Slot} {outs : β → List Slot} {s1 : T1 → Slot} {t1 : T1 → List Slot} {c1 k1 : L1 → List Slot} (mb : α → R (Fl β L1 T1)) (d : Nat) (F : FnP K x st f fd) (S : FnScope N ps (defScope st)) (hN : N.length = ps.length + d)
    (hi : ∀ a, (ins a).length = ps.length) (ho : ∀ b, okOuts 0 (outs b) = true) (ho2 : ∀ b, (outs b).length = ps.length)
    (hbody : ∀ (cdv : Value) (A : Around) (outer : List PySem.Env) (s : Shared) (H : Hp) (E : XK), RoomG k (A.deeper (PyProof.Rows.envOfC x (defScope st) s.heap.objs.size f cdv)) → ∀ (B : Base), (∀ e, ¬ B.rs e) → ∀ a,
      JSs (cxOf CX0 P w K mg base N x (defScope st) f cdv A outer s H E).nox B (ins a ++ List.replicate d .non) (defBody st) (mb a) ⟨fun b => outs b ++ List.replicate d .non, c1, k1, s1, t1⟩) :
    FnG P w K mg base CX0 (k + 1) f fd ps (spM K ins (fun a => finN (mb a)) (fun _ => .val .none) outs) := by
  refine fn_ofG F S (fun vs H Q E h => ?_) fun cdv A outer s H vs Q E hr h => ?_
  · obtain ⟨a, G, As, E0, _⟩ := h
    have := E0.len
    rw [List.length_map] at this
    rw [this, hi a]
  · obtain ⟨a, G, As, E0, q⟩ := h
    have hl : vs.length = ps.length := by
      have := E0.len
      rw [List.length_map] at this
      rw [this, hi a]
    refine ⟨_, (hbody cdv A outer s H E hr (baseOf H G As vs fun _ => False) (fun e z => z) a).nox, G, start_en E0 (by rw [hN, hl]), ?_⟩
    have q' := R.post_bind.mp q
    refine R.post_mono q' fun fl q1 => ?_
    cases fl with
    | rt n => exact q1.elim
    | ct n => exact q1.elim
    | bk n => exact q1.elim
    | nx b => exact fun σ' G' H' x1 E1 => q1 .non G' H' (stop_en (E1.push .non) (fun k => rfl) (ho b) (by rw [hl, ho2 b]))
end
end DL

/-! DL9: forms for the printed walks -/
namespace DL
open PySem PySem.Spec L2

/-- a value named -/
def lt {α β : Type} (v : α) (k : α → β) : β := k v
@[reducible] def eT {α : Type} (f : α → D) (l : List α) : D := .tuple (l.map f)
@[reducible] def eL {α : Type} (f : α → D) (l : List α) : D := .list (l.map f)
@[reducible] def eD (d : D) : D := d
@[reducible] def eU (_ : Unit) : D := .none
@[reducible] def eP2 {α β : Type} (f : α → D) (g : β → D) (p : α × β) : D := .tuple [f p.1, g p.2]
@[reducible] def eP3 {α β γ : Type} (f : α → D) (g : β → D) (h : γ → D) (p : α × β × γ) : D := .tuple [f p.1, g p.2.1, h p.2.2]
@[reducible] def eP4 {α β γ δ : Type} (f : α → D) (g : β → D) (h : γ → D) (i : δ → D) (p : α × β × γ × δ) : D := .tuple [f p.1, g p.2.1, h p.2.2.1, i p.2.2.2]
@[reducible] def oL {α : Type} (f : α → D) (l : List α) : OT := .lst ((l.map f).map OT.dat)
theorem toDs_dat : ∀ ds : List D, OT.toDs (ds.map OT.dat) = ds
  | [] => by rw [List.map_nil, OT.toDs]
  | d :: ds => by rw [List.map_cons, OT.toDs, OT.toD, toDs_dat ds]
theorem oL_toD {α : Type} (f : α → D) (l : List α) : (oL f l).toD = eL f l := by
  show OT.toD (.lst _) = _
  rw [OT.toD, toDs_dat]
section
variable {X : Cx} {B : Base} {ρ : List Slot} {e a b : Expr} {es : List Expr} {rest : List Stmt} {pos : Pos} {N L T β α : Type} {F : Fin N L T}
theorem je_frzL {m : R β} {f : α → D} {v : β → List α} {ρ' : β → List Slot} (h : JE X B ρ e m (fun b => .own 0 (oL f (v b))) ρ') : JE X B ρ e m (fun b => .val (eL f (v b))) ρ' := by
  have := je_frz h
  simp only [oL_toD] at this
  exact this
/-- an owned slot, read as data for good -/
theorem js_setP (i : Nat) {x : Str} {pos' : Pos} (en : α → D) (v : α) {k : α → R (Fl N L T)} (hN : X.N.Nodup) (h : JP X B ρ e (en v)) (r : ∀ x, JSs X B (ρ.set i (.val (en x))) rest (k x) F) (hi : X.N[i]? = some x := by rfl) (hx : Loc X.env.scope x := by first | exact Or.inl rfl | exact Or.inr rfl)
    (hlt : i < ρ.length := by exact of_decide_eq_true rfl) (hal : noAli i ρ = true := by rfl) (hs : swapsWith e (some (.Name x pos')) pos.line X.env = pure false := by rfl) (hf : X.fn x = true ∨ X.env.scope.names.lookup x = some .local := by first | exact .inl rfl | exact .inr rfl) :
    JSs X B ρ (.Assign [.Name x pos'] e pos :: rest) (lt v k) F :=
  js_cons1 (k := fun _ => k v) (j1_set i hN h hi hx (fun _ => hlt) (fun _ => hal) (fun _ => rfl) hs hf) fun _ => r v
theorem js_setE (i : Nat) {x : Str} {pos' : Pos} (en : α → D) {m : R β} (v : β → α) {ρ' : β → List Slot} {k : β → α → R (Fl N L T)} (hN : X.N.Nodup) (h : JE X B ρ e m (fun b => .val (en (v b))) ρ') (r : ∀ b x, JSs X B ((ρ' b).set i (.val (en x))) rest (k b x) F) (hi : X.N[i]? = some x := by rfl) (hx : Loc X.env.scope x := by first | exact Or.inl rfl | exact Or.inr rfl)
    (hlt : ∀ b, i < (ρ' b).length := by intro _; exact of_decide_eq_true rfl) (hal : ∀ b, noAli i (ρ' b) = true := by intro _; rfl) (hs : swapsWith e (some (.Name x pos')) pos.line X.env = pure false := by rfl) (hf : X.fn x = true ∨ X.env.scope.names.lookup x = some .local := by first | exact .inl rfl | exact .inr rfl) :
    JSs X B ρ (.Assign [.Name x pos'] e pos :: rest) (m.bind fun b => lt (v b) (k b)) F :=
  js_cons1 (j1_set i hN h hi hx hlt hal (fun _ => rfl) hs hf) fun b => r b (v b)
theorem js_setO (i : Nat) {x : Str} {pos' : Pos} (on : α → OT) {m : R β} (v : β → α) {ρ' : β → List Slot} {k : β → α → R (Fl N L T)} (hN : X.N.Nodup) (h : JE X B ρ e m (fun b => .own 0 (on (v b))) ρ') (r : ∀ b x, JSs X B ((ρ' b).set i (.own 0 (on x))) rest (k b x) F) (hi : X.N[i]? = some x := by rfl) (hx : Loc X.env.scope x := by first | exact Or.inl rfl | exact Or.inr rfl)
    (hlt : ∀ b, i < (ρ' b).length := by intro _; exact of_decide_eq_true rfl) (hal : ∀ b, noAli i (ρ' b) = true := by intro _; rfl) (hs : swapsWith e (some (.Name x pos')) pos.line X.env = pure false := by rfl) (hf : X.fn x = true ∨ X.env.scope.names.lookup x = some .local := by first | exact .inl rfl | exact .inr rfl) :
    JSs X B ρ (.Assign [.Name x pos'] e pos :: rest) (m.bind fun b => lt (v b) (k b)) F :=
  js_cons1 (j1_set i hN h hi hx hlt hal (fun _ => rfl) hs hf) fun b => r b (v b)
/-- a statement that just goes on, its mirror pure -/
theorem js_consP {st : Stmt} {ρ' : List Slot} {k : R (Fl N L T)} (h : J1 X B ρ st (.ok ()) (fun _ => ρ')) (r : JSs X B ρ' rest k F) : JSs X B ρ (st :: rest) k F := js_cons1 (k := fun _ => k) h fun _ => r
theorem js_retP (t : T) (bs : List Bool) {s : Slot} (h : JE X B ρ e (.ok ()) (fun _ => s) (fun _ => ρ)) (hs : F.s t = s := by rfl) (ht : forgot ρ bs = F.t t := by rfl) : JS X B ρ (.Return (some e) pos) (.ok (.rt t)) F :=
  js_ret (fun _ => t) bs h (fun _ => hs) fun _ => ht
/-- comparisons as tests -/
theorem jt_op2 {r : R2} (ht : ∀ ta tb, PE X a ta → PE X b tb → PT X e (tTest (tOp r ta tb))) {α β γ : Type} {ma : R α} {mb : α → R β} {xa : α → D} {xb : α → β → D} {ρa : α → List Slot} {ρb : α → β → List Slot} {mr : α → β → R γ} {bn : α → β → γ → Bool}
    (ha : JE X B ρ a ma (fun x => .val (xa x)) ρa) (hb : ∀ x, JE X B (ρa x) b (mb x) (fun y => .val (xb x y)) (ρb x)) (hr : ∀ x y, OpD X.K B r (xa x) (xb x y) (mr x y) (fun z => .val (.bool (bn x y z)))) :
    JT X B ρ e (op2 ma mb mr) (fun p => bn p.1 p.2.1 p.2.2) (fun p => ρb p.1 p.2.1) := by
  have hb' : PE X b (fun σ H Q => ∃ x, tJ X.K B (ρa x) (mb x) (fun y => .val (xb x y)) (ρb x) σ H Q) := ⟨fun pins s σ H Q I ⟨x, q⟩ => (hb x).run pins s σ H Q I q⟩
  refine PT_imp (ht _ _ ha hb') fun σ H Q ⟨G, E, q⟩ => ?_
  refine ⟨G, E, R.post_mono (R.post_bind.mp q) fun x q1 vx G1 H1 x1 E1 => ?_⟩
  refine ⟨x, G1, E1.pop, R.post_mono (R.post_bind.mp q1) fun y q2 vy G2 H2 x2 E2 => ?_⟩
  exact hr x y G2 H2 σ (ρb x y) vx vy _ E2.pop (E1.top.ex x2) E2.top (R.post_mono (R.post_bind.mp q2) fun z q3 v G3 H3 x3 E3 => ⟨_, E3.top.bl_inv, q3 G3 H3 (x1.trans (x2.trans x3)) E3.pop⟩)
theorem jt_op {r : R2} (ht : ∀ ta tb, PE X a ta → PE X b tb → PT X e (tTest (tOp r ta tb))) {x y : D} {γ : Type} {mr : R γ} {bn : γ → Bool} (ha : JP X B ρ a x) (hb : JP X B ρ b y) (hr : OpD X.K B r x y mr (fun z => .val (.bool (bn z)))) : JT X B ρ e mr bn (fun _ => ρ) := by
  refine PT_imp (ht _ _ ha hb) fun σ H Q ⟨G, E, q⟩ => ?_
  refine ⟨G, E, fun vx G1 H1 x1 E1 => ?_⟩
  refine ⟨G1, E1.pop, fun vy G2 H2 x2 E2 => ?_⟩
  exact hr G2 H2 σ ρ vx vy _ E2.pop (E1.top.ex x2) E2.top (R.post_mono q fun z q v G3 H3 x3 E3 => ⟨_, E3.top.bl_inv, q G3 H3 (x1.trans (x2.trans x3)) E3.pop⟩)
/-- lists of one kind -/
theorem je_lstT {β : Type} {m : R β} {as : β → List Ar} {ρ' : β → List Slot} (f : α → D) (xs : β → List α) (h : JA X B ρ es m as ρ') (hd : ∀ b, arDs (as b) = (xs b).map f := by intro _; rfl) (hs : ∀ b, noSlots (as b) = true := by intro _; rfl) (hl : ∀ b, (arDs (as b)).length ≤ 1000 := by intro _; exact of_decide_eq_true rfl) : JE X B ρ (.List es pos) m (fun b => .own 0 (oL f (xs b))) ρ' := by
  have := je_lst (pos := pos) h hs hl
  simp only [hd] at this
  exact this
theorem je_slLm {o1 o2 : Option Expr} {p2 : Pos} {lo hi : Option Int} {m : R β} {f : α → D} {xs : β → List α} {ρ' : β → List Slot} (h : JE X B ρ a m (fun b => .val (eL f (xs b))) ρ') (h1 : ∀ b, JO X B (ρ' b) o1 lo) (h2 : ∀ b, JO X B (ρ' b) o2 hi) :
    JE X B ρ (.Subscript a (.Slice o1 o2 none p2) pos) m (fun b => .own 0 (oL f (cut (xs b) lo hi))) ρ' := by
  have := je_slL (pos := pos) (p2 := p2) h h1 h2
  simp only [cut_map] at this
  exact this
theorem od_catm {K : PySem.W.Frag} {f : α → D} {xs ys : List α} : OpD K B rCatR (eL f xs) (eL f ys) (R.guard (xs.length + ys.length ≤ sizeLine)) (fun _ => .own 0 (oL f (xs ++ ys))) := by
  have := od_cat (K := K) (B := B) (ds := xs.map f) (es := ys.map f)
  simp only [List.length_map] at this
  rw [← List.map_append] at this
  exact this
/-- loops over what is pure -/
theorem ji_rng1P {tg : Expr} {p : Pos} {i : Int} (hm : X.mg "range" = none) (h : JA X B ρ [a] (.ok ()) (fun _ => [.val (.int i)]) (fun _ => ρ)) (hg : Gl X "range" := by rfl) (hs : starEach [a] X.env = [(false, eval a X.env)] := by rfl) :
    JI X B ρ tg (.Call (.Name "range" p) [a] [] pos) (R.guard (rngOk i)) (fun _ => (rng 0 i).map D.int) (fun _ => ρ) :=
  PI_imp (ji_rng1 (fun _ => i) hm h (fun _ => rfl) hg hs) fun σ H Q ⟨G, E, q⟩ => ⟨G, E, by
    obtain ⟨hc, q⟩ := R.post_guard q
    show ((R.guard (rngOk i)).bind fun _ => R.ok ()).post _ _
    unfold R.guard
    rw [if_pos hc]
    exact q⟩
theorem js_forP {α S L T : Type} {xs : List α} {en : α → D} {s0 : S} {tg it : Expr} (ρS : S → List Slot) (ρB : α → S → List Slot) {f : α → S → R (Fl S S T)} {F : Fin S L T} {body : List Stmt} (hp : PassesOwn (model X.prog X.w) X.A X.env X.xe) (hc : X.calm = true)
    (hi : JI X B ρ tg it (.ok ()) (fun _ => xs.map en) (fun _ => ρ)) (bs : List Bool) (hw : forgot ρ bs = ρS s0) (hg : ∀ x s, JG X B (ρS s) tg (en x) (.ok ()) (fun _ => ρB x s))
    (hb : ∀ x s, JSs X B (ρB x s) body (f x s) ⟨ρS, ρS, ρS, F.s, F.t⟩) (hn : F.n = ρS := by rfl) (hs : ∀ v, foldedSetIterable it X.env v = pure v := by intro _; rfl) : JS X B ρ (.For tg it body [] pos) (forR f xs s0) F :=
  js_for (m := .ok ()) (xs := fun _ => xs) (s0 := fun _ => s0) (ρ' := fun _ => ρ) ρS ρB hp hc hi bs (fun _ => hw) hg hb hn hs
theorem jt_pb {t : Bool} (h : TP0 X B ρ e t) : JT X B ρ e (.ok t) (fun b => b) (fun _ => ρ) := h
theorem cb_lenLm {K : PySem.W.Frag} {f : α → D} {xs : List α} : CbD K B ρ (fun xs H Q => ∃ p ys, xs = [.ref p] ∧ (SqL K H p ys ∨ SqT K H p ys) ∧ Q (.int ys.length) H) [.val (eL f xs)] (.ok ()) (fun _ => .val (.int ((xs.length : Nat) : Int))) := by
  have := cb_lenL (K := K) (B := B) (ρ := ρ) (ds := xs.map f)
  rw [List.length_map] at this
  exact this
theorem cb_lenTm {K : PySem.W.Frag} {f : α → D} {xs : List α} : CbD K B ρ (fun xs H Q => ∃ p ys, xs = [.ref p] ∧ (SqL K H p ys ∨ SqT K H p ys) ∧ Q (.int ys.length) H) [.val (eT f xs)] (.ok ()) (fun _ => .val (.int ((xs.length : Nat) : Int))) := by
  have := cb_lenT (K := K) (B := B) (ρ := ρ) (ds := xs.map f)
  rw [List.length_map] at this
  exact this
/-! one part with effects -/
theorem je_opL {r : R2} (ht : ∀ ta tb, PE X a ta → PE X b tb → PE X e (tOp r ta tb)) {α : Type} {ma : R α} {xa y : α → D} {ρa : α → List Slot} {s : α → Slot} (ha : JE X B ρ a ma (fun x => .val (xa x)) ρa) (hb : ∀ x, JP X B (ρa x) b (y x)) (hr : ∀ x, OpD X.K B r (xa x) (y x) (.ok ()) (fun _ => s x)) : JE X B ρ e ma s ρa := by
  have hb' : PE X b (fun σ H Q => ∃ x, tJ X.K B (ρa x) (.ok ()) (fun _ => .val (y x)) (fun _ => ρa x) σ H Q) := ⟨fun pins s σ H Q I ⟨x, q⟩ => (hb x).run pins s σ H Q I q⟩
  exact PE_imp (ht _ _ ha hb') fun σ H Q ⟨G, E, q⟩ => ⟨G, E, R.post_mono q fun x q1 vx G1 H1 x1 E1 => ⟨x, G1, E1.pop, fun vy G2 H2 x2 E2 => hr x G2 H2 σ (ρa x) vx vy Q E2.pop (E1.top.ex x2) E2.top fun v G3 H3 x3 E3 => q1 v G3 H3 (x1.trans (x2.trans x3)) E3⟩⟩
theorem je_opLG {r : R2} (ht : ∀ ta tb, PE X a ta → PE X b tb → PE X e (tOp r ta tb)) {α γ : Type} {ma : R α} {xa y : α → D} {ρa : α → List Slot} {mr : α → R γ} {s : α → γ → Slot} (ha : JE X B ρ a ma (fun x => .val (xa x)) ρa) (hb : ∀ x, JP X B (ρa x) b (y x)) (hr : ∀ x, OpD X.K B r (xa x) (y x) (mr x) (s x)) :
    JE X B ρ e (ma.bind fun x => (mr x).bind fun z => .ok (x, z)) (fun p => s p.1 p.2) (fun p => ρa p.1) := by
  have hb' : PE X b (fun σ H Q => ∃ x, tJ X.K B (ρa x) (.ok ()) (fun _ => .val (y x)) (fun _ => ρa x) σ H Q) := ⟨fun pins s σ H Q I ⟨x, q⟩ => (hb x).run pins s σ H Q I q⟩
  exact PE_imp (ht _ _ ha hb') fun σ H Q ⟨G, E, q⟩ => ⟨G, E, R.post_mono (R.post_bind.mp q) fun x q1 vx G1 H1 x1 E1 => ⟨x, G1, E1.pop, fun vy G2 H2 x2 E2 => hr x G2 H2 σ (ρa x) vx vy Q E2.pop (E1.top.ex x2) E2.top (R.post_mono (R.post_bind.mp q1) fun z q2 v G3 H3 x3 E3 => q2 v G3 H3 (x1.trans (x2.trans x3)) E3)⟩⟩
theorem je_opR {r : R2} (ht : ∀ ta tb, PE X a ta → PE X b tb → PE X e (tOp r ta tb)) {β : Type} {x : D} {mb : R β} {xb : β → D} {ρb : β → List Slot} {s : β → Slot} (ha : JP X B ρ a x) (hb : JE X B ρ b mb (fun y => .val (xb y)) ρb) (hr : ∀ y, OpD X.K B r x (xb y) (.ok ()) (fun _ => s y)) : JE X B ρ e mb s ρb :=
  PE_imp (ht _ _ ha hb) fun σ H Q ⟨G, E, q⟩ => ⟨G, E, fun vx G1 H1 x1 E1 => ⟨G1, E1.pop, R.post_mono q fun y q1 vy G2 H2 x2 E2 => hr y G2 H2 σ (ρb y) vx vy Q E2.pop (E1.top.ex x2) E2.top fun v G3 H3 x3 E3 => q1 v G3 H3 (x1.trans (x2.trans x3)) E3⟩⟩
theorem je_opRG {r : R2} (ht : ∀ ta tb, PE X a ta → PE X b tb → PE X e (tOp r ta tb)) {β γ : Type} {x : D} {mb : R β} {xb : β → D} {ρb : β → List Slot} {mr : β → R γ} {s : β → γ → Slot} (ha : JP X B ρ a x) (hb : JE X B ρ b mb (fun y => .val (xb y)) ρb) (hr : ∀ y, OpD X.K B r x (xb y) (mr y) (s y)) :
    JE X B ρ e (mb.bind fun y => (mr y).bind fun z => .ok (y, z)) (fun p => s p.1 p.2) (fun p => ρb p.1) :=
  PE_imp (ht _ _ ha hb) fun σ H Q ⟨G, E, q⟩ => ⟨G, E, fun vx G1 H1 x1 E1 => ⟨G1, E1.pop, R.post_mono (R.post_bind.mp q) fun y q1 vy G2 H2 x2 E2 => hr y G2 H2 σ (ρb y) vx vy Q E2.pop (E1.top.ex x2) E2.top (R.post_mono (R.post_bind.mp q1) fun z q2 v G3 H3 x3 E3 => q2 v G3 H3 (x1.trans (x2.trans x3)) E3)⟩⟩
theorem jt_opL {r : R2} (ht : ∀ ta tb, PE X a ta → PE X b tb → PT X e (tTest (tOp r ta tb))) {α : Type} {ma : R α} {xa y : α → D} {ρa : α → List Slot} {bn : α → Bool} (ha : JE X B ρ a ma (fun x => .val (xa x)) ρa) (hb : ∀ x, JP X B (ρa x) b (y x)) (hr : ∀ x, OpD X.K B r (xa x) (y x) (.ok ()) (fun _ => .val (.bool (bn x)))) : JT X B ρ e ma bn ρa := by
  have hb' : PE X b (fun σ H Q => ∃ x, tJ X.K B (ρa x) (.ok ()) (fun _ => .val (y x)) (fun _ => ρa x) σ H Q) := ⟨fun pins s σ H Q I ⟨x, q⟩ => (hb x).run pins s σ H Q I q⟩
  exact PT_imp (ht _ _ ha hb') fun σ H Q ⟨G, E, q⟩ => ⟨G, E, R.post_mono q fun x q1 vx G1 H1 x1 E1 => ⟨x, G1, E1.pop, fun vy G2 H2 x2 E2 => hr x G2 H2 σ (ρa x) vx vy _ E2.pop (E1.top.ex x2) E2.top fun v G3 H3 x3 E3 => ⟨_, E3.top.bl_inv, q1 G3 H3 (x1.trans (x2.trans x3)) E3.pop⟩⟩⟩
theorem jt_opLG {r : R2} (ht : ∀ ta tb, PE X a ta → PE X b tb → PT X e (tTest (tOp r ta tb))) {α γ : Type} {ma : R α} {xa y : α → D} {ρa : α → List Slot} {mr : α → R γ} {bn : α → γ → Bool} (ha : JE X B ρ a ma (fun x => .val (xa x)) ρa) (hb : ∀ x, JP X B (ρa x) b (y x)) (hr : ∀ x, OpD X.K B r (xa x) (y x) (mr x) (fun z => .val (.bool (bn x z)))) :
    JT X B ρ e (ma.bind fun x => (mr x).bind fun z => .ok (x, z)) (fun p => bn p.1 p.2) (fun p => ρa p.1) := by
  have hb' : PE X b (fun σ H Q => ∃ x, tJ X.K B (ρa x) (.ok ()) (fun _ => .val (y x)) (fun _ => ρa x) σ H Q) := ⟨fun pins s σ H Q I ⟨x, q⟩ => (hb x).run pins s σ H Q I q⟩
  exact PT_imp (ht _ _ ha hb') fun σ H Q ⟨G, E, q⟩ => ⟨G, E, R.post_mono (R.post_bind.mp q) fun x q1 vx G1 H1 x1 E1 => ⟨x, G1, E1.pop, fun vy G2 H2 x2 E2 => hr x G2 H2 σ (ρa x) vx vy _ E2.pop (E1.top.ex x2) E2.top (R.post_mono (R.post_bind.mp q1) fun z q2 v G3 H3 x3 E3 => ⟨_, E3.top.bl_inv, q2 G3 H3 (x1.trans (x2.trans x3)) E3.pop⟩)⟩⟩
theorem jt_opR {r : R2} (ht : ∀ ta tb, PE X a ta → PE X b tb → PT X e (tTest (tOp r ta tb))) {β : Type} {x : D} {mb : R β} {xb : β → D} {ρb : β → List Slot} {bn : β → Bool} (ha : JP X B ρ a x) (hb : JE X B ρ b mb (fun y => .val (xb y)) ρb) (hr : ∀ y, OpD X.K B r x (xb y) (.ok ()) (fun _ => .val (.bool (bn y)))) : JT X B ρ e mb bn ρb :=
  PT_imp (ht _ _ ha hb) fun σ H Q ⟨G, E, q⟩ => ⟨G, E, fun vx G1 H1 x1 E1 => ⟨G1, E1.pop, R.post_mono q fun y q1 vy G2 H2 x2 E2 => hr y G2 H2 σ (ρb y) vx vy _ E2.pop (E1.top.ex x2) E2.top fun v G3 H3 x3 E3 => ⟨_, E3.top.bl_inv, q1 G3 H3 (x1.trans (x2.trans x3)) E3.pop⟩⟩⟩
theorem jt_opRG {r : R2} (ht : ∀ ta tb, PE X a ta → PE X b tb → PT X e (tTest (tOp r ta tb))) {β γ : Type} {x : D} {mb : R β} {xb : β → D} {ρb : β → List Slot} {mr : β → R γ} {bn : β → γ → Bool} (ha : JP X B ρ a x) (hb : JE X B ρ b mb (fun y => .val (xb y)) ρb) (hr : ∀ y, OpD X.K B r x (xb y) (mr y) (fun z => .val (.bool (bn y z)))) :
    JT X B ρ e (mb.bind fun y => (mr y).bind fun z => .ok (y, z)) (fun p => bn p.1 p.2) (fun p => ρb p.1) :=
  PT_imp (ht _ _ ha hb) fun σ H Q ⟨G, E, q⟩ => ⟨G, E, fun vx G1 H1 x1 E1 => ⟨G1, E1.pop, R.post_mono (R.post_bind.mp q) fun y q1 vy G2 H2 x2 E2 => hr y G2 H2 σ (ρb y) vx vy _ E2.pop (E1.top.ex x2) E2.top (R.post_mono (R.post_bind.mp q1) fun z q2 v G3 H3 x3 E3 => ⟨_, E3.top.bl_inv, q2 G3 H3 (x1.trans (x2.trans x3)) E3.pop⟩)⟩⟩
theorem ja_el {α : Type} {ma : R α} {xa : α → D} {ρa : α → List Slot} {as : α → List Ar} (h : JE X B ρ e ma (fun x => .val (xa x)) ρa) (t : ∀ x, JA X B (ρa x) es (.ok ()) (fun _ => as x) (fun _ => ρa x)) (hst : starEach (e :: es) X.env = (false, eval e X.env) :: starEach es X.env := by rfl) :
    JA X B ρ (e :: es) ma (fun x => .val (xa x) :: as x) ρa := by
  have t' : PA X es (fun σ H Q => ∃ x, tJA X.K B (ρa x) (.ok ()) (fun _ => as x) (fun _ => ρa x) σ H Q) := ⟨fun pos pins s σ H Q I ⟨x, q⟩ => (t x).run pos pins s σ H Q I q⟩
  exact PA_imp (pa_cons h t' hst) fun σ H Q ⟨G, E, q⟩ => ⟨G, E, R.post_mono q fun x k v G1 H1 x1 E1 => ⟨x, G1, E1.pop, fun vs G2 H2 x2 E2 ok => k _ G2 H2 (x1.trans x2) E2 (.val (E1.top.ex x2) ok)⟩⟩
theorem je_cbN {E0 : Expr} {r : List V → Hp → VK → Prop} (hp : ∀ t, PA X es t → PE X E0 (tCB r t)) {β : Type} {ma : R β} {as : β → List Ar} {ρa : β → List Slot} {s : β → Slot} (ha : JA X B ρ es ma as ρa) (hr : ∀ x, CbD X.K B (ρa x) r (as x) (.ok ()) (fun _ => s x)) :
    JE X B ρ E0 ma s ρa :=
  PE_imp (hp _ ha) fun σ H Q ⟨G, E, q⟩ => ⟨G, E, R.post_mono q fun x q1 vs G1 H1 x1 E1 ok => hr x G1 H1 σ vs Q E1 ok fun v G2 H2 x2 E2 => q1 v G2 H2 (x1.trans x2) E2⟩
/-! what needs no look: written numbers -/
theorem od_mulC {K : PySem.W.Frag} {i j : Int} (h : CMul i j := by first | exact .inl (by decide) | exact .inr (by decide)) : OpD K B (rI CMul fun i j => .int (i * j)) (.int i) (.int j) (.ok ()) (fun _ => .val (.int (i * j))) :=
  od_val0 (fun G H vx vy Q _ hx hy q => ⟨i, j, hx.int_inv, hy.int_inv, h, q⟩) fun _ => .int _
theorem od_modC {K : PySem.W.Frag} {i j : Int} (h : 0 < j := by decide) : OpD K B (rI (fun _ j => 0 < j) fun i j => .int (i % j)) (.int i) (.int j) (.ok ()) (fun _ => .val (.int (i % j))) :=
  od_val0 (fun G H vx vy Q _ hx hy q => ⟨i, j, hx.int_inv, hy.int_inv, h, q⟩) fun _ => .int _
theorem od_fdivC {K : PySem.W.Frag} {i j : Int} (h : 0 < j ∧ j < 1073741824 := by decide) : OpD K B (rI CDiv fun i j => .int (i / j)) (.int i) (.int j) (.ok ()) (fun _ => .val (.int (i / j))) :=
  od_val0 (fun G H vx vy Q _ hx hy q => ⟨i, j, hx.int_inv, hy.int_inv, h, q⟩) fun _ => .int _
theorem od_powC {K : PySem.W.Frag} {i j : Int} (h : CPow i j := by decide) : OpD K B (rI CPow fun i j => .int (i ^ j.toNat)) (.int i) (.int j) (.ok ()) (fun _ => .val (.int (i ^ j.toNat))) :=
  od_val0 (fun G H vx vy Q _ hx hy q => ⟨i, j, hx.int_inv, hy.int_inv, h, q⟩) fun _ => .int _
theorem cb_lenP2 {K : PySem.W.Frag} {α β : Type} {f : α → D} {g : β → D} {p : α × β} : CbD K B ρ (fun xs H Q => ∃ p ys, xs = [.ref p] ∧ (SqL K H p ys ∨ SqT K H p ys) ∧ Q (.int ys.length) H) [.val (eP2 f g p)] (.ok ()) (fun _ => .val (.int 2)) := cb_lenT (ds := [f p.1, g p.2])
theorem cb_lenP3 {K : PySem.W.Frag} {α β γ : Type} {f : α → D} {g : β → D} {h : γ → D} {p : α × β × γ} : CbD K B ρ (fun xs H Q => ∃ p ys, xs = [.ref p] ∧ (SqL K H p ys ∨ SqT K H p ys) ∧ Q (.int ys.length) H) [.val (eP3 f g h p)] (.ok ()) (fun _ => .val (.int 3)) := cb_lenT (ds := [f p.1, g p.2.1, h p.2.2])
theorem cb_lenP4 {K : PySem.W.Frag} {α β γ δ : Type} {f : α → D} {g : β → D} {h : γ → D} {k : δ → D} {p : α × β × γ × δ} : CbD K B ρ (fun xs H Q => ∃ p ys, xs = [.ref p] ∧ (SqL K H p ys ∨ SqT K H p ys) ∧ Q (.int ys.length) H) [.val (eP4 f g h k p)] (.ok ()) (fun _ => .val (.int 4)) := cb_lenT (ds := [f p.1, g p.2.1, h p.2.2.1, k p.2.2.2])
/-! calls that change nothing here -/
section
variable {CX : CXT} {k : Nat} {f : Addr} {fd : FuncData} {ps : List Str} {EE : XK} {x : Str} {p : Pos}
theorem je_callV {α β : Type} {ins : α → List Slot} {mf : α → R β} {sl : β → Slot} {outs : β → List Slot} (F : FnG X.prog X.w X.K X.mg X.base CX k f fd ps (spM X.K ins mf sl outs)) (hr : RoomG k X.A) (hg : Gl X x) (hm : X.mg x = some (.ref f)) (hk : PySem.W.keepIn X.K (.ref f) = true)
    (hb : Binds X.K fd ps []) (hx : Passes CX X EE) {as : List Ar} (arg : α) (ha : JA X B ρ (e :: es) (.ok ()) (fun _ => as) (fun _ => ρ)) (hne : ∀ e, ¬ B.rs e) (hi : goodIn ρ as = true := by rfl) (hins : insAt 0 ρ as = ins arg := by rfl)
    (ho : ∀ b, goodOut 0 as (outs b) = true := by intro _; rfl) (hal : aliOk ρ as = true := by rfl) (hres : ∀ b, resOk (sl b) = true := by intro _; rfl) (hns : noSlots as = true := by rfl)
    (hdb : (x == ("__debug__" : Str)) = false := by decide) (he : starEach (e :: es) X.env = (false, eval e X.env) :: starEach es X.env := by rfl) (hpl : (backTo pos (starEach es X.env)).any (·.1) = false := by rfl) :
    JE X B ρ (.Call (.Name x p) (e :: es) [] pos) (mf arg) sl (fun _ => ρ) := by
  have := je_callP (pos := pos) (p := p) F hr hg hm hk hb hx arg ha hne hi hins ho hal hres hdb he hpl
  simp only [backAt_noSlots hns, movedAt_noSlots hns] at this
  exact this
theorem je_callVE {α β γ : Type} {ins : α → List Slot} {mf : α → R β} {sl : β → Slot} {outs : β → List Slot} (F : FnG X.prog X.w X.K X.mg X.base CX k f fd ps (spM X.K ins mf sl outs)) (hr : RoomG k X.A) (hg : Gl X x) (hm : X.mg x = some (.ref f)) (hk : PySem.W.keepIn X.K (.ref f) = true)
    (hb : Binds X.K fd ps []) (hx : Passes CX X EE) {ma : R γ} {as : γ → List Ar} {ρa : γ → List Slot} (arg : γ → α) (ha : JA X B ρ (e :: es) ma as ρa) (hne : ∀ e, ¬ B.rs e) (hi : ∀ c, goodIn (ρa c) (as c) = true := by intro _; rfl) (hins : ∀ c, insAt 0 (ρa c) (as c) = ins (arg c) := by intro _; rfl)
    (ho : ∀ c b, goodOut 0 (as c) (outs b) = true := by intro _ _; rfl) (hal : ∀ c, aliOk (ρa c) (as c) = true := by intro _; rfl) (hres : ∀ b, resOk (sl b) = true := by intro _; rfl) (hns : ∀ c, noSlots (as c) = true := by intro _; rfl)
    (hdb : (x == ("__debug__" : Str)) = false := by decide) (he : starEach (e :: es) X.env = (false, eval e X.env) :: starEach es X.env := by rfl) (hpl : (backTo pos (starEach es X.env)).any (·.1) = false := by rfl) :
    JE X B ρ (.Call (.Name x p) (e :: es) [] pos) (ma.bind fun c => (mf (arg c)).bind fun b => .ok (c, b)) (fun y => sl y.2) (fun y => ρa y.1) := by
  have := je_call (pos := pos) (p := p) F hr hg hm hk hb hx arg ha hne hi hins ho hal hres hdb he hpl
  simp only [backAt_noSlots (hns _), movedAt_noSlots (hns _)] at this
  exact this
end
end
/-- the law's own promise, from its mirror's answer -/
theorem law_sp {K : PySem.W.Frag} {H : Hp} {a : Addr} {ns : List Int} {E : XK} (hS : SqL K H a (ns.map V.int)) {ins : List Int → List Slot} {m : List Int → R Bool} {sl : Bool → Slot} {outs : Bool → List Slot} (hm : m ns = .ok true) (hi : ins ns = [.val (.scr ns)] := by rfl) (hs : sl true = .val (.bool true) := by rfl) :
    spM K ins m sl outs [.ref a] H (fun v _ => v = .bl true) E := by
  refine ⟨ns, H, [], ⟨⟨fun x o _ e => e, fun x l m => ?_, Ex.refl H, fun x _ e => e, Ex.refl H⟩, ⟨[], ?_, List.nodup_nil, fun _ m => nomatch m⟩, ?_, fun i j p e => ?_⟩, ?_⟩
  · cases l with
    | zero => exact nomatch m
    | succ l => exact nomatch m
  · rw [hi]
    exact .cons (A := []) (.val (.scr hS)) .nil
  · rw [hi]
    rfl
  · rw [hi] at e
    cases i with
    | zero => cases e
    | succ i => cases e
  · rw [hm]
    intro v G' H' E'
    rw [hs] at E'
    exact E'.top.bl_inv
end DL

/-! DL10: list comprehensions -/
namespace DL
open PySem PySem.Spec L2

/-! ### targets that are names: what they touch -/
def tJN (K : PySem.W.Frag) (B : Base) (ρ : List Slot) (d : D) (ts : List Nat) (ρ' : List Slot) : TG := fun v σ H Q =>
  ∃ G, En K B G H σ ρ [] ∧ Rp K G v d ∧ ∀ σ', (∀ i, i ∉ ts → σ'[i]? = σ[i]?) → σ'.length = σ.length → En K B G H σ' ρ' [] → Q σ' H
def JN (X : Cx) (B : Base) (ρ : List Slot) (tg : Expr) (d : D) (ts : List Nat) (ρ' : List Slot) : Prop := PG X tg (tJN X.K B ρ d ts ρ')
def tJNs (K : PySem.W.Frag) (B : Base) (ρ : List Slot) (ds : List D) (ts : List Nat) (ρ' : List Slot) : TGs := fun vs σ H Q =>
  ∃ G, En K B G H σ ρ [] ∧ RpAll K G vs ds ∧ ∀ σ', (∀ i, i ∉ ts → σ'[i]? = σ[i]?) → σ'.length = σ.length → En K B G H σ' ρ' [] → Q σ' H
def JNs (X : Cx) (B : Base) (ρ : List Slot) (es : List Expr) (ds : List D) (ts : List Nat) (ρ' : List Slot) : Prop := PGs X es (tJNs X.K B ρ ds ts ρ')
section
variable {X : Cx} {B : Base} {ρ : List Slot} {pos : Pos} {e : Expr}
theorem jn_name (i : Nat) {x : Str} {d : D} (hN : X.N.Nodup) (hi : X.N[i]? = some x := by rfl) (hx : Loc X.env.scope x := by first | exact Or.inl rfl | exact Or.inr rfl) (hf : X.fn x = true ∨ X.env.scope.names.lookup x = some .local := by first | exact .inl rfl | exact .inr rfl)
    (hlt : i < ρ.length := by exact of_decide_eq_true rfl) (hal : noAli i ρ = true := by rfl) : JN X B ρ (.Name x pos) d [i] (ρ.set i (.val d)) :=
  PG_imp (pg_name (i := i) hN hi hx hf) fun v σ H Q ⟨G, E, r, q⟩ => q (σ.set i (some v)) (fun j hj => by
    rw [List.getElem?_set_ne (fun z => hj (by rw [z]; exact List.mem_singleton.mpr rfl))]) (by rw [List.length_set]) ((E.push r).set hlt (fun _ _ z => nomatch z) hal)
theorem jns_nil : JNs X B ρ [] [] [] ρ := PGs_imp pgs_nil fun vs σ H Q ⟨G, E, r, q⟩ => by
  cases r
  exact ⟨rfl, q σ (fun _ _ => rfl) rfl E⟩
theorem jns_cons {es : List Expr} {d : D} {ds : List D} {ts ts2 : List Nat} {ρ1 ρ2 : List Slot} (h : JN X B ρ e d ts ρ1) (t : JNs X B ρ1 es ds ts2 ρ2)
    (hs : (assignEach (e :: es) X.env).map (·.2) = assign e X.env :: (assignEach es X.env).map (·.2) := by rfl) : JNs X B ρ (e :: es) (d :: ds) (ts ++ ts2) ρ2 := by
  refine PGs_imp (pgs_cons h t hs) fun vs σ H Q ⟨G, E, r, q⟩ => ?_
  cases r with
  | cons r rr => exact ⟨_, _, rfl, G, E, r, fun σ' h1 l1 E' => ⟨G, E', rr, fun σ2 h2 l2 E2 => q σ2 (fun i hi => by
      have hi' : i ∉ ts ∧ i ∉ ts2 := by
        constructor
        · exact fun z => hi (List.mem_append_left _ z)
        · exact fun z => hi (List.mem_append_right _ z)
      rw [h2 i hi'.2, h1 i hi'.1]) (l2.trans l1) E2⟩⟩
theorem jn_tup {es : List Expr} {k : Nat} {ds : List D} {ts : List Nat} {ρ' : List Slot} (hc : X.calm = true) (h : JNs X B ρ es ds ts ρ') (hn : (assignEach es X.env).length = ds.length := by rfl) (hst : (assignEach es X.env).findIdx? (·.1) = none := by rfl) : JN X B ρ (.Tuple es k pos) (.tuple ds) ts ρ' :=
  PG_imp (pg_tup (n := ds.length) hc h hn hst) fun v σ H Q ⟨G, E, r, q⟩ => by
    obtain ⟨a, xs, rfl, hS, hr⟩ := r.tup_inv
    exact ⟨a, xs, rfl, E.sub.t hS, hr.len, G, E, hr, q⟩
end
/-! ### slots within, slots behind -/
/-- the block's own slots forgotten -/
def blot : Nat → List Nat → List Slot → List Slot
  | _, _, [] => []
  | n, vs, s :: ρ => (if vs.contains n then .non else s) :: blot (n + 1) vs ρ
/-- the outer slots, but for what the block's own ones hide -/
def unblot : Nat → List Nat → List Slot → List Slot → List Slot
  | n, vs, s :: ρ, t :: ρ2 => (if vs.contains n then s else t) :: unblot (n + 1) vs ρ ρ2
  | _, _, _, _ => []
def isPlain : Slot → Bool
  | .non => true
  | .val _ => true
  | .own _ _ => false
  | .ali _ _ => false
/-- the block's own slots hold no owned thing -/
def plainAt : Nat → List Nat → List Slot → Bool
  | _, _, [] => true
  | n, vs, s :: ρ => (if vs.contains n then isPlain s else true) && plainAt (n + 1) vs ρ
section
variable {K : PySem.W.Frag} {B : Base} {G G' H H' : Hp}
theorem Cells.blot : ∀ {σ σ2 : L2.St} {ρ : List Slot} {A : List Addr} (n : Nat) (vs : List Nat), Cells K B G H σ ρ A → plainAt n vs ρ = true → σ2.length = σ.length → (∀ i, (n + i) ∉ vs → σ2[i]? = σ[i]?) → Cells K B G H σ2 (blot n vs ρ) A
  | _, σ2, _, _, n, vs, .nil, _, hl, _ => by
    cases σ2 with
    | nil => exact .nil
    | cons a b => cases hl
  | _, σ2, _, _, n, vs, .cons (s := s) (A := A1) c r, hp, hl, hk => by
    cases σ2 with
    | nil => cases hl
    | cons y σ2 =>
      rw [plainAt, Bool.and_eq_true] at hp
      have r' := Cells.blot (n + 1) vs r hp.2 (by simpa using hl) (σ2 := σ2) (fun i hi => by
        have := hk (i + 1) (by rw [show n + (i + 1) = n + 1 + i by omega]; exact hi)
        simpa using this)
      rw [DL.blot]
      by_cases hc : vs.contains n = true
      · rw [if_pos hc]
        have h1 := hp.1
        rw [if_pos hc] at h1
        have e : A1 = [] := by
          cases c with
          | non => rfl
          | val _ => rfl
          | own _ _ _ => simp [isPlain] at h1
          | ali => rfl
        subst e
        exact .cons .non r'
      · rw [if_neg hc]
        have := hk 0 (by
          intro z
          exact hc (List.contains_iff_mem.mpr (by simpa using z)))
        simp at this
        rw [this]
        exact .cons c r'
theorem Cells.unblot {B0 : Base} : ∀ {σ σ2 : L2.St} {ρ ρ2 : List Slot} {A A0 : List Addr} (n : Nat) (vs : List Nat), Cells K B0 G H σ ρ A0 → Ex G G' → Cells K B G' H' σ2 ρ2 A → plainAt n vs ρ = true → plainAt n vs ρ2 = true → (∀ i, (n + i) ∉ vs → σ2[i]? = σ[i]?) → σ2.length = σ.length → Cells K B G' H' σ (unblot n vs ρ ρ2) A
  | _, σ2, _, _, A, _, n, vs, .nil, _, c2, _, _, _, hl => by
    cases c2 with
    | nil => exact .nil
    | cons _ _ => cases hl
  | _, σ2, _, _, A, _, n, vs, .cons (s := s) (A := A1) c r, e, c2, hp, hp2, hk, hl => by
    cases c2 with
    | nil => cases hl
    | @cons y t B1 σ2 ρ2 B2 d r2 =>
      rw [plainAt, Bool.and_eq_true] at hp hp2
      have r' := Cells.unblot (n + 1) vs r e r2 hp.2 hp2.2 (fun i hi => by
        have := hk (i + 1) (by rw [show n + (i + 1) = n + 1 + i by omega]; exact hi)
        simpa using this) (by simpa using hl)
      rw [DL.unblot]
      by_cases hc : vs.contains n = true
      · rw [if_pos hc]
        have h1 := hp.1
        have h2 := hp2.1
        rw [if_pos hc] at h1 h2
        have e2 : B1 = [] := by
          cases d with
          | non => rfl
          | val _ => rfl
          | own _ _ _ => simp [isPlain] at h2
          | ali => rfl
        subst e2
        cases c with
        | non => exact .cons .non r'
        | val h => exact .cons (.val (h.ex e)) r'
        | own _ _ _ => simp [isPlain] at h1
        | ali => simp [isPlain] at h1
      · rw [if_neg hc]
        have := hk 0 (by
          intro z
          exact hc (List.contains_iff_mem.mpr (by simpa using z)))
        simp at this
        rw [← this]
        exact .cons d r'
theorem blot_len : ∀ (n : Nat) (vs : List Nat) (ρ : List Slot), (blot n vs ρ).length = ρ.length
  | _, _, [] => rfl
  | n, vs, s :: ρ => by rw [blot, List.length_cons, List.length_cons, blot_len]
theorem unblot_len : ∀ (n : Nat) (vs : List Nat) (ρ ρ2 : List Slot), ρ2.length = ρ.length → (unblot n vs ρ ρ2).length = ρ.length
  | _, _, [], [], _ => rfl
  | n, vs, s :: ρ, t :: ρ2, h => by rw [unblot, List.length_cons, List.length_cons, unblot_len _ _ _ _ (by simpa using h)]
theorem blot_noAli : ∀ {ρ : List Slot} (n : Nat) (vs : List Nat), noAlis ρ = true → noAlis (blot n vs ρ) = true
  | [], _, _, _ => rfl
  | s :: ρ, n, vs, h => by
    rw [blot]
    have h' : noAlis ρ = true := by
      cases s <;> simp [noAlis] at h <;> exact h
    by_cases hc : vs.contains n = true
    · rw [if_pos hc]
      exact blot_noAli (n + 1) vs h'
    · rw [if_neg hc]
      cases s with
      | non => exact blot_noAli (n + 1) vs h'
      | val _ => exact blot_noAli (n + 1) vs h'
      | own _ _ => exact blot_noAli (n + 1) vs h'
      | ali _ _ => simp [noAlis] at h
theorem unblot_noAli : ∀ {ρ ρ2 : List Slot} (n : Nat) (vs : List Nat), noAlis ρ = true → noAlis ρ2 = true → noAlis (unblot n vs ρ ρ2) = true
  | [], [], _, _, _, _ => rfl
  | [], _ :: _, _, _, _, _ => rfl
  | _ :: _, [], _, _, _, _ => rfl
  | s :: ρ, t :: ρ2, n, vs, h, h2 => by
    rw [unblot]
    have h' : noAlis ρ = true := by
      cases s <;> simp [noAlis] at h <;> exact h
    have h2' : noAlis ρ2 = true := by
      cases t <;> simp [noAlis] at h2 <;> exact h2
    by_cases hc : vs.contains n = true
    · rw [if_pos hc]
      cases s with
      | non => exact unblot_noAli (n + 1) vs h' h2'
      | val _ => exact unblot_noAli (n + 1) vs h' h2'
      | own _ _ => exact unblot_noAli (n + 1) vs h' h2'
      | ali _ _ => simp [noAlis] at h
    · rw [if_neg hc]
      cases t with
      | non => exact unblot_noAli (n + 1) vs h' h2'
      | val _ => exact unblot_noAli (n + 1) vs h' h2'
      | own _ _ => exact unblot_noAli (n + 1) vs h' h2'
      | ali _ _ => simp [noAlis] at h2
/-- into the block -/
theorem En.inB {σ σ2 : L2.St} {ρ : List Slot} (E : En K B G H σ ρ []) (vs : List Nat) (hp : plainAt 0 vs ρ = true) (ha : noAlis ρ = true) (hl : σ2.length = σ.length) (hk : ∀ i, i ∉ vs → σ2[i]? = σ[i]?) : En K B G H σ2 (blot 0 vs ρ) [] := by
  obtain ⟨A, c, n, f⟩ := E.own
  exact ⟨E.anc, ⟨A, Cells.blot 0 vs (show Cells K B G H σ ρ A from c) hp hl (fun i hi => hk i (by simpa using hi)), n, f⟩, by rw [blot_len, hl, E.len], fun i j p e => absurd e (noAlis_get (blot_noAli 0 vs ha))⟩
/-- out of it -/
theorem En.outB {B0 : Base} {σ σ2 : L2.St} {ρ ρ2 : List Slot} (E : En K B0 G H σ ρ []) (E2 : En K B G' H' σ2 ρ2 []) (e : Ex G G') (vs : List Nat) (hp : plainAt 0 vs ρ = true) (hp2 : plainAt 0 vs ρ2 = true) (ha : noAlis ρ = true) (ha2 : noAlis ρ2 = true) (hk : ∀ i, i ∉ vs → σ2[i]? = σ[i]?) (hl : σ2.length = σ.length) : En K B G' H' σ (unblot 0 vs ρ ρ2) [] := by
  obtain ⟨A0, c0, _, _⟩ := E.own
  obtain ⟨A, c, n, f⟩ := E2.own
  refine ⟨E2.anc, ⟨A, Cells.unblot 0 vs (show Cells K B0 G H σ ρ A0 from c0) e (show Cells K B G' H' σ2 ρ2 A from c) hp hp2 (fun i hi => hk i (by simpa using hi)) hl, n, f⟩, ?_, fun i j p e => absurd e (noAlis_get (unblot_noAli 0 vs ha ha2))⟩
  rw [unblot_len _ _ _ _ (by rw [← E2.len, hl, E.len])]
  exact E.len
/-! ### the list that is made, out of reach -/
def Base.hide (B : Base) (p : Addr) (o : HO) : Base := { B with H0 := fun a => if a = p then some o else B.H0 a }
/-- an address that was free at En is none of the caller's -/
theorem En.noMo {σ : L2.St} {ρ : List Slot} {ex : List (V × Slot)} {p : Addr} (E : En K B G H σ ρ ex) (hp : H p = none) : (∀ l, p ∉ B.Mo l) ∧ B.H0 p = none := ⟨fun l m => E.anc.there p l m hp, E.fresh hp⟩
theorem En.hideIn {σ : L2.St} {ρ : List Slot} {p : Addr} {ds : List D} (E : En K B G H σ ρ [(.ref p, .own 0 (.lst (ds.map OT.dat)))]) (hm : ∀ l, p ∉ B.Mo l) (h0 : B.H0 p = none) : ∃ vs, H p = some (.lst vs) ∧ RpAll K G vs ds ∧ En K (B.hide p (.lst vs)) G H σ ρ [] := by
  obtain ⟨A, c, n, f⟩ := E.own
  cases c with
  | @cons _ _ A1 _ _ A2 c1 cr =>
    cases c1 with
    | own hO hr hv =>
      cases hO with
      | @lst _ ws _ A3 hH hall =>
        obtain ⟨e3, r⟩ := own_dats_inv hall
        subst e3
        have hG : G p = none := f p (by simp)
        have hn : p ∉ A2 := (List.nodup_cons.mp n).1
        refine ⟨ws, hH, r, ⟨⟨fun a o ha e => ?_, E.anc.there, E.anc.gsub, fun a e1 e2 => ?_, E.anc.sub⟩, ⟨A2, ?_, (List.nodup_cons.mp n).2, fun a m => f a (List.mem_cons_of_mem _ m)⟩, E.len, E.ali⟩⟩
        · have e : (if a = p then some (HO.lst ws) else B.H0 a) = some o := e
          by_cases hap : a = p
          · rw [if_pos hap] at e
            rw [hap, hH]
            exact e
          · rw [if_neg hap] at e
            exact E.anc.keep a o ha e
        · by_cases hap : a = p
          · rw [hap]
            exact hG
          · have e1 : (if a = p then some (HO.lst ws) else B.H0 a) ≠ none := e1
            rw [if_neg hap] at e1
            exact E.anc.gnew a e1 e2
        · have gen : ∀ {σ : L2.St} {ρ : List Slot} {A : List Addr}, Cells K B G H σ ρ A → p ∉ A → Cells K (B.hide p (.lst ws)) G H σ ρ A := by
            intro σ ρ A h
            induction h with
            | nil => exact fun _ => .nil
            | cons c r ih =>
              intro hn
              refine .cons ?_ (ih fun z => hn (List.mem_append_right _ z))
              cases c with
              | non => exact .non
              | val h => exact .val h
              | ali => exact .ali
              | own h l v =>
                refine .own h (fun a m => (l a m).imp id fun z => ?_) v
                show (if a = p then _ else B.H0 a) = none
                rw [if_neg fun e => hn (List.mem_append_left _ (by rw [← e]; exact m))]
                exact z
          exact gen (show Cells K B G H σ ρ A2 from cr) hn
theorem En.hideOut {σ : L2.St} {ρ : List Slot} {p : Addr} {vs : List V} {ds : List D} (E : En K (B.hide p (.lst vs)) G H σ ρ []) (hm : ∀ l, p ∉ B.Mo l) (h0 : B.H0 p = none) (hG0 : B.G0 p = none) (r : RpAll K G vs ds) (ha : noAlis ρ = true) : H p = some (.lst vs) ∧ G p = none ∧
    ∀ (vs' : List V) (ds' : List D), RpAll K G vs' ds' → En K B G (upd H p (.lst vs')) σ ρ [(.ref p, .own 0 (.lst (ds'.map OT.dat)))] := by
  have hH : H p = some (.lst vs) := E.anc.keep p _ hm (by
    show (if p = p then some (HO.lst vs) else B.H0 p) = _
    rw [if_pos rfl])
  have hG : G p = none := E.anc.gnew p (by
    show (if p = p then some (HO.lst vs) else B.H0 p) ≠ none
    rw [if_pos rfl]
    exact fun z => nomatch z) hG0
  refine ⟨hH, hG, fun vs' ds' r' => ?_⟩
  obtain ⟨A, c, n, f⟩ := E.own
  have hn : p ∉ A := by
    intro m
    rcases Cells.region (show Cells K _ G H σ ρ A from c) p m with ⟨l, z⟩ | z
    · exact hm l z
    · have z : (if p = p then some (HO.lst vs) else B.H0 p) = none := z
      rw [if_pos rfl] at z
      cases z
  have gen : ∀ {σ : L2.St} {ρ : List Slot} {A : List Addr}, Cells K (B.hide p (.lst vs)) G H σ ρ A → p ∉ A → Cells K B G (upd H p (.lst vs')) σ ρ A := by
    intro σ ρ A h
    induction h with
    | nil => exact fun _ => .nil
    | cons c r ih =>
      intro hn
      refine .cons ?_ (ih fun z => hn (List.mem_append_right _ z))
      cases c with
      | non => exact .non
      | val h => exact .val h
      | ali => exact .ali
      | own h l v =>
        have hA := fun z => hn (List.mem_append_left _ z)
        refine .own (h.ex (Ex.refl _) fun a m u e => ?_) (fun a m => (l a m).imp id fun z => ?_) v
        · rw [upd_ne (fun z => hA (by rw [← z]; exact m))]
          exact e
        · have z : (if a = p then some (HO.lst vs) else B.H0 a) = none := z
          by_cases hap : a = p
          · rw [if_pos hap] at z
            cases z
          · rw [if_neg hap] at z
            exact z
  refine ⟨⟨fun a o ha e => ?_, fun a l m => ?_, E.anc.gsub, fun a e1 e2 => ?_, fun a o e => ?_⟩, ⟨p :: A, .cons (A := [p]) (.own (.lst upd_same (own_dats r')) (fun a m => .inr ?_) (.inl rfl)) (gen (show Cells K _ G H σ ρ A from c) hn), List.nodup_cons.mpr ⟨hn, n⟩, fun a m => ?_⟩, E.len, fun i j q e => ?_⟩
  · have hap : a ≠ p := fun z => by
      rw [z, h0] at e
      cases e
    rw [upd_ne hap]
    refine E.anc.keep a o ha ?_
    show (if a = p then some (HO.lst vs) else B.H0 a) = _
    rw [if_neg hap]
    exact e
  · have hap : a ≠ p := fun z => hm l (by rw [← z]; exact m)
    rw [upd_ne hap]
    exact E.anc.there a l m
  · refine E.anc.gnew a ?_ e2
    show (if a = p then some (HO.lst vs) else B.H0 a) ≠ none
    by_cases hap : a = p
    · rw [if_pos hap]
      exact fun z => nomatch z
    · rw [if_neg hap]
      exact e1
  · rw [upd_ne (ne_of_none e hG)]
    exact E.anc.sub a o e
  · rw [List.mem_singleton.mp m]
    exact h0
  · rcases List.mem_cons.mp m with rfl | m
    · exact hG
    · exact f a m
  · exact absurd e (noAlis_get ha)
end
theorem upd_id {H : Hp} {p : Addr} {o : HO} (h : H p = some o) : upd H p o = H := by
  funext a
  by_cases ha : a = p
  · subst ha
    rw [upd_same, h]
  · rw [upd_ne ha]
/-! ### the comprehension -/
def compR {α S γ : Type} (f : α → S → R (Option γ × S)) : List α → List γ → S → R (List γ × S)
  | [], acc, s => .ok (acc, s)
  | x :: xs, acc, s => (f x s).bind fun p => compR f xs (match p.1 with | some v => acc ++ [v] | none => acc) p.2
def compF {α S δ ε γ : Type} (c : α → S → R δ) (bn : δ → Bool) (me : α → S → R ε) (v : ε → γ) (st : ε → S) (x : α) (s : S) : R (Option γ × S) :=
  (c x s).bind fun d => if bn d = true then (me x s).bind fun y => .ok (some (v y), st y) else .ok (none, s)
def JTs (X : Cx) (B : Base) (ρ : List Slot) (es : List Expr) {β : Type} (m : R β) (bn : β → Bool) : Prop := PTs X es (tJT X.K B ρ m bn fun _ => ρ)
section
variable {X : Cx} {B : Base} {ρ : List Slot} {pos : Pos} {e a b tg it elt : Expr}
theorem jts_nil : JTs X B ρ [] (.ok ()) (fun _ => true) := ⟨fun pins s σ H Q I ⟨G, E, q⟩ => pts_nil.run pins s σ H Q I (q G H (Ex.refl G) E)⟩
theorem jts_one {β : Type} {m : R β} {bn : β → Bool} (h : JT X B ρ e m bn (fun _ => ρ)) : JTs X B ρ [e] m bn := pts_one h
abbrev Blk (X : Cx) (sc : Scope) (P : Cx → Prop) : Prop := ∀ (s : Shared) (H : Hp) (C : Addr) (cl : List (Str × Addr)) (fp : List Addr), P (X.blk s H sc (compEnvC sc cl C X.env) fp)
theorem wipe_eq {σ σ2 : L2.St} : ∀ {vs : List Nat}, σ2.length = σ.length → (∀ i, i ∉ vs → σ2[i]? = σ[i]?) → wipe σ2 vs = wipe σ vs := by
  have key : ∀ (σ : L2.St) (vs : List Nat) (i : Nat), (wipe σ vs)[i]? = if i ∈ vs ∧ i < σ.length then some none else σ[i]? := by
    intro σ vs
    induction vs with
    | nil => intro i; simp [wipe]
    | cons v vs ih =>
      intro i
      rw [wipe]
      by_cases hv : v = i
      · subst hv
        by_cases hl : v < σ.length
        · rw [List.getElem?_set_self (by rw [wipe_length]; exact hl), if_pos ⟨List.mem_cons_self, hl⟩]
        · rw [List.getElem?_eq_none (by rw [List.length_set, wipe_length]; omega), if_neg (fun z => hl z.2), List.getElem?_eq_none (by omega)]
      · rw [List.getElem?_set_ne hv, ih]
        have : (i ∈ v :: vs) ↔ i ∈ vs := by
          constructor
          · intro z
            rcases List.mem_cons.mp z with z | z
            · exact absurd z.symm hv
            · exact z
          · exact List.mem_cons_of_mem _
        simp only [this]
  intro vs hl hk
  apply List.ext_getElem?
  intro i
  rw [key, key, hl]
  by_cases hi : i ∈ vs
  · by_cases hlt : i < σ.length
    · rw [if_pos ⟨hi, hlt⟩, if_pos ⟨hi, hlt⟩]
    · rw [if_neg (fun z => hlt z.2), if_neg (fun z => hlt z.2), List.getElem?_eq_none (by omega), List.getElem?_eq_none (by omega)]
  · rw [if_neg (fun z => hi z.1), if_neg (fun z => hi z.1), hk i hi]
theorem tlc_of {K : PySem.W.Frag} {α S γ δ ε β0 : Type} {m : R β0} {xs : β0 → List α} {ea : α → D} {en : γ → D} {ρ1 : β0 → List Slot} {vs ts : List Nat} {ρS : S → List Slot} {s0 : β0 → S} {ρB : α → S → List Slot} {c : α → S → R δ} {bn : δ → Bool} {me : α → S → R ε} {v : ε → γ} {st : ε → S}
    (hw : ∀ b, ρ1 b = ρS (s0 b)) (hpl : ∀ s, plainAt 0 vs (ρS s) = true) (hna : ∀ s, noAlis (ρS s) = true) (hts : ∀ i ∈ ts, i ∈ vs) (hplB : ∀ x s, plainAt 0 vs (ρB x s) = true) (hnaB : ∀ x s, noAlis (ρB x s) = true) (hun : ∀ x s s', unblot 0 vs (ρS s) (ρB x s') = ρS s')
    {σ : L2.St} {H : Hp} {Q : VK}
    (q : tJ K B ρ (m.bind fun b => (R.guard ((xs b).length ≤ sizeLine)).bind fun _ => compR (compF c bn me v st) (xs b) [] (s0 b)) (fun p => .own 0 (oL en p.1)) (fun p => ρS p.2) σ H Q) :
    tLc (tJI K B ρ m (fun b => (xs b).map ea) ρ1) (fun w σ H Q => ∃ B' x s, B'.rs = B.rs ∧ tJN K B' (blot 0 vs (ρS s)) (ea x) ts (ρB x s) w σ H Q) (fun σ H Q => ∃ B' x s, B'.rs = B.rs ∧ tJT K B' (ρB x s) (c x s) bn (fun _ => ρB x s) σ H Q)
      (fun σ H Q => ∃ B' x s, B'.rs = B.rs ∧ tJ K B' (ρB x s) (me x s) (fun y => .val (en (v y))) (fun y => ρB x (st y)) σ H Q) vs σ H Q := by
  obtain ⟨G, E, q⟩ := q
  refine ⟨G, E, R.post_mono (R.post_bind.mp q) fun b q1 J G' H' xG E' Y p hp => ?_⟩
  obtain ⟨hsz, q2⟩ := R.post_guard (R.post_bind.mp q1)
  have hlen : ((xs b).map ea).length = (xs b).length := List.length_map _
  obtain ⟨hMo, hH0⟩ := E'.noMo hp
  have hG0 : B.G0 p = none := (E'.anc.gsub.trans E'.sub).back hp
  let W : Nat → Hp → Prop := fun i H1 => ∃ G1 s acc, Ex G' G1 ∧ En K B G1 H1 σ (ρS s) [(.ref p, .own 0 (oL en acc))] ∧ acc.length ≤ i ∧
    (compR (compF c bn me v st) ((xs b).drop i) acc s).post (fun r => ∀ w G2 H2, Ex G1 G2 → En K B G2 H2 σ (ρS r.2) [(w, .own 0 (oL en r.1))] → Q w H2) B.rs
  refine ⟨fun i mm H1 => mm = (xs b).length - i ∧ i ≤ (xs b).length ∧ W i H1, ⟨_, rfl, Nat.zero_le _, G', s0 b, [], Ex.refl _, ?_, Nat.le_refl _, R.post_mono q2 fun r h w G2 H2 x2 E2 => h w G2 H2 (xG.trans x2) E2⟩, ?_⟩
  · rw [hw b] at E'
    exact E'.newL (ds := []) hp .nil
  · rintro i mm H1 ⟨rfl, hi1, G1, s, acc, x1, E1, hacc, q3⟩
    by_cases hlt : i < (xs b).length
    · refine .inr ⟨Y.go i H1 (by rw [hlen]; exact hlt) (x1.trans E1.sub), fun H' => W (i + 1) H', fun H' w => ⟨_, ?_, rfl, hlt, w⟩, fun w H2 hy => ?_⟩
      · omega
      · obtain ⟨us, hus, rus, Eh⟩ := E1.hideIn hMo hH0
        have hd : ((xs b).map ea)[i]? = some (ea (xs b)[i]) := by rw [List.getElem?_map, List.getElem?_eq_getElem hlt]; rfl
        obtain ⟨G2, x2, E2, r2⟩ := Y.yld _ i G1 H1 σ (ρS s) w H2 x1 Eh hy _ hd
        rw [List.drop_eq_getElem_cons hlt, compR] at q3
        generalize hx : (xs b)[i] = x at q3 r2
        have Eb : En K _ G2 H2 (wipe σ vs) (blot 0 vs (ρS s)) [] := E2.inB vs (hpl s) (hna s) (wipe_length σ vs) fun j hj => wipe_out hj
        refine ⟨B.hide p (.lst us), x, s, rfl, G2, Eb, r2, fun σ2 h2 l2 E3 => ?_⟩
        have l2' : σ2.length = σ.length := l2.trans (wipe_length σ vs)
        have k2 : ∀ j, j ∉ vs → σ2[j]? = σ[j]? := fun j hj => by
          rw [h2 j fun z => hj (hts j z), wipe_out hj]
        refine ⟨wipe_eq l2' k2, B.hide p (.lst us), x, s, rfl, G2, E3, ?_⟩
        unfold compF at q3
        have q4 := R.post_bind.mp (R.post_bind.mp q3)
        refine R.post_mono q4 fun d q5 G3 H3 x3 E3' => ?_
        cases hbn : bn d with
        | false =>
          rw [if_neg (by decide)]
          rw [hbn, if_neg (by decide)] at q5
          have Eo := E2.outB E3' x3 vs (hpl s) (hplB x s) (hna s) (hnaB x s) k2 l2'
          rw [hun x s s] at Eo
          have x13 := x2.trans x3
          obtain ⟨g1, g2, g3⟩ := Eo.hideOut hMo hH0 hG0 (RpAll.ex x13 rus) (hna s)
          have Ef := g3 us (acc.map en) (RpAll.ex x13 rus)
          rw [upd_id g1] at Ef
          exact ⟨G3, s, acc, x1.trans x13, Ef, by omega, R.post_mono q5 fun r h w G4 H4 x4 E4 => h w G4 H4 (x13.trans x4) E4⟩
        | true =>
          rw [if_pos rfl]
          rw [hbn, if_pos rfl] at q5
          refine ⟨B.hide p (.lst us), x, s, rfl, G3, E3', R.post_mono (R.post_bind.mp q5) fun y q6 w2 G4 H4 x4 E4 => ?_⟩
          have Eo := E2.outB E4.pop (x3.trans x4) vs (hpl s) (hplB x _) (hna s) (hnaB x _) k2 l2'
          rw [hun x s (st y)] at Eo
          have x14 := x2.trans (x3.trans x4)
          obtain ⟨g1, g2, g3⟩ := Eo.hideOut hMo hH0 hG0 (RpAll.ex x14 rus) (hna _)
          have Ef := g3 (us ++ [w2]) (acc.map en ++ [en (v y)]) ((RpAll.ex x14 rus).append (.cons E4.top .nil))
          have hl : us.length = acc.length := by rw [rus.len, List.length_map]
          refine ⟨us, g1, by omega, G4, st y, acc ++ [v y], x1.trans x14, ?_, by rw [List.length_append]; simp; omega, R.post_mono q6 fun r h w G5 H5 x5 E5 => h w G5 H5 (x14.trans x5) E5⟩
          show En K B G4 _ σ _ [(_, .own 0 (.lst (((acc ++ [v y]).map en).map OT.dat)))]
          rw [List.map_append (f := en)]
          exact Ef
    · refine .inl ⟨Y.stop i H1 (by rw [hlen]; omega) (x1.trans E1.sub), ?_⟩
      rw [List.drop_eq_nil_of_le (by omega)] at q3
      exact q3 _ G1 H1 (Ex.refl _) E1
theorem PTs_ex {X : Cx} {es : List Expr} {ι : Type} {t : ι → TT} (h : ∀ i, PTs X es (t i)) : PTs X es (fun σ H Q => ∃ i, t i σ H Q) := ⟨fun pins s σ H Q I ⟨i, q⟩ => (h i).run pins s σ H Q I q⟩
/-- [elt for tg in it if ..] -/
theorem je_lc {α S γ δ ε β0 : Type} {ifs : List Expr} {sc : Scope} {m : R β0} {xs : β0 → List α} {ea : α → D} {ρ1 : β0 → List Slot} (own : List (Str × Nat)) {ts : List Nat} (en : γ → D) (ρS : S → List Slot) (s0 : β0 → S) (ρB : α → S → List Slot) {c : α → S → R δ} {bn : δ → Bool} {me : α → S → R ε} (v : ε → γ) (st : ε → S)
    (hc : X.calm = true) (hN : X.N.Nodup) (hi : JI X B ρ tg it m (fun b => (xs b).map ea) ρ1) (ok : BlkOk X.N X.env.scope sc own) (hw : ∀ b, ρ1 b = ρS (s0 b))
    (hg : Blk X sc fun X' => ∀ B' : Base, B'.rs = B.rs → ∀ x s, JN X' B' (blot 0 (own.map (·.2)) (ρS s)) tg (ea x) ts (ρB x s))
    (ht : Blk X sc fun X' => ∀ B' : Base, B'.rs = B.rs → ∀ x s, JTs X' B' (ρB x s) ifs (c x s) bn)
    (he : Blk X sc fun X' => ∀ B' : Base, B'.rs = B.rs → ∀ x s, JE X' B' (ρB x s) elt (me x s) (fun y => .val (en (v y))) (fun y => ρB x (st y)))
    (hpl : ∀ s, plainAt 0 (own.map (·.2)) (ρS s) = true := by intro _; rfl) (hna : ∀ s, noAlis (ρS s) = true := by intro _; rfl) (hts : ∀ i ∈ ts, i ∈ own.map (·.2) := by decide) (hplB : ∀ x s, plainAt 0 (own.map (·.2)) (ρB x s) = true := by intro _ _; rfl)
    (hnaB : ∀ x s, noAlis (ρB x s) = true := by intro _ _; rfl) (hun : ∀ x s s', unblot 0 (own.map (·.2)) (ρS s) (ρB x s') = ρS s' := by intro _ _ _; rfl) (hs : ∀ x, foldedSetIterable it X.env x = pure x := by intro _; rfl) :
    JE X B ρ (.ListComp elt [⟨tg, it, ifs, 0⟩] sc pos) (m.bind fun b => (R.guard ((xs b).length ≤ sizeLine)).bind fun _ => compR (compF c bn me v st) (xs b) [] (s0 b)) (fun p => .own 0 (oL en p.1)) (fun p => ρS p.2) := by
  refine PE_imp (pe_lc (own := own) hc hN hi ok (fun s H C cl fp => ?_) (fun s H C cl fp => ?_) (fun s H C cl fp => ?_) hs) fun σ H Q q => tlc_of (ts := ts) (ρB := ρB) (c := c) (bn := bn) (me := me) (v := v) (st := st) hw hpl hna hts hplB hnaB hun q
  · exact ⟨fun pins s σ H v u Q I r ⟨B', x, s', h, q⟩ => (hg _ _ _ _ _ B' h x s').run pins s σ H v u Q I r q⟩
  · exact ⟨fun pins s σ H Q I ⟨B', x, s', h, q⟩ => (ht _ _ _ _ _ B' h x s').run pins s σ H Q I q⟩
  · exact ⟨fun pins s σ H Q I ⟨B', x, s', h, q⟩ => (he _ _ _ _ _ B' h x s').run pins s σ H Q I q⟩
/-- y = [..] on one line -/
theorem j1_setLc (i : Nat) {y : Str} {py spos : Pos} {α S γ δ ε β0 : Type} {ifs : List Expr} {sc : Scope} {m : R β0} {xs : β0 → List α} {ea : α → D} {ρ1 : β0 → List Slot} (own : List (Str × Nat)) {ts : List Nat} (en : γ → D) (ρS : S → List Slot) (s0 : β0 → S) (ρB : α → S → List Slot) {c : α → S → R δ} {bn : δ → Bool} {me : α → S → R ε} (v : ε → γ) (st : ε → S)
    (hc : X.calm = true) (hN : X.N.Nodup) (hi : JI X B ρ tg it m (fun b => (xs b).map ea) ρ1) (ok : BlkOk X.N X.env.scope sc own) (hw : ∀ b, ρ1 b = ρS (s0 b))
    (hg : Blk X sc fun X' => ∀ B' : Base, B'.rs = B.rs → ∀ x s, JN X' B' (blot 0 (own.map (·.2)) (ρS s)) tg (ea x) ts (ρB x s))
    (ht : Blk X sc fun X' => ∀ B' : Base, B'.rs = B.rs → ∀ x s, JTs X' B' (ρB x s) ifs (c x s) bn)
    (he : Blk X sc fun X' => ∀ B' : Base, B'.rs = B.rs → ∀ x s, JE X' B' (ρB x s) elt (me x s) (fun y => .val (en (v y))) (fun y => ρB x (st y)))
    (hy : X.N[i]? = some y := by rfl) (hyl : X.env.scope.names.lookup y = some .local := by rfl) (hsw : swapsWith (.ListComp elt [⟨tg, it, ifs, 0⟩] sc pos) (some (.Name y py)) spos.line X.env = pure true := by exact sw_true rfl rfl rfl (by decide +kernel))
    (hpl : ∀ s, plainAt 0 (own.map (·.2)) (ρS s) = true := by intro _; rfl) (hna : ∀ s, noAlis (ρS s) = true := by intro _; rfl) (hts : ∀ i ∈ ts, i ∈ own.map (·.2) := by decide) (hplB : ∀ x s, plainAt 0 (own.map (·.2)) (ρB x s) = true := by intro _ _; rfl)
    (hnaB : ∀ x s, noAlis (ρB x s) = true := by intro _ _; rfl) (hun : ∀ x s s', unblot 0 (own.map (·.2)) (ρS s) (ρB x s') = ρS s' := by intro _ _ _; rfl) (hs : ∀ x, foldedSetIterable it X.env x = pure x := by intro _; rfl)
    (hlt : ∀ s, i < (ρS s).length := by intro _; exact of_decide_eq_true rfl) (hal : ∀ s, noAli i (ρS s) = true := by intro _; rfl) :
    J1 X B ρ (.Assign [.Name y py] (.ListComp elt [⟨tg, it, ifs, 0⟩] sc pos) spos) (m.bind fun b => (R.guard ((xs b).length ≤ sizeLine)).bind fun _ => compR (compF c bn me v st) (xs b) [] (s0 b)) (fun p => (ρS p.2).set i (.own 0 (oL en p.1))) := by
  have h1 := ps_setLc (X := X) (i := i) (own := own) (spos := spos) (py := py) (y := y) (elt := elt) (pos := pos) (g := fun w σ H Q => ∃ B' x s, B'.rs = B.rs ∧ tJN X.K B' (blot 0 (own.map (·.2)) (ρS s)) (ea x) ts (ρB x s) w σ H Q) (tt := fun σ H Q => ∃ B' x s, B'.rs = B.rs ∧ tJT X.K B' (ρB x s) (c x s) bn (fun _ => ρB x s) σ H Q)
    (te := fun σ H Q => ∃ B' x s, B'.rs = B.rs ∧ tJ X.K B' (ρB x s) (me x s) (fun y => .val (en (v y))) (fun y => ρB x (st y)) σ H Q) hc hN hy hyl hsw hi ok
    (fun s H C cl fp => ⟨fun pins s σ H v u Q I r ⟨B', x, s', h, q⟩ => (hg _ _ _ _ _ B' h x s').run pins s σ H v u Q I r q⟩)
    (fun s H C cl fp => ⟨fun pins s σ H Q I ⟨B', x, s', h, q⟩ => (ht _ _ _ _ _ B' h x s').run pins s σ H Q I q⟩)
    (fun s H C cl fp => ⟨fun pins s σ H Q I ⟨B', x, s', h, q⟩ => (he _ _ _ _ _ B' h x s').run pins s σ H Q I q⟩) hs
  refine PS_imp h1 fun D σ H ⟨G, E, q⟩ => ?_
  show tLc _ _ _ _ _ σ H (fun x H1 => D.nx (σ.set i (some x)) H1)
  refine tlc_of (ts := ts) (ρB := ρB) (c := c) (bn := bn) (me := me) (v := v) (st := st) (en := en) (ρS := ρS) (s0 := s0) hw hpl hna hts hplB hnaB hun ⟨G, E, R.post_mono q fun p q1 w G' H' x E' => q1 _ G' H' x (E'.set (hlt _) (fun _ _ z => nomatch z) (hal _))⟩
end
end DL

/-! DL11: more expressions -/
namespace DL
open PySem PySem.Spec L2

/-! ### comprehensions whose parts are pure -/
theorem compR_pure {α S γ : Type} (t : α → Bool) (f : α → γ) : ∀ (xs : List α) (acc : List γ) (s : S), compR (compF (fun x (_ : S) => R.ok (t x)) (fun b => b) (fun x s => R.ok (f x, s)) Prod.fst Prod.snd) xs acc s = .ok (acc ++ (xs.filter t).map f, s)
  | [], acc, s => by rw [compR, List.filter_nil, List.map_nil, List.append_nil]
  | x :: xs, acc, s => by
    have e : compF (fun x (_ : S) => R.ok (t x)) (fun b => b) (fun x s => R.ok (f x, s)) Prod.fst Prod.snd x s = .ok (if t x = true then (some (f x), s) else (none, s)) := by
      cases h : t x <;> simp [compF, R.bind, h]
    rw [compR, e]
    cases h : t x with
    | true =>
      rw [if_pos rfl, List.filter_cons_of_pos h, List.map_cons]
      have := compR_pure t f xs (acc ++ [f x]) s
      rw [List.append_assoc] at this
      exact this
    | false =>
      rw [if_neg (by decide), List.filter_cons_of_neg (by rw [h]; decide)]
      exact compR_pure t f xs acc s
section
variable {X : Cx} {B : Base} {ρ : List Slot} {pos : Pos} {e a b tg it elt : Expr} {es : List Expr}
theorem je_pe {α : Type} {en : α → D} (v : α) (h : JP X B ρ e (en v)) : JE X B ρ e (.ok v) (fun y => .val (en y)) (fun _ => ρ) := h
theorem je_mapS {α β S : Type} {m : R β} {en : α → D} {v : β → α} {st : β → S} {ρ' : S → List Slot} (h : JE X B ρ e m (fun b => .val (en (v b))) (fun b => ρ' (st b))) : JE X B ρ e (m.bind fun b => .ok (v b, st b)) (fun p => .val (en p.1)) (fun p => ρ' p.2) :=
  PE_imp h fun σ H Q ⟨G, E, q⟩ => ⟨G, E, R.post_mono (R.post_bind.mp q) fun b k => k⟩
/-- [f(x) for x in it if t(x)] -/
theorem je_lcP {α γ β0 : Type} {ifs : List Expr} {sc : Scope} {m : R β0} {xs : β0 → List α} {ea : α → D} (own : List (Str × Nat)) {ts : List Nat} (en : γ → D) (ρB : α → List Slot) (t : α → Bool) (f : α → γ)
    (hc : X.calm = true) (hN : X.N.Nodup) (hi : JI X B ρ tg it m (fun b => (xs b).map ea) (fun _ => ρ)) (ok : BlkOk X.N X.env.scope sc own)
    (hg : Blk X sc fun X' => ∀ B' : Base, B'.rs = B.rs → ∀ x, JN X' B' (blot 0 (own.map (·.2)) ρ) tg (ea x) ts (ρB x))
    (ht : Blk X sc fun X' => ∀ B' : Base, B'.rs = B.rs → ∀ x, JTs X' B' (ρB x) ifs (.ok (t x)) (fun b => b))
    (he : Blk X sc fun X' => ∀ B' : Base, B'.rs = B.rs → ∀ x, JP X' B' (ρB x) elt (en (f x)))
    (hpl : plainAt 0 (own.map (·.2)) ρ = true := by rfl) (hna : noAlis ρ = true := by rfl) (hts : ∀ i ∈ ts, i ∈ own.map (·.2) := by decide) (hplB : ∀ x, plainAt 0 (own.map (·.2)) (ρB x) = true := by intro _; rfl)
    (hnaB : ∀ x, noAlis (ρB x) = true := by intro _; rfl) (hun : ∀ x, unblot 0 (own.map (·.2)) ρ (ρB x) = ρ := by intro _; rfl) (hs : ∀ x, foldedSetIterable it X.env x = pure x := by intro _; rfl) :
    JE X B ρ (.ListComp elt [⟨tg, it, ifs, 0⟩] sc pos) (m.bind fun b => (R.guard ((xs b).length ≤ sizeLine)).bind fun _ => .ok b) (fun b => .own 0 (oL en (((xs b).filter t).map f))) (fun _ => ρ) := by
  have h := je_lc (X := X) (B := B) (ρ := ρ) (pos := pos) (S := Unit) (xs := xs) (ea := ea) (ts := ts) own en (fun _ => ρ) (fun _ => ()) (fun x _ => ρB x) (c := fun x _ => R.ok (t x)) (bn := fun b => b) (me := fun x s => R.ok (f x, s)) Prod.fst Prod.snd hc hN hi ok (fun _ => rfl)
    (fun s H C cl fp B' h x _ => hg s H C cl fp B' h x) (fun s H C cl fp B' h x _ => ht s H C cl fp B' h x) (fun s H C cl fp B' h x _ => he s H C cl fp B' h x) (fun _ => hpl) (fun _ => hna) hts (fun x _ => hplB x) (fun x _ => hnaB x) (fun x _ _ => hun x) hs
  refine PE_imp h fun σ H Q ⟨G, E, q⟩ => ⟨G, E, ?_⟩
  refine R.post_bind.mpr (R.post_mono (R.post_bind.mp q) fun b q1 => R.post_bind.mpr (R.post_mono (R.post_bind.mp q1) fun u q2 => ?_))
  rw [compR_pure]
  rw [List.nil_append]
  exact q2
theorem j1_setLcP (i : Nat) {y : Str} {py spos : Pos} {α γ β0 : Type} {ifs : List Expr} {sc : Scope} {m : R β0} {xs : β0 → List α} {ea : α → D} (own : List (Str × Nat)) {ts : List Nat} (en : γ → D) (ρB : α → List Slot) (t : α → Bool) (f : α → γ)
    (hc : X.calm = true) (hN : X.N.Nodup) (hi : JI X B ρ tg it m (fun b => (xs b).map ea) (fun _ => ρ)) (ok : BlkOk X.N X.env.scope sc own)
    (hg : Blk X sc fun X' => ∀ B' : Base, B'.rs = B.rs → ∀ x, JN X' B' (blot 0 (own.map (·.2)) ρ) tg (ea x) ts (ρB x))
    (ht : Blk X sc fun X' => ∀ B' : Base, B'.rs = B.rs → ∀ x, JTs X' B' (ρB x) ifs (.ok (t x)) (fun b => b))
    (he : Blk X sc fun X' => ∀ B' : Base, B'.rs = B.rs → ∀ x, JP X' B' (ρB x) elt (en (f x)))
    (hy : X.N[i]? = some y := by rfl) (hyl : X.env.scope.names.lookup y = some .local := by rfl) (hsw : swapsWith (.ListComp elt [⟨tg, it, ifs, 0⟩] sc pos) (some (.Name y py)) spos.line X.env = pure true := by exact sw_true rfl rfl rfl (by decide +kernel))
    (hpl : plainAt 0 (own.map (·.2)) ρ = true := by rfl) (hna : noAlis ρ = true := by rfl) (hts : ∀ i ∈ ts, i ∈ own.map (·.2) := by decide) (hplB : ∀ x, plainAt 0 (own.map (·.2)) (ρB x) = true := by intro _; rfl)
    (hnaB : ∀ x, noAlis (ρB x) = true := by intro _; rfl) (hun : ∀ x, unblot 0 (own.map (·.2)) ρ (ρB x) = ρ := by intro _; rfl) (hs : ∀ x, foldedSetIterable it X.env x = pure x := by intro _; rfl)
    (hlt : i < ρ.length := by exact of_decide_eq_true rfl) (hal : noAli i ρ = true := by rfl) :
    J1 X B ρ (.Assign [.Name y py] (.ListComp elt [⟨tg, it, ifs, 0⟩] sc pos) spos) (m.bind fun b => (R.guard ((xs b).length ≤ sizeLine)).bind fun _ => .ok b) (fun b => ρ.set i (.own 0 (oL en (((xs b).filter t).map f)))) := by
  have h := j1_setLc (X := X) (B := B) (ρ := ρ) (pos := pos) (spos := spos) (py := py) (y := y) i (S := Unit) (xs := xs) (ea := ea) (ts := ts) own en (fun _ => ρ) (fun _ => ()) (fun x _ => ρB x) (c := fun x _ => R.ok (t x)) (bn := fun b => b) (me := fun x s => R.ok (f x, s)) Prod.fst Prod.snd hc hN hi ok (fun _ => rfl)
    (fun s H C cl fp B' h x _ => hg s H C cl fp B' h x) (fun s H C cl fp B' h x _ => ht s H C cl fp B' h x) (fun s H C cl fp B' h x _ => he s H C cl fp B' h x) hy hyl hsw (fun _ => hpl) (fun _ => hna) hts (fun x _ => hplB x) (fun x _ => hnaB x) (fun x _ _ => hun x) hs (fun _ => hlt) (fun _ => hal)
  refine PS_imp h fun D σ H ⟨G, E, q⟩ => ⟨G, E, ?_⟩
  refine R.post_bind.mpr (R.post_mono (R.post_bind.mp q) fun b q1 => R.post_bind.mpr (R.post_mono (R.post_bind.mp q1) fun u q2 => ?_))
  rw [compR_pure]
  rw [List.nil_append]
  exact q2
/-! ### and, or with owned things that change -/
variable {rest : List Expr}
theorem jt_mapS {β S : Type} {m : R β} {bn : β → Bool} {st : β → S} {ρS : S → List Slot} (h : JT X B ρ e m bn (fun b => ρS (st b))) : JT X B ρ e (m.bind fun b => .ok (bn b, st b)) (fun p => p.1) (fun p => ρS p.2) :=
  PT_imp h fun σ H Q ⟨G, E, q⟩ => ⟨G, E, R.post_mono (R.post_bind.mp q) fun b k => k⟩
theorem jw_andS {α S : Type} {ma : R α} {xa : α → Bool} (st : α → S) (ρS : S → List Slot) {mb : α → R (Bool × S)} (ha : JT X B ρ a ma xa (fun x => ρS (st x))) (hb : ∀ x, JW X B (ρS (st x)) (.BoolOp .And (b :: rest) pos) (mb x) (fun p => p.1) (fun p => ρS p.2)) :
    JW X B ρ (.BoolOp .And (a :: b :: rest) pos) (ma.bind fun x => if xa x = true then mb x else .ok (false, st x)) (fun p => p.1) (fun p => ρS p.2) := by
  have hb' : PW X (.BoolOp .And (b :: rest) pos) (fun σ H Q => ∃ x, tJT X.K B (ρS (st x)) (mb x) (fun p => p.1) (fun p => ρS p.2) σ H Q) := ⟨fun wh pins s σ H Q I ⟨x, q⟩ => (hb x).run wh pins s σ H Q I q⟩
  exact PW_imp (pw_and ha hb') fun σ H Q ⟨G, E, q⟩ => ⟨G, E, R.post_mono (R.post_bind.mp q) fun x k G1 H1 x1 E1 => by
    cases hx : xa x with
    | true =>
      rw [if_pos hx] at k
      exact ⟨x, G1, E1, R.post_mono k fun b k G2 H2 x2 E2 => k G2 H2 (x1.trans x2) E2⟩
    | false =>
      rw [if_neg (by rw [hx]; decide)] at k
      exact k G1 H1 x1 E1⟩
theorem jw_orS {α S : Type} {ma : R α} {xa : α → Bool} (st : α → S) (ρS : S → List Slot) {mb : α → R (Bool × S)} (ha : JT X B ρ a ma xa (fun x => ρS (st x))) (hb : ∀ x, JW X B (ρS (st x)) (.BoolOp .Or (b :: rest) pos) (mb x) (fun p => p.1) (fun p => ρS p.2)) :
    JW X B ρ (.BoolOp .Or (a :: b :: rest) pos) (ma.bind fun x => if xa x = true then .ok (true, st x) else mb x) (fun p => p.1) (fun p => ρS p.2) := by
  have hb' : PW X (.BoolOp .Or (b :: rest) pos) (fun σ H Q => ∃ x, tJT X.K B (ρS (st x)) (mb x) (fun p => p.1) (fun p => ρS p.2) σ H Q) := ⟨fun wh pins s σ H Q I ⟨x, q⟩ => (hb x).run wh pins s σ H Q I q⟩
  exact PW_imp (pw_or ha hb') fun σ H Q ⟨G, E, q⟩ => ⟨G, E, R.post_mono (R.post_bind.mp q) fun x k G1 H1 x1 E1 => by
    cases hx : xa x with
    | false =>
      rw [if_neg (by rw [hx]; decide)] at k
      exact ⟨x, G1, E1, R.post_mono k fun b k G2 H2 x2 E2 => k G2 H2 (x1.trans x2) E2⟩
    | true =>
      rw [if_pos hx] at k
      exact k G1 H1 x1 E1⟩
/-! ### data of any depth, compared -/
end
def toPy : D → PyData
  | .none => .none
  | .bool b => .bool b
  | .int i => .int i
  | .str s => .str s
  | .list xs => .list (toPys xs)
  | .tuple xs => .tuple (toPys xs)
  | .row xs => .tuple (toPys xs)
  | .dict _ => .dict []
  | .scr ns => .list (ns.map PyData.int)
  | .key ns => .tuple (ns.map PyData.int)
where toPys : List D → List PyData
  | [] => []
  | x :: xs => toPy x :: toPys xs
theorem dp_ints {K : PySem.W.Frag} {G : Hp} : ∀ ns : List Int, DpAll K G (ns.map V.int) (ns.map PyData.int)
  | [] => .nil
  | n :: ns => .cons (.int n) (dp_ints ns)
mutual
theorem Rp.dp {K : PySem.W.Frag} {G H : Hp} (e : Ex G H) : ∀ {v : V} {d : D}, Rp K G v d → (toPy d).canLay0 = true → Dp K H v (toPy d)
  | _, _, .non, _ => by
    rw [toPy]
    exact .non
  | _, _, .bl b, _ => by
    rw [toPy]
    exact .bl b
  | _, _, .int i, _ => by
    rw [toPy]
    exact .int i
  | _, _, .str x, _ => by
    rw [toPy]
    exact .str x
  | _, _, .lst h r, c => by
    rw [toPy] at c ⊢
    exact .lst (.inl (e.rd h)) (RpAll.dp e r (by simpa [PyData.canLay0] using c))
  | _, _, .tup h r, c => by
    rw [toPy] at c ⊢
    exact .tup (e.t h) (RpAll.dp e r (by simpa [PyData.canLay0] using c))
  | _, _, .row h d r, c => by
    rw [toPy] at c ⊢
    exact .tup (.inl (.inr ⟨_, e _ _ h⟩)) (RpAll.dp e r (by simpa [PyData.canLay0] using c))
  | _, _, .scr h, _ => by
    rw [toPy]
    exact .lst (e.l h) (dp_ints _)
  | _, _, .key h, _ => by
    rw [toPy]
    exact .tup (.inl (.inl (e _ _ h))) (dp_ints _)
  | _, _, .dK _ _, c => by
    rw [toPy] at c
    simp [PyData.canLay0] at c
  | _, _, .dT _ _, c => by
    rw [toPy] at c
    simp [PyData.canLay0] at c
theorem RpAll.dp {K : PySem.W.Frag} {G H : Hp} (e : Ex G H) : ∀ {v : List V} {d : List D}, RpAll K G v d → PyData.canLayAll0 (toPy.toPys d) = true → DpAll K H v (toPy.toPys d)
  | _, _, .nil, _ => by
    rw [toPy.toPys]
    exact .nil
  | _, _, .cons h r, c => by
    rw [toPy.toPys] at c ⊢
    rw [PyData.canLayAll0, Bool.and_eq_true] at c
    exact .cons (Rp.dp e h c.1) (RpAll.dp e r c.2)
end
/-- encodings whose values are equal just where the data are, at most n deep -/
structure EqE {α : Type} [DecidableEq α] (n : Nat) (f : α → D) : Prop where
  lay : ∀ x, (toPy (f x)).canLay0 = true
  dep : ∀ x, (toPy (f x)).depth ≤ n
  eqv : ∀ x y, PyData.eqv (toPy (f x)) (toPy (f y)) = decide (x = y)
theorem EqE.shaped {α : Type} [DecidableEq α] {n : Nat} {f : α → D} (h : EqE n f) (hn : n ≤ 64) (x : α) : SeqAt.shaped (toPy (f x)) = true := by
  unfold SeqAt.shaped
  rw [h.lay x, Bool.true_and]
  exact decide_eq_true (Nat.le_trans (h.dep x) hn)
theorem ee_int : EqE 0 D.int := ⟨fun _ => by simp [toPy, PyData.canLay0], fun _ => by simp [toPy, PyData.depth], fun x y => by
  simp only [toPy, PyData.eqv]
  exact Bool.beq_eq_decide_eq ..⟩
theorem ee_bool : EqE 0 D.bool := ⟨fun _ => by simp [toPy, PyData.canLay0], fun _ => by simp [toPy, PyData.depth], fun x y => by
  simp only [toPy, PyData.eqv]
  exact Bool.beq_eq_decide_eq ..⟩
theorem ee_p2 {α β : Type} [DecidableEq α] [DecidableEq β] {n : Nat} {f : α → D} {g : β → D} (hf : EqE n f) (hg : EqE n g) : EqE (n + 1) (eP2 f g) := by
  refine ⟨fun x => ?_, fun x => ?_, fun x y => ?_⟩
  · simp [toPy, toPy.toPys, PyData.canLay0, PyData.canLayAll0, hf.lay, hg.lay]
  · have h1 := hf.dep x.1
    have h2 := hg.dep x.2
    simp [toPy, toPy.toPys, PyData.depth, PyData.depthAll]
    omega
  · obtain ⟨a, b⟩ := x
    obtain ⟨c, d⟩ := y
    simp only [toPy, toPy.toPys, PyData.eqv, PyData.eqvAll, hf.eqv, hg.eqv, Bool.and_true]
    rw [← Bool.decide_and]
    exact decide_eq_decide.mpr ⟨fun h => by rw [h.1, h.2], fun h => by
      injection h with h1 h2
      exact ⟨h1, h2⟩⟩
theorem ee_p3 {α β γ : Type} [DecidableEq α] [DecidableEq β] [DecidableEq γ] {n : Nat} {f : α → D} {g : β → D} {h : γ → D} (hf : EqE n f) (hg : EqE n g) (hh : EqE n h) : EqE (n + 1) (eP3 f g h) := by
  refine ⟨fun x => ?_, fun x => ?_, fun x y => ?_⟩
  · simp [toPy, toPy.toPys, PyData.canLay0, PyData.canLayAll0, hf.lay, hg.lay, hh.lay]
  · have h1 := hf.dep x.1
    have h2 := hg.dep x.2.1
    have h3 := hh.dep x.2.2
    simp [toPy, toPy.toPys, PyData.depth, PyData.depthAll]
    omega
  · obtain ⟨a, b, c⟩ := x
    obtain ⟨a', b', c'⟩ := y
    simp only [toPy, toPy.toPys, PyData.eqv, PyData.eqvAll, hf.eqv, hg.eqv, hh.eqv, Bool.and_true]
    rw [← Bool.decide_and, ← Bool.decide_and]
    exact decide_eq_decide.mpr ⟨fun h => by rw [h.1, h.2.1, h.2.2], fun h => by
      injection h with h1 h2
      injection h2 with h2 h3
      exact ⟨h1, h2, h3⟩⟩
section
variable {α : Type} [DecidableEq α] {n : Nat} {f : α → D}
theorem ee_lay (h : EqE n f) : ∀ l : List α, PyData.canLayAll0 (toPy.toPys (l.map f)) = true
  | [] => by simp [toPy.toPys, PyData.canLayAll0]
  | x :: l => by
    rw [List.map_cons, toPy.toPys, PyData.canLayAll0, h.lay, ee_lay h l]
    rfl
theorem ee_dep (h : EqE n f) : ∀ l : List α, PyData.depthAll (toPy.toPys (l.map f)) ≤ n
  | [] => by simp [toPy.toPys, PyData.depthAll]
  | x :: l => by
    have h1 := h.dep x
    have h2 := ee_dep h l
    rw [List.map_cons, toPy.toPys, PyData.depthAll]
    omega
theorem ee_eqv (h : EqE n f) : ∀ l m : List α, PyData.eqvAll (toPy.toPys (l.map f)) (toPy.toPys (m.map f)) = decide (l = m)
  | [], [] => by simp [toPy.toPys, PyData.eqvAll]
  | [], _ :: _ => by simp [toPy.toPys, PyData.eqvAll]
  | _ :: _, [] => by simp [toPy.toPys, PyData.eqvAll]
  | x :: l, y :: m => by
    rw [List.map_cons, List.map_cons, toPy.toPys, toPy.toPys, PyData.eqvAll, h.eqv, ee_eqv h l m, ← Bool.decide_and]
    exact decide_eq_decide.mpr ⟨fun h => by rw [h.1, h.2], fun h => by
      injection h with h1 h2
      exact ⟨h1, h2⟩⟩
theorem ee_T (h : EqE n f) : EqE (n + 1) (eT f) := ⟨fun l => by
  rw [toPy, PyData.canLay0]
  exact ee_lay h l, fun l => by
  rw [toPy, PyData.depth]
  exact Nat.succ_le_succ (ee_dep h l), fun l m => by
  rw [toPy, toPy, PyData.eqv]
  exact ee_eqv h l m⟩
theorem ee_L (h : EqE n f) : EqE (n + 1) (eL f) := ⟨fun l => by
  rw [toPy, PyData.canLay0]
  exact ee_lay h l, fun l => by
  rw [toPy, PyData.depth]
  exact Nat.succ_le_succ (ee_dep h l), fun l m => by
  rw [toPy, toPy, PyData.eqv]
  exact ee_eqv h l m⟩
variable {K : PySem.W.Frag} {B : Base}
theorem od_eqD (h : EqE n f) (hn : n ≤ 64 := by decide) {x y : α} : OpD K B (rEqD K) (f x) (f y) (.ok ()) (fun _ => .val (.bool (decide (x = y)))) :=
  od_val0 (w := .bl (decide (x = y))) (fun G H vx vy Q e hx hy q => ⟨_, _, hx.dp e (h.lay x), hy.dp e (h.lay y), h.shaped hn x, h.shaped hn y, by rw [h.eqv]; exact q⟩) fun _ => .bl _
theorem od_neD (h : EqE n f) (hn : n ≤ 64 := by decide) {x y : α} : OpD K B (rNeD K) (f x) (f y) (.ok ()) (fun _ => .val (.bool (!decide (x = y)))) :=
  od_val0 (w := .bl (!decide (x = y))) (fun G H vx vy Q e hx hy q => ⟨_, _, hx.dp e (h.lay x), hy.dp e (h.lay y), h.shaped hn x, h.shaped hn y, by rw [h.eqv]; exact q⟩) fun _ => .bl _
theorem any_eqv (h : EqE n f) (x : α) : ∀ l : List α, ((toPy.toPys (l.map f)).any fun z => PyData.eqv z (toPy (f x))) = decide (x ∈ l)
  | [] => by simp [toPy.toPys]
  | y :: l => by
    rw [List.map_cons, toPy.toPys, List.any_cons, h.eqv, any_eqv h x l, ← Bool.decide_or]
    exact decide_eq_decide.mpr ⟨fun h => by
      rcases h with h | h
      · rw [h]
        exact List.mem_cons_self
      · exact List.mem_cons_of_mem _ h, fun h => by
      rcases List.mem_cons.mp h with h | h
      · exact .inl h.symm
      · exact .inr h⟩
theorem od_inD (h : EqE n f) (hn : n + 1 ≤ 64 := by decide) {x : α} {l : List α} : OpD K B (rInD K) (f x) (eL f l) (.ok ()) (fun _ => .val (.bool (decide (x ∈ l)))) :=
  od_val0 (w := .bl (decide (x ∈ l))) (fun G H vx vy Q e hx hy q => by
    have hL := ee_L h
    have d2 := hy.dp e (hL.lay l)
    have s2 := hL.shaped hn l
    rw [toPy] at d2 s2
    exact ⟨_, _, hx.dp e (h.lay x), d2, h.shaped (by omega) x, s2, by rw [any_eqv h]; exact q⟩) fun _ => .bl _
theorem od_niD (h : EqE n f) (hn : n + 1 ≤ 64 := by decide) {x : α} {l : List α} : OpD K B (rNotInD K) (f x) (eL f l) (.ok ()) (fun _ => .val (.bool (!decide (x ∈ l)))) :=
  od_val0 (w := .bl (!decide (x ∈ l))) (fun G H vx vy Q e hx hy q => by
    have hL := ee_L h
    have d2 := hy.dp e (hL.lay l)
    have s2 := hL.shaped hn l
    rw [toPy] at d2 s2
    exact ⟨_, _, hx.dp e (h.lay x), d2, h.shaped (by omega) x, s2, by rw [any_eqv h]; exact q⟩) fun _ => .bl _
end
/-! ### sums of tuples, greatest ones, lists made tuples -/
section
variable {K : PySem.W.Frag} {B : Base} {ρ : List Slot}
theorem od_catT {ds es : List D} (h1 : ds ≠ []) (h2 : es ≠ []) (h3 : ds.length + es.length ≤ 1000) : OpD K B (rCatT K) (.tuple ds) (.tuple es) (.ok ()) (fun _ => .val (.tuple (ds ++ es))) := fun G H σ ρ vx vy Q E hx hy q => by
  obtain ⟨a, xs, rfl, hS, hr⟩ := hx.tup_inv
  obtain ⟨b, ys, rfl, hS2, hr2⟩ := hy.tup_inv
  have l1 := hr.len
  have l2 := hr2.len
  refine ⟨a, b, xs, ys, rfl, rfl, E.sub.t hS, E.sub.t hS2, fun z => h1 (by rw [z] at l1; exact List.length_eq_zero_iff.mp l1.symm), by rw [l1, l2]; exact Nat.le_of_lt (small1000 h3), fun z => absurd (by rw [z] at l2; exact List.length_eq_zero_iff.mp l2.symm) h2, fun _ p hp => ?_⟩
  have e := Ex.new (o := HO.tup (xs ++ ys)) (E.sub.back hp)
  exact q _ _ _ e ((E.new hp _).push (.tup (.inl (.inl upd_same)) (RpAll.ex e (hr.append hr2))))
def maxL (ns : List Int) : Int := ns.foldl max (ns.headD 0)
def minL (ns : List Int) : Int := ns.foldl min (ns.headD 0)
theorem foldl_max (ns : List Int) : ∀ a : Int, a ≤ ns.foldl max a ∧ (∀ y ∈ ns, y ≤ ns.foldl max a) ∧ (ns.foldl max a = a ∨ ns.foldl max a ∈ ns) := by
  induction ns with
  | nil => exact fun a => ⟨Int.le_refl _, (fun _ m => nomatch m), .inl rfl⟩
  | cons x r ih =>
    intro a
    obtain ⟨h1, h2, h3⟩ := ih (max a x)
    rw [List.foldl_cons]
    refine ⟨by omega, fun y m => ?_, ?_⟩
    · rcases List.mem_cons.mp m with rfl | m
      · omega
      · exact h2 y m
    · rcases h3 with h | h
      · rw [h]
        rcases Int.le_total a x with l | l
        · right
          rw [show max a x = x by omega]
          exact List.mem_cons_self
        · left
          omega
      · exact .inr (List.mem_cons_of_mem _ h)
theorem foldl_min (ns : List Int) : ∀ a : Int, ns.foldl min a ≤ a ∧ (∀ y ∈ ns, ns.foldl min a ≤ y) ∧ (ns.foldl min a = a ∨ ns.foldl min a ∈ ns) := by
  induction ns with
  | nil => exact fun a => ⟨Int.le_refl _, (fun _ m => nomatch m), .inl rfl⟩
  | cons x r ih =>
    intro a
    obtain ⟨h1, h2, h3⟩ := ih (min a x)
    rw [List.foldl_cons]
    refine ⟨by omega, fun y m => ?_, ?_⟩
    · rcases List.mem_cons.mp m with rfl | m
      · omega
      · exact h2 y m
    · rcases h3 with h | h
      · rw [h]
        rcases Int.le_total a x with l | l
        · left
          omega
        · right
          rw [show min a x = x by omega]
          exact List.mem_cons_self
      · exact .inr (List.mem_cons_of_mem _ h)
theorem maxL_is {ns : List Int} (h : ns ≠ []) : maxL ns ∈ ns ∧ ∀ y ∈ ns, y ≤ maxL ns := by
  cases ns with
  | nil => exact absurd rfl h
  | cons a r =>
    obtain ⟨h1, h2, h3⟩ := foldl_max r (max a a)
    show List.foldl max (max a a) r ∈ _ ∧ _
    refine ⟨?_, fun y m => ?_⟩
    · rcases h3 with h | h
      · rw [h, show max a a = a by omega]
        exact List.mem_cons_self
      · exact List.mem_cons_of_mem _ h
    · show y ≤ List.foldl max (max a a) r
      rcases List.mem_cons.mp m with rfl | m
      · omega
      · exact h2 y m
theorem minL_is {ns : List Int} (h : ns ≠ []) : minL ns ∈ ns ∧ ∀ y ∈ ns, minL ns ≤ y := by
  cases ns with
  | nil => exact absurd rfl h
  | cons a r =>
    obtain ⟨h1, h2, h3⟩ := foldl_min r (min a a)
    show List.foldl min (min a a) r ∈ _ ∧ _
    refine ⟨?_, fun y m => ?_⟩
    · rcases h3 with h | h
      · rw [h, show min a a = a by omega]
        exact List.mem_cons_self
      · exact List.mem_cons_of_mem _ h
    · show List.foldl min (min a a) r ≤ y
      rcases List.mem_cons.mp m with rfl | m
      · omega
      · exact h2 y m
theorem cb_maxL {ns : List Int} : CbD K B ρ (rMax K) [.val (eL D.int ns)] (R.guard (ns ≠ [])) (fun _ => .val (.int (maxL ns))) :=
  cb_val (w := .int (maxL ns)) (fun hc G H σ vs Q e ok q => by
    obtain ⟨v, rfl, r⟩ := ok.one
    obtain ⟨a, xs, rfl, hS, hr⟩ := r.lst_inv
    have hx := hr.ints
    subst hx
    refine ⟨a, ns, rfl, .inl (e.rd hS), List.length_pos_iff.mpr hc, fun m hm hle => ?_⟩
    obtain ⟨h1, h2⟩ := maxL_is hc
    rw [show m = maxL ns from Int.le_antisymm (h2 m hm) (hle _ h1)]
    exact q) fun _ => .int _
theorem cb_minL {ns : List Int} : CbD K B ρ (rMin K) [.val (eL D.int ns)] (R.guard (ns ≠ [])) (fun _ => .val (.int (minL ns))) :=
  cb_val (w := .int (minL ns)) (fun hc G H σ vs Q e ok q => by
    obtain ⟨v, rfl, r⟩ := ok.one
    obtain ⟨a, xs, rfl, hS, hr⟩ := r.lst_inv
    have hx := hr.ints
    subst hx
    refine ⟨a, ns, rfl, .inl (e.rd hS), List.length_pos_iff.mpr hc, fun m hm hle => ?_⟩
    obtain ⟨h1, h2⟩ := minL_is hc
    rw [show m = minL ns from Int.le_antisymm (hle _ h1) (h2 m hm)]
    exact q) fun _ => .int _
theorem cb_anyL {bs : List Bool} : CbD K B ρ (rAny K) [.val (eL D.bool bs)] (.ok ()) (fun _ => .val (.bool (bs.any id))) :=
  cb_val0 (w := .bl (bs.any id)) (fun G H σ vs Q e ok q => by
    obtain ⟨v, rfl, r⟩ := ok.one
    obtain ⟨a, xs, rfl, hS, hr⟩ := r.lst_inv
    have hx := hr.bools
    subst hx
    exact ⟨a, bs, rfl, .inl (e.rd hS), q⟩) fun _ => .bl _
theorem cb_allL {bs : List Bool} : CbD K B ρ (rAll K) [.val (eL D.bool bs)] (.ok ()) (fun _ => .val (.bool (bs.all id))) :=
  cb_val0 (w := .bl (bs.all id)) (fun G H σ vs Q e ok q => by
    obtain ⟨v, rfl, r⟩ := ok.one
    obtain ⟨a, xs, rfl, hS, hr⟩ := r.lst_inv
    have hx := hr.bools
    subst hx
    exact ⟨a, bs, rfl, .inl (e.rd hS), q⟩) fun _ => .bl _
theorem cb_sumL {ns : List Int} : CbD K B ρ (rSum K) [.val (eL D.int ns)] (.ok ()) (fun _ => .val (.int ns.sum)) :=
  cb_val0 (w := .int ns.sum) (fun G H σ vs Q e ok q => by
    obtain ⟨v, rfl, r⟩ := ok.one
    obtain ⟨a, xs, rfl, hS, hr⟩ := r.lst_inv
    have hx := hr.ints
    subst hx
    exact ⟨a, ns, rfl, .inl (e.rd hS), q⟩) fun _ => .int _
/-- tuple(a list) -/
theorem cb_tupL {α : Type} {f : α → D} {xs : List α} : CbD K B ρ (fun xs H Q => ∃ p ys, xs = [.ref p] ∧ ((SqL K H p ys ∧ ∀ l, H l = none → Q (.ref l) (upd H l (.tup ys))) ∨ (SqT K H p ys ∧ Q (.ref p) H))) [.val (eL f xs)] (.ok ()) (fun _ => .val (eT f xs)) := fun G H σ vs Q E ok q => by
  obtain ⟨v, rfl, r⟩ := ok.one
  obtain ⟨a, ys, rfl, hS, hr⟩ := r.lst_inv
  refine ⟨a, ys, rfl, .inl ⟨.inl (E.sub.rd hS), fun p hp => ?_⟩⟩
  have e := Ex.new (o := HO.tup ys) (E.sub.back hp)
  exact q _ _ _ e ((E.new hp _).push (.tup (.inl (.inl upd_same)) (RpAll.ex e hr)))
theorem cb_tupT {α : Type} {f : α → D} {xs : List α} : CbD K B ρ (fun xs H Q => ∃ p ys, xs = [.ref p] ∧ ((SqL K H p ys ∧ ∀ l, H l = none → Q (.ref l) (upd H l (.tup ys))) ∨ (SqT K H p ys ∧ Q (.ref p) H))) [.val (eT f xs)] (.ok ()) (fun _ => .val (eT f xs)) := fun G H σ vs Q E ok q => by
  obtain ⟨v, rfl, r⟩ := ok.one
  obtain ⟨a, ys, rfl, hS, hr⟩ := r.tup_inv
  exact ⟨a, ys, rfl, .inr ⟨E.sub.t hS, q _ G H (Ex.refl _) (E.push r)⟩⟩
/-- list(..): a new one -/
theorem cb_lstL {α : Type} {f : α → D} {xs : List α} : CbD K B ρ (fun xs H Q => ∃ p ys, xs = [.ref p] ∧ (SqL K H p ys ∨ SqT K H p ys) ∧ ∀ l, H l = none → Q (.ref l) (upd H l (.lst ys))) [.val (eL f xs)] (.ok ()) (fun _ => .own 0 (oL f xs)) := fun G H σ vs Q E ok q => by
  obtain ⟨v, rfl, r⟩ := ok.one
  obtain ⟨a, ys, rfl, hS, hr⟩ := r.lst_inv
  exact ⟨a, ys, rfl, .inl (.inl (E.sub.rd hS)), fun p hp => q _ G _ (Ex.refl _) (E.newL hp hr)⟩
theorem cb_lstT {α : Type} {f : α → D} {xs : List α} : CbD K B ρ (fun xs H Q => ∃ p ys, xs = [.ref p] ∧ (SqL K H p ys ∨ SqT K H p ys) ∧ ∀ l, H l = none → Q (.ref l) (upd H l (.lst ys))) [.val (eT f xs)] (.ok ()) (fun _ => .own 0 (oL f xs)) := fun G H σ vs Q E ok q => by
  obtain ⟨v, rfl, r⟩ := ok.one
  obtain ⟨a, ys, rfl, hS, hr⟩ := r.tup_inv
  exact ⟨a, ys, rfl, .inr (E.sub.t hS), fun p hp => q _ G _ (Ex.refl _) (E.newL hp hr)⟩
end
/-! ### owned lists: read as data for good, grown, unpacked -/
section
variable {X : Cx} {B : Base} {ρ : List Slot} {pos : Pos} {e : Expr}
/-- an owned local, as data from now on -/
theorem je_name (i : Nat) {x : Str} {α : Type} {f : α → D} {xs : List α} (h : ρ[i]? = some (.own 0 (oL f xs)) := by rfl) (hal : noAlis ρ = true := by rfl) (hN : X.N[i]? = some x := by rfl) (hv : Vis X.env.scope x := by first | exact Or.inl rfl | exact Or.inr (Or.inl rfl) | exact Or.inr (Or.inr rfl))
    (hd : (x == ("__debug__" : Str)) = false := by decide) (hcd : (x == ("__classdict__" : Str)) = false := by decide) : JE X B ρ (.Name x pos) (.ok ()) (fun _ => .own 0 (oL f xs)) (fun _ => ρ.set i .non) :=
  PE_imp (pv i hN hv hd hcd) fun σ H Q ⟨G, E, q⟩ => by
    obtain ⟨A, c, n, g⟩ := E.own
    obtain ⟨v, A1, A2, e1, hO, hl, c2, pm⟩ := Cells.take1 (show Cells X.K B G H σ ρ A from c) h
    exact ⟨v, e1, q v G H (Ex.refl _) ⟨E.anc, ⟨A1 ++ A2, .cons (.own hO hl.1 hl.2) c2, pm.nodup_iff.mp n, fun a m => g a (pm.mem_iff.mpr m)⟩, by rw [List.length_set]; exact E.len, fun k j p e => by
      by_cases hk : i = k
      · subst hk
        rw [List.getElem?_set_self (List.getElem?_eq_some_iff.mp h).1] at e
        cases e
      · rw [List.getElem?_set_ne hk] at e
        exact absurd e (noAlis_get hal)⟩⟩
/-- xs.append(e) -/
theorem je_app (i : Nat) {x : Str} {px ap : Pos} {l l0 : Nat} {os0 : List OT} {α β : Type} {f : α → D} (xs : β → List α) {m : R β} {y : β → α} {ρ' : β → List Slot} (he : JE X B ρ e m (fun b => .val (f (y b))) ρ') (h : ∀ b, (ρ' b)[i]? = some (.own l (oL f (xs b))) := by intro _; rfl) (hal : ∀ b, noAlis (ρ' b) = true := by intro _; rfl)
    (h0 : ρ[i]? = some (.own l0 (.lst os0)) := by rfl) (hN : X.N[i]? = some x := by rfl) (hv : Vis X.env.scope x := by first | exact Or.inl rfl | exact Or.inr (Or.inl rfl) | exact Or.inr (Or.inr rfl))
    (hd : (x == ("__debug__" : Str)) = false := by decide) (hcd : (x == ("__classdict__" : Str)) = false := by decide) (hst : starEach [e] X.env = (false, eval e X.env) :: starEach [] X.env := by rfl)
    (hbase : attributeBase (.Name x px) "append" X.env (eval (.Name x px) X.env) = eval (.Name x px) X.env := by rfl)
    (hone : ((backTo pos (starEach [e] X.env)).all (fun x => !x.1) && (backToKw pos (keywordEach [] X.env)).all (fun x => x.1.isSome) && decide ([e].length + ([] : List Keyword).length + (if ([] : List Keyword).isEmpty then 0 else 1) < 30)) = true := by rfl)
    (hline : (ap.endLine == pos.line) = true := by rfl) (hnil : (backTo pos (starEach [] X.env)).any (·.1) = false := by rfl) :
    JE X B ρ (.Call (.Attribute (.Name x px) "append" ap) [e] [] pos) (m.bind fun b => (R.guard ((xs b).length < sizeLine)).bind fun _ => .ok b) (fun _ => .val .none) (fun b => (ρ' b).set i (.own l (oL f (xs b ++ [y b])))) :=
  PE_imp (pe_bm PySem.F.plainAttrs_list PySem.F.slot_list_append PySem.F.type_list_append mt_append (pv (X := X) (pos := px) i hN hv hd hcd) (pa_cons he pa_nil hst) hbase hone hline hst hnil) fun σ H Q ⟨G, E, q⟩ => by
    obtain ⟨A, c, n, g⟩ := E.own
    obtain ⟨w, A1, A2, e1, hO, hl, c2, pm⟩ := Cells.take1 (show Cells X.K B G H σ ρ A from c) h0
    cases hO with
    | @lst a vs _ A3 ha hall =>
      refine ⟨.ref a, e1, .inl ⟨rfl, _, .inl (.inl ha)⟩, G, E, R.post_mono (R.post_bind.mp q) (fun b hb => ?_)⟩
      intro v G1 H1 x1 E1
      obtain ⟨p, vs1, g1, g2, g3, g4⟩ := E1.pop.ownD (h b) (hal b)
      have ep : p = a := by
        have z := g1.symm.trans e1
        injection z with z
        injection z with z
        injection z
      subst ep
      have hlen : vs1.length = (xs b).length := by
        rw [g3.len, List.length_map]
      obtain ⟨hz, q⟩ := R.post_guard (R.post_bind.mp hb)
      refine ⟨p, vs1, v, rfl, rfl, g2, by omega, q _ G1 _ x1 ?_⟩
      have hr : RpAll X.K G1 (vs1 ++ [v]) ((xs b).map f ++ [f (y b)]) := g3.append (.cons (E1.top) .nil)
      have z := g4 G1 H1 [] (vs1 ++ [v]) ((xs b).map f ++ [f (y b)]) E1.pop (Ex.refl _) g2 hr
      have ez : (oL f (xs b ++ [y b])) = .lst (((xs b).map f ++ [f (y b)]).map OT.dat) := by rw [oL, List.map_append]; rfl
      show En X.K B G1 (upd H1 p (.lst (vs1 ++ [v]))) σ ((ρ' b).set i (.own l (oL f (xs b ++ [y b])))) [(.non, .val .none)]
      rw [ez]
      exact z.push .non
end
end DL

/-! DL12: owned lists lent out for a while, or given up -/
namespace DL
open PySem PySem.Spec L2

mutual
/-- no list in it -/
def Flat : D → Prop
  | .none => True
  | .bool _ => True
  | .int _ => True
  | .str _ => True
  | .tuple ds => FlatL ds
  | .row ds => FlatL ds
  | .key _ => True
  | _ => False
def FlatL : List D → Prop
  | [] => True
  | d :: ds => Flat d ∧ FlatL ds
end
mutual
def FlatO : OT → Prop
  | .dat d => Flat d
  | .lst os => FlatOL os
  | .dk kvs => ∀ p ∈ kvs, Flat p.2
  | .dt kvs => ∀ p ∈ kvs, Flat p.2
def FlatOL : List OT → Prop
  | [] => True
  | o :: os => FlatO o ∧ FlatOL os
end
theorem fl_tup {ds : List D} (h : FlatL ds) : Flat (.tuple ds) := by
  rw [Flat]
  exact h
theorem fl_lst {ds : List OT} (h : FlatOL ds) : FlatO (.lst ds) := by
  rw [FlatO]
  exact h
theorem fl_nil : FlatL [] := by
  rw [FlatL]
  trivial
theorem fl_cons {d : D} {ds : List D} (h : Flat d) (r : FlatL ds) : FlatL (d :: ds) := by
  rw [FlatL]
  exact ⟨h, r⟩
theorem fl_int (i : Int) : Flat (.int i) := by
  rw [Flat]
  trivial
theorem fl_bool (i : Bool) : Flat (.bool i) := by
  rw [Flat]
  trivial
theorem fl_str (i : Str) : Flat (.str i) := by
  rw [Flat]
  trivial
theorem fl_U (i : Unit) : Flat (eU i) := by
  rw [eU, Flat]
  trivial
theorem FlatL.of {α : Type} {f : α → D} (h : ∀ x, Flat (f x)) : ∀ xs : List α, FlatL (xs.map f)
  | [] => fl_nil
  | x :: xs => fl_cons (h x) (FlatL.of h xs)
theorem FlatOL.of {α : Type} {f : α → D} (h : ∀ x, Flat (f x)) : ∀ xs : List α, FlatOL ((xs.map f).map OT.dat)
  | [] => by
    rw [List.map_nil, List.map_nil, FlatOL]
    trivial
  | x :: xs => by
    rw [List.map_cons, List.map_cons, FlatOL, FlatO]
    exact ⟨h x, FlatOL.of h xs⟩
theorem fl_T {α : Type} {f : α → D} (h : ∀ x, Flat (f x)) (xs : List α) : Flat (eT f xs) := fl_tup (FlatL.of h xs)
theorem fl_oL {α : Type} {f : α → D} (h : ∀ x, Flat (f x)) (xs : List α) : FlatO (oL f xs) := fl_lst (FlatOL.of h xs)
theorem fl_P2 {α β : Type} {f : α → D} {g : β → D} (h : ∀ x, Flat (f x)) (k : ∀ x, Flat (g x)) (p : α × β) : Flat (eP2 f g p) := fl_tup (fl_cons (h _) (fl_cons (k _) fl_nil))
theorem fl_P3 {α β γ : Type} {f : α → D} {g : β → D} {r : γ → D} (h : ∀ x, Flat (f x)) (k : ∀ x, Flat (g x)) (l : ∀ x, Flat (r x)) (p : α × β × γ) : Flat (eP3 f g r p) := fl_tup (fl_cons (h _) (fl_cons (k _) (fl_cons (l _) fl_nil)))
theorem fl_P4 {α β γ δ : Type} {f : α → D} {g : β → D} {r : γ → D} {s : δ → D} (h : ∀ x, Flat (f x)) (k : ∀ x, Flat (g x)) (l : ∀ x, Flat (r x)) (m : ∀ x, Flat (s x)) (p : α × β × γ × δ) : Flat (eP4 f g r s p) := fl_tup (fl_cons (h _) (fl_cons (k _) (fl_cons (l _) (fl_cons (m _) fl_nil))))

/-- things that may change -/
def mutO : HO → Bool
  | .lst _ => true
  | .dK _ => true
  | .dT _ => true
  | _ => false
section
variable {K : PySem.W.Frag} {G1 G2 H1 : Hp} {A : List Addr}
/-- what has no list in it does without the lent lists -/
theorem SqT.less (k : ∀ a u, G1 a = some u → mutO u = false → G2 a = some u) {a : Addr} {xs : List V} (h : SqT K G1 a xs) : SqT K G2 a xs := by
  rcases h with h | h
  · rcases h with h | ⟨o, h⟩
    · exact .inl (.inl (k _ _ h rfl))
    · exact .inl (.inr ⟨o, k _ _ h rfl⟩)
  · exact .inr h
mutual
theorem Rp.less (k : ∀ a u, G1 a = some u → mutO u = false → G2 a = some u) : ∀ {v : V} {d : D}, Rp K G1 v d → Flat d → Rp K G2 v d
  | _, _, .non, _ => .non
  | _, _, .bl b, _ => .bl b
  | _, _, .int i, _ => .int i
  | _, _, .str x, _ => .str x
  | _, _, .tup h r, f => .tup (SqT.less k h) (RpAll.less k r (by rw [Flat] at f; exact f))
  | _, _, .row h d r, f => .row (k _ _ h rfl) d (RpAll.less k r (by rw [Flat] at f; exact f))
  | _, _, .key h, _ => .key (k _ _ h rfl)
  | _, _, .lst h r, f => by
    rw [Flat] at f <;> first | exact f.elim | (intros; exact D.noConfusion)
  | _, _, .scr h, f => by
    rw [Flat] at f <;> first | exact f.elim | (intros; exact D.noConfusion)
  | _, _, .dK h r, f => by
    rw [Flat] at f <;> first | exact f.elim | (intros; exact D.noConfusion)
  | _, _, .dT h r, f => by
    rw [Flat] at f <;> first | exact f.elim | (intros; exact D.noConfusion)
theorem RpAll.less (k : ∀ a u, G1 a = some u → mutO u = false → G2 a = some u) : ∀ {v : List V} {d : List D}, RpAll K G1 v d → FlatL d → RpAll K G2 v d
  | _, _, .nil, _ => .nil
  | _, _, .cons h r, f => .cons (Rp.less k h (by rw [FlatL] at f; exact f.1)) (RpAll.less k r (by rw [FlatL] at f; exact f.2))
end
theorem RpE.less {κ : Type} (k : ∀ a u, G1 a = some u → mutO u = false → G2 a = some u) {kvs : List (κ × V)} {ds : List (κ × D)} (h : RpE K G1 kvs ds) : (∀ p ∈ ds, Flat p.2) → RpE K G2 kvs ds := by
  induction h with
  | nil => exact fun _ => .nil
  | cons h _ ih => exact fun f => .cons (h.less k (f _ List.mem_cons_self)) (ih fun p m => f p (List.mem_cons_of_mem _ m))
mutual
theorem Own.less (k : ∀ a u, G1 a = some u → mutO u = false → G2 a = some u) : ∀ {v : V} {o : OT} {A : List Addr}, Own K G1 H1 v o A → FlatO o → Own K G2 H1 v o A
  | _, _, _, .dat h, f => .dat (h.less k (by rw [FlatO] at f; exact f))
  | _, _, _, .lst h r, f => .lst h (OwnAll.less k r (by rw [FlatO] at f; exact f))
  | _, _, _, .dk h r, f => .dk h (r.less k (by rw [FlatO] at f; exact f))
  | _, _, _, .dt h r, f => .dt h (r.less k (by rw [FlatO] at f; exact f))
theorem OwnAll.less (k : ∀ a u, G1 a = some u → mutO u = false → G2 a = some u) : ∀ {v : List V} {o : List OT} {A : List Addr}, OwnAll K G1 H1 v o A → FlatOL o → OwnAll K G2 H1 v o A
  | _, _, _, .nil, _ => .nil
  | _, _, _, .cons h r, f => .cons (Own.less k h (by rw [FlatOL] at f; exact f.1)) (OwnAll.less k r (by rw [FlatOL] at f; exact f.2))
end
end
/-- the slots while a list was lent: s0 before, s1 then, s2 after -/
inductive BorS : Slot → Slot → Slot → Prop
  | f {s0 s1 : Slot} : BorS s0 s1 .non
  | k {d : D} : BorS (.val d) (.val d) (.val d)
  | v {s0 : Slot} {d : D} : Flat d → BorS s0 (.val d) (.val d)
  | o {s0 : Slot} {l : Nat} {o : OT} : FlatO o → BorS s0 (.own l o) (.own l o)
inductive Bor : List Slot → List Slot → List Slot → Prop
  | nil : Bor [] [] []
  | cons {s0 s1 s2 : Slot} {r0 r1 r2 : List Slot} : BorS s0 s1 s2 → Bor r0 r1 r2 → Bor (s0 :: r0) (s1 :: r1) (s2 :: r2)
def Base.lend (B : Base) (A : List Addr) : Base := { B with H0 := fun a => if a ∈ A then none else B.H0 a, Mo := fun l => (B.Mo l).filter (fun a => decide (a ∉ A)), m0 := by rw [B.m0]; rfl }
section
variable {K : PySem.W.Frag} {B B' : Base} {G G' H H' G1 G2 H1 : Hp}
theorem Cells.reb : ∀ {σ : L2.St} {ρ : List Slot} {A : List Addr}, Cells K B G H σ ρ A → (∀ l a, a ∈ A → (a ∈ B.Mo l ∨ B.H0 a = none) → (a ∈ B'.Mo l ∨ B'.H0 a = none)) → B'.pv = B.pv → Cells K B' G H σ ρ A
  | _, _, _, .nil, _, _ => .nil
  | _, _, _, .cons c r, k, e => .cons (match c with
    | .non => .non
    | .val h => .val h
    | .own h m p => .own h (fun a q => k _ a (List.mem_append_left _ q) (m a q)) (by rw [e]; exact p)
    | .ali => .ali) (Cells.reb r (fun l a q => k l a (List.mem_append_right _ q)) e)
theorem Cells.putV : ∀ {σ : L2.St} {ρ : List Slot} {A : List Addr}, Cells K B G H σ ρ A → ∀ {i : Nat} {v : V} {d : D}, ρ[i]? = some .non → σ[i]? = some (some v) → Rp K G v d → Cells K B G H σ (ρ.set i (.val d)) A
  | _, _, _, .nil, _, _, _, e, _, _ => by simp at e
  | _, _, _, .cons (A := A) c r, 0, v, d, e, e2, h => by
    simp at e e2
    subst e
    subst e2
    cases c
    exact .cons (A := []) (.val h) r
  | _, _, _, .cons c r, i + 1, v, d, e, e2, h => .cons c (Cells.putV r (by simpa using e) (by simpa using e2) h)
theorem Cells.bor (k : ∀ a u, G1 a = some u → mutO u = false → G2 a = some u) (x : Ex G G2) : ∀ {σ : L2.St} {ρ0 ρ1 ρ2 : List Slot} {A0 A : List Addr}, Cells K B G H σ ρ0 A0 → Cells K B' G1 H1 σ ρ1 A → Bor ρ0 ρ1 ρ2 → ∃ A', Cells K B' G2 H1 σ ρ2 A' ∧ A'.Sublist A
  | _, _, _, _, _, _, _, .nil, .nil => ⟨[], .nil, .refl _⟩
  | _, _, _, _, _, _, .cons c0 r0, .cons (A := A1) c1 r1, .cons s r => by
    obtain ⟨A', h1, h2⟩ := Cells.bor k x r0 r1 r
    cases s with
    | f => exact ⟨[] ++ A', .cons .non h1, h2.trans (List.sublist_append_right _ _)⟩
    | k =>
      cases c0 with
      | val h => exact ⟨[] ++ A', .cons (.val (h.ex x)) h1, h2.trans (List.sublist_append_right _ _)⟩
    | v f =>
      cases c1 with
      | val h => exact ⟨[] ++ A', .cons (.val (h.less k f)) h1, h2⟩
    | o f =>
      cases c1 with
      | own h m p => exact ⟨A1 ++ A', .cons (.own (h.less k f) m p) h1, h2.append_left _⟩
theorem Bor.len {ρ0 ρ1 ρ2 : List Slot} (h : Bor ρ0 ρ1 ρ2) : ρ2.length = ρ1.length := by
  induction h with
  | nil => rfl
  | cons s r ih => rw [List.length_cons, List.length_cons, ih]

mutual
theorem Own.thereL : ∀ {v : V} {o : OT} {A : List Addr}, Own K G H v o A → ∀ a ∈ A, ∃ u, H a = some u ∧ mutO u = true
  | _, _, _, .dat _, _, m => nomatch m
  | _, _, _, .lst h r, a, m => by
    rcases List.mem_cons.mp m with rfl | m
    · exact ⟨_, h, rfl⟩
    · exact OwnAll.thereL r a m
  | _, _, _, .dk h r, a, m => by
    rw [List.mem_singleton.mp m]
    exact ⟨_, h, rfl⟩
  | _, _, _, .dt h r, a, m => by
    rw [List.mem_singleton.mp m]
    exact ⟨_, h, rfl⟩
theorem OwnAll.thereL : ∀ {v : List V} {o : List OT} {A : List Addr}, OwnAll K G H v o A → ∀ a ∈ A, ∃ u, H a = some u ∧ mutO u = true
  | _, _, _, .nil, _, m => nomatch m
  | _, _, _, .cons h r, a, m => by
    rcases List.mem_append.mp m with m | m
    · exact Own.thereL h a m
    · exact OwnAll.thereL r a m
end
def FlatS : Slot → Prop
  | .non => True
  | .val d => Flat d
  | .own _ o => FlatO o
  | .ali _ _ => False
theorem BorS.of : ∀ {s : Slot}, FlatS s → BorS .non s s
  | .non, _ => .f
  | .val _, h => .v h
  | .own _ _, h => .o h
  | .ali _ _, h => h.elim
def FlatX : List (V × Slot) → Prop
  | [] => True
  | p :: ps => FlatS p.2 ∧ FlatX ps
theorem Bor.ex : ∀ {ex : List (V × Slot)} {r0 r1 r2 : List Slot}, FlatX ex → Bor r0 r1 r2 → Bor (ex.map (fun _ => Slot.non) ++ r0) (ex.map (·.2) ++ r1) (ex.map (·.2) ++ r2)
  | [], _, _, _, _, h => h
  | _ :: _, _, _, _, f, h => .cons (BorS.of f.1) (Bor.ex f.2 h)
theorem Cells.nons {σ : L2.St} {ρ : List Slot} {A : List Addr} (h : Cells K B G H σ ρ A) : ∀ (ex : List (V × Slot)), Cells K B G H (ex.map (fun p => some p.1) ++ σ) (ex.map (fun _ => Slot.non) ++ ρ) A
  | [] => h
  | _ :: ex => .cons (A := []) .non (Cells.nons h ex)
theorem Anc.lend {B : Base} {G H : Hp} (h : Anc B G H) {A : List Addr} (hA : ∀ a ∈ A, G a = none) : Anc (B.lend A) (fun a => if a ∈ A then H a else G a) H := by
  have eG : Ex G fun a => if a ∈ A then H a else G a := fun a u e => by
    show (if a ∈ A then H a else G a) = _
    by_cases ha : a ∈ A
    · rw [hA a ha] at e
      cases e
    · rw [if_neg ha]
      exact e
  refine ⟨fun a o hm e => ?_, fun a l hm => h.there a l (List.mem_filter.mp hm).1, h.gsub.trans eG, fun a e1 e2 => ?_, fun a u e => ?_⟩
  · have e : (if a ∈ A then none else B.H0 a) = some o := e
    by_cases ha : a ∈ A
    · rw [if_pos ha] at e
      cases e
    · rw [if_neg ha] at e
      exact h.keep a o (fun l m => hm l (List.mem_filter.mpr ⟨m, decide_eq_true ha⟩)) e
  · have e1 : (if a ∈ A then none else B.H0 a) ≠ none := e1
    by_cases ha : a ∈ A
    · rw [if_pos ha] at e1
      exact absurd rfl e1
    · rw [if_neg ha] at e1
      show (if a ∈ A then H a else G a) = _
      rw [if_neg ha]
      exact h.gnew a e1 e2
  · have e : (if a ∈ A then H a else G a) = some u := e
    by_cases ha : a ∈ A
    · rw [if_pos ha] at e
      exact e
    · rw [if_neg ha] at e
      exact h.sub a u e
theorem Anc.back {B : Base} {G H G1 H1 : Hp} (h0 : Anc B G H) {A : List Addr} (hA : ∀ a ∈ A, G a = none) (hM : ∃ l, ∀ a ∈ A, a ∈ B.Mo l ∨ B.H0 a = none) (hT : ∀ a ∈ A, H a ≠ none) (x : Ex (fun a => if a ∈ A then H a else G a) G1) (h : Anc (B.lend A) G1 H1) : Anc B (fun a => if a ∈ A then none else G1 a) H1 := by
  have hG1 : ∀ a ∈ A, G1 a = H a := fun a ha => by
    cases e : H a with
    | none => exact absurd e (hT a ha)
    | some u => exact x a u (by
        show (if a ∈ A then H a else G a) = _
        rw [if_pos ha, e])
  refine ⟨fun a o hm e => ?_, fun a l hm => ?_, fun a u e => ?_, fun a e1 e2 => ?_, fun a u e => ?_⟩
  · have ha : a ∉ A := fun ha => by
      obtain ⟨l, k⟩ := hM
      rcases k a ha with k | k
      · exact hm l k
      · rw [k] at e
        cases e
    exact h.keep a o (fun l m => hm l (List.mem_filter.mp m).1) (by
      show (if a ∈ A then none else B.H0 a) = _
      rw [if_neg ha, e])
  · by_cases ha : a ∈ A
    · intro z
      have z1 := hG1 a ha
      cases e : H a with
      | none => exact hT a ha e
      | some u =>
        rw [e] at z1
        rw [h.sub a u z1] at z
        cases z
    · exact h.there a l (List.mem_filter.mpr ⟨hm, decide_eq_true ha⟩)
  · have e' := h0.gsub a u e
    have ha : a ∉ A := fun ha => by
      rw [hA a ha] at e'
      cases e'
    show (if a ∈ A then none else G1 a) = _
    rw [if_neg ha]
    exact x a u (by
      show (if a ∈ A then H a else G a) = _
      rw [if_neg ha]
      exact e')
  · show (if a ∈ A then none else G1 a) = _
    by_cases ha : a ∈ A
    · rw [if_pos ha]
    · rw [if_neg ha]
      exact h.gnew a (by
        show (if a ∈ A then none else B.H0 a) ≠ none
        rw [if_neg ha]
        exact e1) e2
  · have e : (if a ∈ A then none else G1 a) = some u := e
    by_cases ha : a ∈ A
    · rw [if_pos ha] at e
      cases e
    · rw [if_neg ha] at e
      exact h.sub a u e
theorem En.lend {σ : L2.St} {ρ : List Slot} (E : En K B G H σ ρ []) {i l : Nat} {o : OT} (h : ρ[i]? = some (.own l o)) (hal : noAlis ρ = true) : ∃ B' : Base, B'.rs = B.rs ∧ ∃ G', Ex G G' ∧ En K B' G' H σ (ρ.set i (.val o.toD)) [] ∧
    ∀ G1 H1 ρ1 ρ2 ex, Ex G' G1 → En K B' G1 H1 σ ρ1 ex → Bor (ρ.set i .non) ρ1 ρ2 → ρ2[i]? = some .non → FlatX ex → noAlis ρ2 = true → ∃ G2, Ex G G2 ∧ En K B G2 H1 σ (ρ2.set i (.own l o)) ex := by
  obtain ⟨A0, c, n, g⟩ := E.own
  obtain ⟨v, A, A2, e1, hO, ⟨hl, hp⟩, c2, pm⟩ := Cells.take1 (show Cells K B G H σ ρ A0 from c) h
  have nn := pm.nodup_iff.mp n
  have n1 := List.nodup_append.mp nn
  have hA : ∀ a ∈ A, G a = none := fun a m => g a (pm.mem_iff.mpr (List.mem_append_left _ m))
  have hA2 : ∀ a ∈ A2, G a = none := fun a m => g a (pm.mem_iff.mpr (List.mem_append_right _ m))
  have hT : ∀ a ∈ A, H a ≠ none := fun a m z => by
    obtain ⟨vs, e, _⟩ := hO.thereL a m
    rw [e] at z
    cases z
  have eG : Ex G fun a => if a ∈ A then H a else G a := fun a u e => by
    show (if a ∈ A then H a else G a) = _
    by_cases ha : a ∈ A
    · rw [hA a ha] at e
      cases e
    · rw [if_neg ha]
      exact e
  have c3 : Cells K (B.lend A) (fun a => if a ∈ A then H a else G a) H σ (ρ.set i .non) A2 := by
    refine Cells.reb (B := B) (c2.ex eG fun _ _ _ e => e) (fun l a m k => ?_) rfl
    have ha : a ∉ A := fun z => n1.2.2 a z a m rfl
    rcases k with k | k
    · exact .inl (List.mem_filter.mpr ⟨k, decide_eq_true ha⟩)
    · refine .inr ?_
      show (if a ∈ A then none else B.H0 a) = _
      rw [if_neg ha, k]
  have hi : i < ρ.length := (List.getElem?_eq_some_iff.mp h).1
  have c4 := c3.putV (i := i) (v := v) (d := o.toD) (by rw [List.getElem?_set_self hi]) e1 (hO.rp eG fun a m u e => by
    show (if a ∈ A then H a else G a) = _
    rw [if_pos m, e])
  rw [List.set_set] at c4
  refine ⟨B.lend A, rfl, _, eG, ⟨E.anc.lend hA, ⟨A2, c4, n1.2.1, fun a m => ?_⟩, by rw [List.length_set]; exact E.len, fun k j p e => ?_⟩, fun G1 H1 ρ1 ρ2 ex x E1 bo h2 fl ha2 => ?_⟩
  · have ha : a ∉ A := fun z => n1.2.2 a z a m rfl
    show (if a ∈ A then H a else G a) = _
    rw [if_neg ha]
    exact hA2 a m
  · by_cases hk : i = k
    · subst hk
      rw [List.getElem?_set_self hi] at e
      cases e
    · rw [List.getElem?_set_ne hk] at e
      exact absurd e (noAlis_get hal)
  · obtain ⟨A5, c5, n5, g5⟩ := E1.own
    have hG1 : ∀ a ∈ A, G1 a = H a := fun a ha => by
      cases e : H a with
      | none => exact absurd e (hT a ha)
      | some u => exact x a u (by
          show (if a ∈ A then H a else G a) = _
          rw [if_pos ha, e])
    have x2 : Ex G fun a => if a ∈ A then none else G1 a := fun a u e => by
      have ha : a ∉ A := fun ha => by
        rw [hA a ha] at e
        cases e
      show (if a ∈ A then none else G1 a) = _
      rw [if_neg ha]
      exact x a u (eG a u e)
    have k : ∀ a u, G1 a = some u → mutO u = false → (if a ∈ A then none else G1 a) = some u := fun a u e ne => by
      by_cases ha : a ∈ A
      · obtain ⟨vs, e3, em⟩ := hO.thereL a ha
        rw [hG1 a ha, e3] at e
        injection e with e
        subst e
        rw [em] at ne
        cases ne
      · rw [if_neg ha]
        exact e
    have disj : ∀ a ∈ A5, a ∉ A := fun a m ha => by
      have z := g5 a m
      rw [hG1 a ha] at z
      exact hT a ha z
    obtain ⟨A6, c6, s6⟩ := Cells.bor (G := G) (H := H) (G2 := fun a => if a ∈ A then none else G1 a) k x2 (c2.nons ex) c5 (Bor.ex fl bo)
    have c7 : Cells K B (fun a => if a ∈ A then none else G1 a) H1 (ex.map (fun p => some p.1) ++ σ) (ex.map (·.2) ++ ρ2) A6 := by
      refine Cells.reb (B := B.lend A) c6 (fun l a m k => ?_) rfl
      have ha := disj a (s6.subset m)
      rcases k with k | k
      · exact .inl (List.mem_filter.mp k).1
      · refine .inr ?_
        have k : (if a ∈ A then none else B.H0 a) = none := k
        rw [if_neg ha] at k
        exact k
    have hO1 : Own K (fun a => if a ∈ A then none else G1 a) H1 v o A := hO.ex x2 fun a m u e => E1.anc.sub a u (by rw [hG1 a m, e])
    obtain ⟨A8, c8, p8⟩ := c7.put1 (i := ex.length + i) (l := l) (o := o) (v := v) (A1 := A) (by
      rw [List.getElem?_append_right (by simp), List.length_map]
      simpa using h2) (by
      rw [List.getElem?_append_right (by simp), List.length_map]
      simpa using e1) hO1 ⟨hl, hp⟩
    rw [List.set_append_right _ _ (by simp), List.length_map, Nat.add_sub_cancel_left] at c8
    have hi2 : i < ρ2.length := (List.getElem?_eq_some_iff.mp h2).1
    refine ⟨_, x2, ⟨Anc.back E.anc hA ⟨l, hl⟩ hT x E1.anc, ⟨A8, c8, p8.nodup_iff.mpr (List.nodup_append.mpr ⟨n1.1, s6.nodup n5, fun a m b m2 e => ?_⟩), fun a m => ?_⟩, ?_, fun k j p e => ?_⟩⟩
    · subst e
      exact disj a (s6.subset m2) m
    · show (if a ∈ A then none else G1 a) = _
      by_cases ha : a ∈ A
      · rw [if_pos ha]
      · rw [if_neg ha]
        rcases List.mem_append.mp (p8.mem_iff.mp m) with m | m
        · exact absurd m ha
        · exact g5 a (s6.subset m)
    · rw [List.length_set, bo.len]
      exact E1.len
    · by_cases hk : i = k
      · subst hk
        rw [List.getElem?_set_self hi2] at e
        cases e
      · rw [List.getElem?_set_ne hk] at e
        exact absurd e (noAlis_get ha2)
end
section
variable {X : Cx} {B : Base} {ρ : List Slot} {pos : Pos} {e : Expr}
/-- an owned list read, in one expression -/
theorem je_bor (i : Nat) {β : Type} {m : R β} {sl : β → Slot} {l : Nat} {o : OT} {d : D} {ρ1 ρ2 ρ' : β → List Slot} (h : ρ[i]? = some (.own l o) := by rfl) (hd : o.toD = d) (he : ∀ B' : Base, B'.rs = B.rs → JE X B' (ρ.set i (.val d)) e m sl ρ1) (hb : ∀ b, Bor (ρ.set i .non) (ρ1 b) (ρ2 b)) (hf : ∀ b, FlatS (sl b)) (hr : ∀ b, (ρ2 b).set i (.own l o) = ρ' b)
    (hal : noAlis ρ = true := by rfl) (h2 : ∀ b, (ρ2 b)[i]? = some .non := by intro _; rfl) (ha2 : ∀ b, noAlis (ρ2 b) = true := by intro _; rfl) : JE X B ρ e m sl ρ' := by
  refine ⟨fun pins s σ H Q I ⟨G, E, q⟩ => ?_⟩
  obtain ⟨B', hB, G', x, E', k⟩ := E.lend h hal
  rw [hd] at E'
  refine (he B' hB).run pins s σ H Q I ⟨G', E', ?_⟩
  rw [hB]
  refine R.post_mono q fun b q1 v G1 H1 x1 E1 => ?_
  obtain ⟨G2, x2, E2⟩ := k G1 H1 (ρ1 b) (ρ2 b) _ x1 E1 (hb b) (h2 b) ⟨hf b, trivial⟩ (ha2 b)
  rw [hr b] at E2
  exact q1 v G2 H1 x2 E2
theorem jt_bor (i : Nat) {β : Type} {m : R β} {bn : β → Bool} {l : Nat} {o : OT} {d : D} {ρ1 ρ2 ρ' : β → List Slot} (h : ρ[i]? = some (.own l o) := by rfl) (hd : o.toD = d) (he : ∀ B' : Base, B'.rs = B.rs → JT X B' (ρ.set i (.val d)) e m bn ρ1) (hb : ∀ b, Bor (ρ.set i .non) (ρ1 b) (ρ2 b)) (hr : ∀ b, (ρ2 b).set i (.own l o) = ρ' b)
    (hal : noAlis ρ = true := by rfl) (h2 : ∀ b, (ρ2 b)[i]? = some .non := by intro _; rfl) (ha2 : ∀ b, noAlis (ρ2 b) = true := by intro _; rfl) : JT X B ρ e m bn ρ' := by
  refine ⟨fun pins s σ H Q I ⟨G, E, q⟩ => ?_⟩
  obtain ⟨B', hB, G', x, E', k⟩ := E.lend h hal
  rw [hd] at E'
  refine (he B' hB).run pins s σ H Q I ⟨G', E', ?_⟩
  rw [hB]
  refine R.post_mono q fun b q1 G1 H1 x1 E1 => ?_
  obtain ⟨G2, x2, E2⟩ := k G1 H1 (ρ1 b) (ρ2 b) _ x1 E1 (hb b) (h2 b) trivial (ha2 b)
  rw [hr b] at E2
  exact q1 G2 H1 x2 E2
theorem toD_map {α : Type} {f : α → D} : ∀ xs : List α, OT.toDs ((xs.map f).map OT.dat) = xs.map f
  | [] => by rw [List.map_nil, List.map_nil, OT.toDs]
  | x :: xs => by rw [List.map_cons, List.map_cons, OT.toDs, OT.toD, toD_map xs]
theorem toD_oL {α : Type} (f : α → D) (xs : List α) : (oL f xs).toD = eL f xs := by
  rw [oL, OT.toD, toD_map]
/-- an owned local becomes data for good -/
theorem En.frzS {K : PySem.W.Frag} {G H : Hp} {σ : L2.St} {ρ : List Slot} (E : En K B G H σ ρ []) {i : Nat} {o : OT} (h : ρ[i]? = some (.own 0 o)) (hal : noAlis ρ = true) : ∃ G', Ex G G' ∧ En K B G' H σ (ρ.set i (.val o.toD)) [] := by
  obtain ⟨A0, c, n, g⟩ := E.own
  obtain ⟨v, A, A2, e1, hO, ⟨hl, hp⟩, c2, pm⟩ := Cells.take1 (show Cells K B G H σ ρ A0 from c) h
  have nn := pm.nodup_iff.mp n
  have n1 := List.nodup_append.mp nn
  have hA : ∀ a ∈ A, G a = none ∧ B.H0 a = none := fun a m => ⟨g a (pm.mem_iff.mpr (List.mem_append_left _ m)), (hl a m).resolve_left (by rw [B.m0]; exact fun z => nomatch z)⟩
  have eG : Ex G fun a => if a ∈ A then H a else G a := fun a u e => by
    show (if a ∈ A then H a else G a) = _
    by_cases ha : a ∈ A
    · rw [(hA a ha).1] at e
      cases e
    · rw [if_neg ha]
      exact e
  have hi : i < ρ.length := (List.getElem?_eq_some_iff.mp h).1
  have c4 := (c2.ex eG fun _ _ _ e => e).putV (i := i) (v := v) (d := o.toD) (by rw [List.getElem?_set_self hi]) e1 (hO.rp eG fun a m u e => by
    show (if a ∈ A then H a else G a) = _
    rw [if_pos m, e])
  rw [List.set_set] at c4
  refine ⟨_, eG, E.anc.frz hA, ⟨A2, c4, n1.2.1, fun a m => ?_⟩, by rw [List.length_set]; exact E.len, fun k j p e => ?_⟩
  · have ha : a ∉ A := fun z => n1.2.2 a z a m rfl
    show (if a ∈ A then H a else G a) = _
    rw [if_neg ha]
    exact g a (pm.mem_iff.mpr (List.mem_append_right _ m))
  · by_cases hk : i = k
    · subst hk
      rw [List.getElem?_set_self hi] at e
      cases e
    · rw [List.getElem?_set_ne hk] at e
      exact absurd e (noAlis_get hal)
theorem js_frz (i : Nat) {N L T : Type} {ss : List Stmt} {m : R (Fl N L T)} {F : Fin N L T} {o : OT} {d : D} (h : ρ[i]? = some (.own 0 o) := by rfl) (hd : o.toD = d) (r : JSs X B (ρ.set i (.val d)) ss m F) (hal : noAlis ρ = true := by rfl) : JSs X B ρ ss m F :=
  PSs_imp r fun D σ H ⟨G, E, q⟩ => by
    obtain ⟨G', x, E'⟩ := E.frzS h hal
    rw [hd] at E'
    exact ⟨G', E', R.post_mono q fun f q2 => flP_ex q2 x⟩
theorem je_frzS (i : Nat) {β : Type} {m : R β} {sl : β → Slot} {ρ' : β → List Slot} {o : OT} {d : D} (h : ρ[i]? = some (.own 0 o) := by rfl) (hd : o.toD = d) (r : JE X B (ρ.set i (.val d)) e m sl ρ') (hal : noAlis ρ = true := by rfl) : JE X B ρ e m sl ρ' :=
  PE_imp r fun σ H Q ⟨G, E, q⟩ => by
    obtain ⟨G', x, E'⟩ := E.frzS h hal
    rw [hd] at E'
    exact ⟨G', E', R.post_mono q fun b k v G1 H1 x1 E1 => k v G1 H1 (x.trans x1) E1⟩
/-! ### a list's items into names -/
def un2 {α : Type} : List α → Option (α × α)
  | [a, b] => some (a, b)
  | _ => none
def un3 {α : Type} : List α → Option (α × α × α)
  | [a, b, c] => some (a, b, c)
  | _ => none
def un4 {α : Type} : List α → Option (α × α × α × α)
  | [a, b, c, d] => some (a, b, c, d)
  | _ => none
theorem jg_un {α β : Type} {es : List Expr} {k n : Nat} {f : α → D} {xs : List α} {un : List α → Option β} {ds : β → List D} {ρ' : β → List Slot} (hu : ∀ p, un xs = some p → xs.map f = ds p ∧ xs.length = n) (hc : X.calm = true) (h : ∀ p, JGs X B ρ es (ds p) (.ok ()) (fun _ => ρ' p)) (hn : (assignEach es X.env).length = n := by rfl) (hst : (assignEach es X.env).findIdx? (·.1) = none := by rfl) : JG X B ρ (.Tuple es k pos) (eL f xs) (R.some (un xs)) ρ' := by
  have h' : PGs X es (fun vs σ H Q => ∃ p, tJGs X.K B ρ (ds p) (.ok ()) (fun _ => ρ' p) vs σ H Q) := ⟨fun pins s σ H v u Q I r ⟨p, q⟩ => (h p).run pins s σ H v u Q I r q⟩
  exact PG_imp (pg_unl (n := n) hc h' hn hst) fun v σ H Q ⟨G, E, r, q⟩ => by
    obtain ⟨a, vs, rfl, hS, hr⟩ := r.lst_inv
    obtain ⟨p, hp, q⟩ := R.post_some q
    obtain ⟨e1, e2⟩ := hu p hp
    refine ⟨a, vs, rfl, .inl (E.sub.rd hS), by rw [hr.len, List.length_map, e2], p, G, E, e1 ▸ hr, q⟩
theorem un2_ok {α : Type} {f : α → D} {xs : List α} : ∀ p, un2 xs = some p → xs.map f = [f p.1, f p.2] ∧ xs.length = 2 := fun p e => by
  match xs, e with
  | [a, b], e =>
    cases e
    exact ⟨rfl, rfl⟩
theorem un3_ok {α : Type} {f : α → D} {xs : List α} : ∀ p, un3 xs = some p → xs.map f = [f p.1, f p.2.1, f p.2.2] ∧ xs.length = 3 := fun p e => by
  match xs, e with
  | [a, b, c], e =>
    cases e
    exact ⟨rfl, rfl⟩
theorem un4_ok {α : Type} {f : α → D} {xs : List α} : ∀ p, un4 xs = some p → xs.map f = [f p.1, f p.2.1, f p.2.2.1, f p.2.2.2] ∧ xs.length = 4 := fun p e => by
  match xs, e with
  | [a, b, c, d], e =>
    cases e
    exact ⟨rfl, rfl⟩
theorem jts_t : JTs X B ρ [] (.ok true) (fun b => b) := ⟨fun pins s σ H Q I ⟨G, E, q⟩ => pts_nil.run pins s σ H Q I (q G H (Ex.refl G) E)⟩
theorem je_cast {β : Type} {m : R β} {s1 s2 : β → Slot} {ρ' : β → List Slot} (k : JE X B ρ e m s1 ρ') (h : ∀ b, s2 b = s1 b) : JE X B ρ e m s2 ρ' := (funext h) ▸ k
theorem js_lt {α N L T : Type} {ss : List Stmt} {F : Fin N L T} (ρ : α → List Slot) (v0 : α) {k : α → R (Fl N L T)} (h : ∀ v, JSs X B (ρ v) ss (k v) F) : JSs X B (ρ v0) ss (lt v0 k) F := by
  rw [lt]
  exact h v0
theorem noRs {B B' : Base} (h : B'.rs = B.rs) (k : ∀ e, ¬ B.rs e) : ∀ e, ¬ B'.rs e := fun e => by
  rw [h]
  exact k e
theorem un65 {k : Nat} {A : Around} (r : RoomG k A) : A.units + 65 < cLine := by
  have := r.r.un
  omega
theorem un64 {k : Nat} {A : Around} (r : RoomG k A) : A.units + 64 < cLine := by
  have := r.r.un
  omega
end
/-- x in l -/
def hasL {α : Type} [DecidableEq α] (x : α) (l : List α) : Bool := decide (x ∈ l)
theorem hasL_iff {α : Type} [DecidableEq α] {x : α} {l : List α} : hasL x l = true ↔ x ∈ l := by
  rw [hasL, decide_eq_true_eq]
theorem od_inL {K : PySem.W.Frag} {B : Base} {α : Type} [DecidableEq α] {n : Nat} {f : α → D} (h : EqE n f) (hn : n + 1 ≤ 64 := by decide) {x : α} {l : List α} : OpD K B (rInD K) (f x) (eL f l) (.ok ()) (fun _ => .val (.bool (hasL x l))) := od_inD h hn
theorem od_niL {K : PySem.W.Frag} {B : Base} {α : Type} [DecidableEq α] {n : Nat} {f : α → D} (h : EqE n f) (hn : n + 1 ≤ 64 := by decide) {x : α} {l : List α} : OpD K B (rNotInD K) (f x) (eL f l) (.ok ()) (fun _ => .val (.bool (!hasL x l))) := od_niD h hn
end DL

/-! DL13: owned lists of owned lists; methods that change a list -/
namespace DL
open PySem PySem.Spec L2

def OT.subL : OT → List Nat → Option OT
  | o, [] => some o
  | .lst os, k :: ks => (os[k]?).bind fun o => o.subL ks
  | _, _ :: _ => none
def OT.putL : OT → List Nat → OT → OT
  | _, [], n => n
  | .lst os, k :: ks, n => .lst (match os[k]? with
    | some o => os.set k (o.putL ks n)
    | none => os)
  | o, _ :: _, _ => o
section
variable {K : PySem.W.Frag} {G H : Hp}
theorem OwnAll.at : ∀ {vs : List V} {os : List OT} {A : List Addr} {k : Nat} {o : OT}, OwnAll K G H vs os A → os[k]? = some o →
    ∃ v A0 A1 A2, vs[k]? = some v ∧ Own K G H v o A1 ∧ A = A0 ++ (A1 ++ A2) ∧ ∀ (H' : Hp) (o' : OT), Own K G H' v o' A1 → (∀ a ∈ A0 ++ A2, H' a = H a) → OwnAll K G H' vs (os.set k o') A
  | _, _, _, _, _, .nil, e => by simp at e
  | _, _, _, 0, o, .cons (A := A) (A' := A') h r, e => by
    simp at e
    subst e
    exact ⟨_, [], A, A', rfl, h, rfl, fun H' o' h' k => .cons h' (OwnAll.ex (Ex.refl G) r fun a m u e => by rw [k a (by simpa using m), e])⟩
  | _, _, _, k + 1, o, .cons (A := A) (A' := A') h r, e => by
    obtain ⟨v, A0, A1, A2, h1, h2, h3, h4⟩ := OwnAll.at (k := k) r (by simpa using e)
    subst h3
    refine ⟨v, A ++ A0, A1, A2, by simpa using h1, h2, by simp, fun H' o' h' k => .cons (h.ex (Ex.refl G) fun a m u e => by rw [k a (by simp [m]), e]) (h4 H' o' h' fun a m => k a (by
      rcases List.mem_append.mp m with m | m <;> simp [m]))⟩
theorem At.fun_ : ∀ {p : List Nat} {v w w' : V}, At H v p w → At H v p w' → w = w'
  | [], _, _, _, h, h' => h.symm.trans h'
  | _ :: _, _, _, _, ⟨a, vs, u, h1, h2, h3, h4⟩, ⟨a', vs', u', g1, g2, g3, g4⟩ => by
    subst h1
    injection g1 with g1
    subst g1
    rw [h2] at g2
    injection g2 with g2
    injection g2 with g2
    subst g2
    rw [h3] at g3
    injection g3 with g3
    subst g3
    exact At.fun_ h4 g4
theorem Own.put : ∀ {p : List Nat} {v : V} {o : OT} {A : List Addr} {ds : List D}, Own K G H v o A → o.subL p = some (.lst (ds.map OT.dat)) →
    ∃ a vs, At H v p (.ref a) ∧ a ∈ A ∧ H a = some (.lst vs) ∧ RpAll K G vs ds ∧ (A.Nodup → ∀ vs' ds', RpAll K G vs' ds' → Own K G (upd H a (.lst vs')) v (o.putL p (.lst (ds'.map OT.dat))) A)
  | [], v, o, A, ds, h, e => by
    rw [OT.subL] at e
    injection e with e
    subst e
    cases h with
    | @lst a vs _ A3 ha hall =>
      obtain ⟨e3, r⟩ := own_dats_inv hall
      subst e3
      refine ⟨a, vs, rfl, List.mem_cons_self, ha, r, fun _ vs' ds' r' => ?_⟩
      rw [OT.putL]
      exact .lst upd_same (own_dats r')
  | k :: ks, v, .dat d, A, ds, h, e => by
    simp [OT.subL] at e
  | k :: ks, v, .dk d, A, ds, h, e => by
    simp [OT.subL] at e
  | k :: ks, v, .dt d, A, ds, h, e => by
    simp [OT.subL] at e
  | k :: ks, v, .lst os, A, ds, h, e => by
    rw [OT.subL] at e
    obtain ⟨o1, e1, e2⟩ := Option.bind_eq_some_iff.mp e
    cases h with
    | @lst b ws _ A3 hb hall =>
      obtain ⟨u, A0, A1, A2, h1, h2, h3, h4⟩ := hall.at e1
      obtain ⟨a, vs, g1, g2, g3, g4, g5⟩ := Own.put (p := ks) h2 e2
      have m : a ∈ A3 := by
        rw [h3]
        simp [g2]
      refine ⟨a, vs, ⟨b, ws, u, rfl, hb, h1, g1⟩, List.mem_cons_of_mem _ m, g3, g4, fun nd vs' ds' r' => ?_⟩
      have n1 := List.nodup_cons.mp nd
      rw [OT.putL, e1]
      have n2 := n1.2
      rw [h3] at n2
      have n3 := List.nodup_append.mp n2
      have n4 := List.nodup_append.mp n3.2.1
      refine .lst ?_ (h4 _ _ (g5 n4.1 vs' ds' r') fun c mc => upd_ne fun z => ?_)
      · rw [upd_ne (fun z => n1.1 (by rw [z]; exact m))]
        exact hb
      · subst z
        rcases List.mem_append.mp mc with mc | mc
        · exact n3.2.2 c mc c (List.mem_append_left _ g2) rfl
        · exact n4.2.2 c g2 c mc rfl
theorem toDs_at : ∀ {os : List OT} {k : Nat}, (OT.toDs os)[k]? = (os[k]?).map OT.toD
  | [], k => by simp [OT.toDs]
  | o :: os, 0 => by simp [OT.toDs]
  | o :: os, k + 1 => by
    rw [OT.toDs]
    simpa using toDs_at (os := os) (k := k)
theorem Rp.at {G' : Hp} (x : Ex G' H) : ∀ {p : List Nat} {v w : V} {o o' : OT}, Rp K G' v o.toD → o.subL p = some o' → At H v p w → At G' v p w
  | [], _, _, _, _, _, _, h => h
  | k :: ks, v, w, .dat d, o', h, e, _ => by
    simp [OT.subL] at e
  | k :: ks, v, w, .dk d, o', h, e, _ => by
    simp [OT.subL] at e
  | k :: ks, v, w, .dt d, o', h, e, _ => by
    simp [OT.subL] at e
  | k :: ks, v, w, .lst os, o', h, e, ⟨a, vs, u, h1, h2, h3, h4⟩ => by
    rw [OT.subL] at e
    obtain ⟨o1, e1, e2⟩ := Option.bind_eq_some_iff.mp e
    rw [OT.toD] at h
    obtain ⟨b, xs, e3, hS, hr⟩ := h.lst_inv
    subst h1
    injection e3 with e3
    subst e3
    have hx : G' a = some (.lst xs) := by
      rcases hS with hS | ⟨o, hS⟩
      · exact hS
      · have := x _ _ hS
        rw [h2] at this
        cases this
    have hxs : xs = vs := by
      have := x _ _ hx
      rw [h2] at this
      injection this with this
      injection this with this
      exact this.symm
    subst hxs
    obtain ⟨d, hd, hrd⟩ := hr.getV h3
    rw [toDs_at, e1] at hd
    injection hd with hd
    subst hd
    exact ⟨a, xs, u, rfl, hx, h3, Rp.at x hrd e2 h4⟩
end
section
variable {K : PySem.W.Frag} {B : Base} {G H : Hp} {σ : L2.St} {ρ : List Slot}
/-- a list of data somewhere in an owned tree -/
theorem En.putAt {ex : List (V × Slot)} (E : En K B G H σ ρ ex) {i l : Nat} {o : OT} {p : List Nat} {ds : List D} (h : ρ[i]? = some (.own l o)) (hal : noAlis ρ = true) (hs : o.subL p = some (.lst (ds.map OT.dat))) :
    ∃ v a vs, σ[i]? = some (some v) ∧ At H v p (.ref a) ∧ H a = some (.lst vs) ∧ RpAll K G vs ds ∧ ∀ vs' ds', RpAll K G vs' ds' → En K B G (upd H a (.lst vs')) σ (ρ.set i (.own l (o.putL p (.lst (ds'.map OT.dat))))) ex := by
  obtain ⟨A0, c, n, g⟩ := E.own
  have hi : i < ρ.length := (List.getElem?_eq_some_iff.mp h).1
  have h' : (ex.map (·.2) ++ ρ)[ex.length + i]? = some (.own l o) := by
    rw [List.getElem?_append_right (by simp), List.length_map]
    simpa using h
  obtain ⟨v, A, A2, e1, hO, ⟨hl, hp⟩, c2, pm⟩ := c.take1 h'
  rw [List.getElem?_append_right (by simp), List.length_map] at e1
  have e1 : σ[i]? = some (some v) := by simpa using e1
  have nn := pm.nodup_iff.mp n
  have n1 := List.nodup_append.mp nn
  obtain ⟨a, vs, g1, g2, g3, g4, g5⟩ := hO.put hs
  refine ⟨v, a, vs, e1, g1, g3, g4, fun vs' ds' r' => ?_⟩
  have hG : G a = none := g a (pm.mem_iff.mpr (List.mem_append_left _ g2))
  have c3 : Cells K B G (upd H a (.lst vs')) (ex.map (fun p => some p.1) ++ σ) ((ex.map (·.2) ++ ρ).set (ex.length + i) .non) A2 := c2.ex (Ex.refl G) fun b m u e => by
    rw [upd_ne (fun z => by
      subst z
      exact n1.2.2 b g2 b m rfl)]
    exact e
  obtain ⟨A8, c8, p8⟩ := c3.put1 (i := ex.length + i) (l := l) (o := o.putL p (.lst (ds'.map OT.dat))) (v := v) (A1 := A) (by
    rw [List.getElem?_set_self]
    rw [List.length_append, List.length_map]
    omega) (by
    rw [List.getElem?_append_right (by simp), List.length_map]
    simpa using e1) (g5 n1.1 vs' ds' r') ⟨hl, hp⟩
  rw [List.set_set, List.set_append_right _ _ (by simp), List.length_map, Nat.add_sub_cancel_left] at c8
  refine ⟨E.anc.put hG ((hl a g2).elim (fun z => .inl ⟨l, z⟩) .inr) _, ⟨A8, c8, p8.nodup_iff.mpr nn, fun b m => g b (pm.mem_iff.mpr (p8.mem_iff.mp m))⟩, by rw [List.length_set]; exact E.len, fun k j q e => ?_⟩
  by_cases hk : i = k
  · subst hk
    rw [List.getElem?_set_self hi] at e
    cases e
  · rw [List.getElem?_set_ne hk] at e
    exact absurd e (noAlis_get hal)
/-- lent, the places in the tree stay -/
theorem En.lendAt (E : En K B G H σ ρ []) {i l : Nat} {o : OT} (h : ρ[i]? = some (.own l o)) (hal : noAlis ρ = true) : ∃ B' : Base, B'.rs = B.rs ∧ ∃ G', Ex G G' ∧ En K B' G' H σ (ρ.set i (.val o.toD)) [] ∧
    (∀ v p o' w, σ[i]? = some (some v) → o.subL p = some o' → At H v p w → At G' v p w) ∧
    ∀ G1 H1 ρ1 ρ2 ex, Ex G' G1 → En K B' G1 H1 σ ρ1 ex → Bor (ρ.set i .non) ρ1 ρ2 → ρ2[i]? = some .non → FlatX ex → noAlis ρ2 = true → ∃ G2, Ex G G2 ∧ En K B G2 H1 σ (ρ2.set i (.own l o)) ex := by
  obtain ⟨B', hB, G', x, E', k⟩ := E.lend h hal
  refine ⟨B', hB, G', x, E', fun v p o' w e1 e2 e3 => ?_, k⟩
  obtain ⟨v', g1, g2⟩ := E'.get (i := i) (d := o.toD) (by rw [List.getElem?_set_self (List.getElem?_eq_some_iff.mp h).1])
  rw [e1] at g1
  injection g1 with g1
  injection g1 with g1
  subst g1
  exact Rp.at E'.sub g2 e2 e3
end
/-- a place: a list of data in slot i, along a path -/
def tJL (K : PySem.W.Frag) (B : Base) (ρ : List Slot) (i : Nat) {ι : Type} (m : R ι) (path : ι → List Nat) : TE := fun σ H Q =>
  ∃ G, En K B G H σ ρ [] ∧ m.post (fun j => ∀ G' H', Ex G G' → En K B G' H' σ ρ [] → ∀ v a, σ[i]? = some (some v) → At H' v (path j) (.ref a) → Q (.ref a) H') B.rs
def JL (X : Cx) (B : Base) (ρ : List Slot) (e : Expr) (i : Nat) {ι : Type} (m : R ι) (path : ι → List Nat) : Prop := PE X e (tJL X.K B ρ i m path)
/-- what a method does to a list of data -/
def MtD (K : PySem.W.Frag) (r : V → List V → Hp → VK → Prop) (ds : List D) (as : List D) {γ : Type} (m : R γ) (res : γ → D) (ds' : γ → List D) : Prop :=
  ∀ (G H : Hp) (a : Addr) (vs args : List V) (Q : VK) (rs : Exn → Prop), Ex G H → H a = some (.lst vs) → RpAll K G vs ds → RpAll K G args as → m.post (fun c => ∀ v vs', Rp K G v (res c) → RpAll K G vs' (ds' c) → Q v (upd H a (.lst vs'))) rs → r (.ref a) args H Q
section
variable {X : Cx} {B : Base} {ρ : List Slot} {pos : Pos} {obj e : Expr} {es : List Expr}
theorem jl_name (i : Nat) {x : Str} {l : Nat} {os : List OT} (h : ρ[i]? = some (.own l (.lst os)) := by rfl) (hN : X.N[i]? = some x := by rfl) (hv : Vis X.env.scope x := by first | exact Or.inl rfl | exact Or.inr (Or.inl rfl) | exact Or.inr (Or.inr rfl))
    (hd : (x == ("__debug__" : Str)) = false := by decide) (hcd : (x == ("__classdict__" : Str)) = false := by decide) : JL X B ρ (.Name x pos) i (.ok ()) (fun _ => []) :=
  PE_imp (pv i hN hv hd hcd) fun σ H Q ⟨G, E, q⟩ => by
    obtain ⟨A, c, n, g⟩ := E.own
    obtain ⟨v, A1, A2, e1, hO, hl, c2, pm⟩ := Cells.take1 (show Cells X.K B G H σ ρ A from c) h
    cases hO with
    | lst ha hall => exact ⟨_, e1, q G H (Ex.refl G) E _ _ e1 rfl⟩
@[reducible] def oLL {α : Type} (f : α → D) (rows : List (List α)) : OT := .lst (rows.map (oL f))
def rowAt {α : Type} (rows : List (List α)) (k : Int) : Option (Nat × List α) := (ixN rows.length k).bind fun j => (rows[j]?).map fun r => (j, r)
theorem rowAt_get {α : Type} {rows : List (List α)} {k : Int} {p : Nat × List α} (h : rowAt rows k = some p) : ixN rows.length k = some p.1 ∧ rows[p.1]? = some p.2 := by
  obtain ⟨j, h1, h2⟩ := Option.bind_eq_some_iff.mp h
  obtain ⟨r, h3, h4⟩ := Option.map_eq_some_iff.mp h2
  subst h4
  exact ⟨h1, h3⟩
theorem subL1 {α : Type} {f : α → D} {rows : List (List α)} {j : Nat} {r : List α} (h : rows[j]? = some r) : (oLL f rows).subL [j] = some (.lst ((r.map f).map OT.dat)) := by
  rw [oLL, OT.subL, List.getElem?_map, h]
  rfl
theorem putL1 {α : Type} {f : α → D} {rows : List (List α)} {j : Nat} {r xs : List α} (h : rows[j]? = some r) : (oLL f rows).putL [j] (.lst ((xs.map f).map OT.dat)) = oLL f (rows.set j xs) := by
  rw [oLL, OT.putL, List.getElem?_map, h]
  simp only [Option.map_some, OT.putL]
  rw [oLL, List.map_set]
theorem OwnAll.len {K : PySem.W.Frag} {G H : Hp} : ∀ {vs : List V} {os : List OT} {A : List Addr}, OwnAll K G H vs os A → vs.length = os.length
  | _, _, _, .nil => rfl
  | _, _, _, .cons _ r => by rw [List.length_cons, List.length_cons, r.len]
theorem jl_ix (i : Nat) {x : Str} {px : Pos} {l : Nat} {α : Type} {f : α → D} {rows : List (List α)} {k : Int} (hk : JP X B ρ e (.int k)) (h : ρ[i]? = some (.own l (oLL f rows)) := by rfl) (hN : X.N[i]? = some x := by rfl)
    (hv : Vis X.env.scope x := by first | exact Or.inl rfl | exact Or.inr (Or.inl rfl) | exact Or.inr (Or.inr rfl)) (hd : (x == ("__debug__" : Str)) = false := by decide) (hcd : (x == ("__classdict__" : Str)) = false := by decide) (hs : PlainIx e := by exact fun _ _ => rfl) :
    JL X B ρ (.Subscript (.Name x px) e pos) i (R.some (rowAt rows k)) (fun p => [p.1]) :=
  PE_imp (pe_ix ix_list (pv i hN hv hd hcd) hk hs) fun σ H Q ⟨G, E, q⟩ => by
    have get : ∀ {G H : Hp} {ex : List (V × Slot)}, En X.K B G H σ ρ ex → ∃ p vs A3, σ[i]? = some (some (.ref p)) ∧ H p = some (.lst vs) ∧ OwnAll X.K G H vs (rows.map (oL f)) A3 := fun {G H ex} E => by
      obtain ⟨A, c, n, g⟩ := E.own
      have h' : (ex.map (·.2) ++ ρ)[ex.length + i]? = some (.own l (oLL f rows)) := by
        rw [List.getElem?_append_right (by simp), List.length_map]
        simpa using h
      obtain ⟨v, A1, A2, e1, hO, hl, c2, pm⟩ := c.take1 h'
      rw [List.getElem?_append_right (by simp), List.length_map] at e1
      have e1 : σ[i]? = some (some v) := by simpa using e1
      cases hO with
      | lst ha hall => exact ⟨_, _, _, e1, ha, hall⟩
    obtain ⟨p, vs, A3, e1, e2, e3⟩ := get E
    refine ⟨.ref p, e1, G, E, fun w G1 H1 x1 E1 => ?_⟩
    have hn := E1.top.int_inv
    subst hn
    obtain ⟨p', vs', A4, g1, g2, g3⟩ := get E1
    have ep : p' = p := by
      have z := g1.symm.trans e1
      injection z with z
      injection z with z
      injection z
    subst ep
    obtain ⟨pr, hpr, q⟩ := R.post_some q
    obtain ⟨r1, r2⟩ := rowAt_get hpr
    obtain ⟨u, A5, A6, A7, h1, h2, _, _⟩ := g3.at (k := pr.1) (o := oL f pr.2) (by rw [List.getElem?_map, r2]; rfl)
    cases h2 with
    | @lst a ws _ A8 ha hall =>
      have hlen : vs'.length = rows.length := by rw [g3.len, List.length_map]
      refine ⟨p', vs', k, .ref a, rfl, rfl, .inl (.inl g2), ?_, q G1 H1 x1 E1.pop _ a e1 ⟨p', vs', _, rfl, g2, h1, rfl⟩⟩
      unfold atI
      rw [hlen, r1]
      exact h1
theorem En.pushAll {K : PySem.W.Frag} {G H : Hp} {σ : L2.St} {ρ : List Slot} : ∀ {vs : List V} {ds : List D} {ex : List (V × Slot)}, En K B G H σ ρ ex → RpAll K G vs ds → ∃ ex', En K B G H σ ρ ex' ∧ ex' = vs.zip (ds.map Slot.val) ++ ex
  | _, _, ex, E, .nil => ⟨ex, E, rfl⟩
  | _, _, ex, E, .cons h r => by
    obtain ⟨ex', E', e⟩ := En.pushAll E r
    subst e
    exact ⟨_, E'.push h, rfl⟩
theorem En.topAll {K : PySem.W.Frag} {G H : Hp} {σ : L2.St} {ρ : List Slot} : ∀ {vs : List V} {ds : List D} {ex : List (V × Slot)}, vs.length = ds.length → En K B G H σ ρ (vs.zip (ds.map Slot.val) ++ ex) → RpAll K G vs ds ∧ En K B G H σ ρ ex
  | [], [], ex, _, E => ⟨.nil, E⟩
  | v :: vs, d :: ds, ex, h, E => by
    have E : En K B G H σ ρ ((v, .val d) :: (vs.zip (ds.map Slot.val) ++ ex)) := E
    obtain ⟨h1, h2⟩ := En.topAll (vs := vs) (ds := ds) (by simpa using h) E.pop
    exact ⟨.cons E.top h1, h2⟩
theorem flatX_zip : ∀ {vs : List V} {ds : List D}, FlatL ds → FlatX (vs.zip (ds.map Slot.val) ++ [])
  | [], _, _ => trivial
  | _ :: _, [], _ => trivial
  | v :: vs, d :: ds, h => by
    rw [FlatL] at h
    exact ⟨h.1, flatX_zip h.2⟩
theorem ArOk.rp {K : PySem.W.Frag} {G : Hp} {σ : L2.St} : ∀ {vs : List V} {ds : List D}, ArOk K G σ vs (ds.map Ar.val) → RpAll K G vs ds
  | [], [], _ => .nil
  | [], _ :: _, h => by cases h
  | _ :: _, [], h => by cases h
  | v :: vs, d :: ds, h => by
    cases h with
    | val h r => exact .cons h (ArOk.rp r)
/-- a method that changes a list of data in an owned tree -/
theorem je_mth (i : Nat) {ι β γ : Type} {l : Nat} {o : OT} {d : D} {name : Str} {ap : Pos} {id : String} {r : V → List V → Hp → VK → Prop} {m0 : R ι} {path : ι → List Nat} {m : ι → R β} {as : ι → β → List D} {m2 : ι → β → R γ} {ds : ι → List D} {res : ι → β → γ → D} {ds' : ι → β → γ → List D} {ρ1 ρ2 : ι → β → List Slot} {ρ' : ι × β × γ → List Slot}
    (slot : PySem.Slot "list" name id) (hty : typeOf (.builtin id) = pure (.type "method_descriptor")) (hm : MtR X id r) (ho : JL X B ρ obj i m0 path) (h : ρ[i]? = some (.own l o)) (hd : o.toD = d)
    (hsub : ∀ (φ : ι → Prop) (ψ : Exn → Prop), m0.post φ ψ → m0.post (fun j => φ j ∧ o.subL (path j) = some (.lst ((ds j).map OT.dat))) ψ)
    (ha : ∀ (B' : Base), B'.rs = B.rs → ∀ j, JA X B' (ρ.set i (.val d)) (e :: es) (m j) (fun b => (as j b).map Ar.val) (ρ1 j)) (hfl : ∀ j b, FlatL (as j b)) (hmd : ∀ j b, MtD X.K r (ds j) (as j b) (m2 j b) (res j b) (ds' j b))
    (hb : ∀ j b, Bor (ρ.set i .non) (ρ1 j b) (ρ2 j b)) (hr : ∀ j b c, o.subL (path j) = some (.lst ((ds j).map OT.dat)) → (ρ2 j b).set i (.own l (o.putL (path j) (.lst ((ds' j b c).map OT.dat)))) = ρ' (j, b, c))
    (hal : noAlis ρ = true := by rfl) (h2 : ∀ j b, (ρ2 j b)[i]? = some .non := by intro _ _; rfl) (ha2 : ∀ j b, noAlis (ρ2 j b) = true := by intro _ _; rfl) (ha3 : ∀ j b, noAlis ((ρ2 j b).set i (.own l o)) = true := by intro _ _; rfl)
    (hst : starEach (e :: es) X.env = (false, eval e X.env) :: starEach es X.env := by rfl) (hbase : attributeBase obj name X.env (eval obj X.env) = eval obj X.env := by rfl)
    (hone : ((backTo pos (starEach (e :: es) X.env)).all (fun x => !x.1) && (backToKw pos (keywordEach [] X.env)).all (fun x => x.1.isSome) && decide ((e :: es).length + ([] : List Keyword).length + (if ([] : List Keyword).isEmpty then 0 else 1) < 30)) = true := by rfl)
    (hline : (ap.endLine == pos.line) = true := by rfl) (hnil : (backTo pos (starEach es X.env)).any (·.1) = false := by rfl) :
    JE X B ρ (.Call (.Attribute obj name ap) (e :: es) [] pos) (m0.bind fun j => (m j).bind fun b => (m2 j b).bind fun c => .ok (j, b, c)) (fun p => .val (res p.1 p.2.1 p.2.2)) ρ' := by
  have ha' : PA X (e :: es) (fun σ H Q => ∃ B' j, B'.rs = B.rs ∧ tJA X.K B' (ρ.set i (.val d)) (m j) (fun b => (as j b).map Ar.val) (ρ1 j) σ H Q) := ⟨fun ps pins s σ H Q I ⟨B', j, hB, q⟩ => (ha B' hB j).run ps pins s σ H Q I q⟩
  refine PE_imp (pe_bm PySem.F.plainAttrs_list slot hty hm ho ha' hbase hone hline hst hnil) fun σ H Q ⟨G, E, q⟩ => ⟨G, E, R.post_mono (hsub _ _ (R.post_bind.mp q)) fun j ⟨q1, hs⟩ G' H' x' E' v a e1 hat => ?_⟩
  obtain ⟨v2, a2, ws, f1, f2, f3, f4, _⟩ := E'.putAt h hal hs
  have ev : v2 = v := by
    rw [e1] at f1
    injection f1 with f1
    injection f1 with f1
    exact f1.symm
  subst ev
  have ea : a2 = a := by
    have := At.fun_ f2 hat
    injection this
  subst ea
  obtain ⟨B', hB, G'', x'', E'', keepAt, back⟩ := E'.lendAt h hal
  rw [hd] at E''
  refine ⟨.inl ⟨rfl, _, .inl (.inl f3)⟩, B', j, hB, G'', E'', ?_⟩
  rw [hB]
  refine R.post_mono (R.post_bind.mp q1) fun b q2 vs G1 H1 x1 E1 ok => ?_
  have hargs := ok.rp
  obtain ⟨ex', E1', e'⟩ := E1.pushAll hargs
  subst e'
  obtain ⟨G2, x2, E2⟩ := back G1 H1 (ρ1 j b) (ρ2 j b) _ x1 E1' (hb j b) (h2 j b) (flatX_zip (hfl j b)) (ha2 j b)
  obtain ⟨hargs2, E3⟩ := En.topAll hargs.len E2
  have h3 : ((ρ2 j b).set i (.own l o))[i]? = some (.own l o) := by
    rw [List.getElem?_set_self (List.getElem?_eq_some_iff.mp (h2 j b)).1]
  obtain ⟨v3, a3, ws3, g1, g2, g3, g4, g5⟩ := E3.putAt h3 (ha3 j b) hs
  have ev : v3 = v2 := by
    rw [e1] at g1
    injection g1 with g1
    injection g1 with g1
    exact g1.symm
  subst ev
  have hat1 : At H1 v3 (path j) (.ref a2) := (keepAt v3 (path j) _ _ e1 hs hat).ex (x1.trans E1.sub)
  have ea : a3 = a2 := by
    have := At.fun_ g2 hat1
    injection this
  subst ea
  refine hmd j b G2 H1 a3 ws3 vs Q B.rs E3.sub g3 g4 hargs2 (R.post_mono (R.post_bind.mp q2) fun c q3 w ws' hw hws' => ?_)
  have E4 := g5 ws' (ds' j b c) hws'
  rw [List.set_set, hr j b c hs] at E4
  exact q3 w G2 _ (x'.trans x2) (E4.push hw)
end
end DL

/-! DL14: the methods of lists and tuples -/
namespace DL
open PySem PySem.Spec L2

/-- the first place of a thing -/
def ixOf {α : Type} [DecidableEq α] (x : α) : List α → Option Nat
  | [] => none
  | y :: ys => if y = x then some 0 else (ixOf x ys).map (· + 1)
theorem ixOf_some {α : Type} [DecidableEq α] {x : α} : ∀ {l : List α} {j : Nat}, ixOf x l = some j → l[j]? = some x ∧ ∀ m, m < j → l[m]? ≠ some x
  | y :: ys, j, h => by
    rw [ixOf] at h
    by_cases e : y = x
    · rw [if_pos e] at h
      injection h with h
      subst h
      exact ⟨by simp [e], fun m z => absurd z (Nat.not_lt_zero _)⟩
    · rw [if_neg e] at h
      obtain ⟨k, h1, h2⟩ := Option.map_eq_some_iff.mp h
      subst h2
      obtain ⟨g1, g2⟩ := ixOf_some h1
      refine ⟨by simpa using g1, fun m z => ?_⟩
      cases m with
      | zero =>
        intro q
        simp at q
        exact e q
      | succ m =>
        intro q
        exact g2 m (by omega) (by simpa using q)
theorem RpAll.eraseIdx {K : PySem.W.Frag} {G : Hp} : ∀ {vs : List V} {ds : List D} (n : Nat), RpAll K G vs ds → RpAll K G (vs.eraseIdx n) (ds.eraseIdx n)
  | _, _, _, .nil => .nil
  | _, _, 0, .cons _ r => r
  | _, _, n + 1, .cons h r => .cons h (RpAll.eraseIdx n r)
section
variable {K : PySem.W.Frag}
theorem rp2 {G : Hp} {vs : List V} {a b : D} (h : RpAll K G vs [a, b]) : ∃ v w, vs = [v, w] ∧ Rp K G v a ∧ Rp K G w b := by
  cases h with
  | cons h r =>
    cases r with
    | cons h2 r =>
      cases r
      exact ⟨_, _, rfl, h, h2⟩
theorem rp1 {G : Hp} {vs : List V} {a : D} (h : RpAll K G vs [a]) : ∃ v, vs = [v] ∧ Rp K G v a := by
  cases h with
  | cons h r =>
    cases r
    exact ⟨_, rfl, h⟩
theorem md_insert {α : Type} {f : α → D} {xs : List α} {i : Int} {y : α} : MtD K (fun x vs H Q => ∃ (l : Addr) (xs : List V) (i : Int) (y : V), x = .ref l ∧ vs = [.int i, y] ∧ H l = some (.lst xs) ∧ xs.length < sizeLine ∧ 0 ≤ i ∧ i < 2 ^ 63 ∧ Q .non (upd H l (.lst (xs.take i.toNat ++ [y] ++ xs.drop i.toNat))))
    (xs.map f) [.int i, f y] (R.guard (xs.length < sizeLine ∧ 0 ≤ i ∧ i < 2 ^ 63)) (fun _ => .none) (fun _ => (xs.take i.toNat ++ [y] ++ xs.drop i.toNat).map f) := fun G H a vs args Q rs e hH hr ha q => by
  obtain ⟨v, w, rfl, h1, h2⟩ := rp2 ha
  have h1 := h1.int_inv
  subst h1
  obtain ⟨⟨c1, c2, c3⟩, q⟩ := R.post_guard q
  refine ⟨a, vs, i, w, rfl, rfl, hH, by rw [hr.len, List.length_map]; exact c1, c2, c3, q _ _ .non ?_⟩
  rw [List.map_append, List.map_append, List.map_take, List.map_drop]
  exact ((hr.take _).append (.cons h2 .nil)).append (hr.drop _)
theorem md_append {α : Type} {f : α → D} {xs : List α} {y : α} : MtD K rAppend (xs.map f) [f y] (R.guard (xs.length < sizeLine)) (fun _ => .none) (fun _ => (xs ++ [y]).map f) := fun G H a vs args Q rs e hH hr ha q => by
  obtain ⟨w, rfl, h2⟩ := rp1 ha
  obtain ⟨c1, q⟩ := R.post_guard q
  refine ⟨a, vs, w, rfl, rfl, hH, by rw [hr.len, List.length_map]; exact c1, q _ _ .non ?_⟩
  rw [List.map_append]
  exact hr.append (.cons h2 .nil)
theorem md_removeI {xs : List Int} {k : Int} : MtD K rRemI (xs.map D.int) [.int k] (R.some (ixOf k xs)) (fun _ => .none) (fun j => (xs.eraseIdx j).map D.int) := fun G H a vs args Q rs e hH hr ha q => by
  obtain ⟨w, rfl, h2⟩ := rp1 ha
  have h2 := h2.int_inv
  subst h2
  have hv := hr.ints
  subst hv
  obtain ⟨j, hj, q⟩ := R.post_some q
  obtain ⟨g1, g2⟩ := ixOf_some hj
  exact ⟨a, xs, k, j, rfl, rfl, hH, g1, g2, q _ _ .non (RpAll.of_ints _)⟩
theorem md_extend {α : Type} {f : α → D} {xs ys : List α} : MtD K (fun x vs H Q => ∃ l b xs zs, x = .ref l ∧ vs = [.ref b] ∧ H l = some (.lst xs) ∧ SqL K H b zs ∧ xs.length + zs.length ≤ sizeLine ∧ Q .non (upd H l (.lst (xs ++ zs))))
    (xs.map f) [eL f ys] (R.guard (xs.length + ys.length ≤ sizeLine)) (fun _ => .none) (fun _ => (xs ++ ys).map f) := fun G H a vs args Q rs e hH hr ha q => by
  obtain ⟨w, rfl, h2⟩ := rp1 ha
  obtain ⟨b, zs, rfl, hS, hr2⟩ := h2.lst_inv
  obtain ⟨c1, q⟩ := R.post_guard q
  refine ⟨a, b, vs, zs, rfl, rfl, hH, .inl (e.rd hS), by rw [hr.len, hr2.len, List.length_map, List.length_map]; exact c1, q _ _ .non ?_⟩
  rw [List.map_append]
  exact hr.append hr2
theorem putL0 (o n : OT) : o.putL [] n = n := by
  rw [OT.putL]
theorem sub0 {α : Type} {f : α → D} {xs : List α} (φ : Unit → Prop) (ψ : Exn → Prop) (h : (R.ok () : R Unit).post φ ψ) : (R.ok () : R Unit).post (fun _ => φ () ∧ (oL f xs).subL [] = some (.lst ((xs.map f).map OT.dat))) ψ := ⟨h, by rw [OT.subL]⟩
theorem sub1 {α : Type} {f : α → D} {rows : List (List α)} {k : Int} (φ : Nat × List α → Prop) (ψ : Exn → Prop) (h : (R.some (rowAt rows k)).post φ ψ) : (R.some (rowAt rows k)).post (fun p => φ p ∧ (oLL f rows).subL [p.1] = some (.lst ((p.2.map f).map OT.dat))) ψ := by
  obtain ⟨p, hp, q⟩ := R.post_some h
  rw [hp]
  exact ⟨q, subL1 (rowAt_get hp).2⟩
theorem putS0 {ρ : List Slot} {i l : Nat} {o n : OT} : ρ.set i (.own l (o.putL [] n)) = ρ.set i (.own l n) := by
  rw [putL0]
theorem putS1 {α : Type} {f : α → D} {rows : List (List α)} {ρ : List Slot} {i l j : Nat} {xs : List α} {o' : OT} (h : (oLL f rows).subL [j] = some o') : ρ.set i (.own l ((oLL f rows).putL [j] (.lst ((xs.map f).map OT.dat)))) = ρ.set i (.own l (oLL f (rows.set j xs))) := by
  cases e : rows[j]? with
  | none =>
    rw [oLL, OT.subL, List.getElem?_map, e] at h
    cases h
  | some r => rw [putL1 e]
theorem toDs_LL {α : Type} {f : α → D} : ∀ rows : List (List α), OT.toDs (rows.map (oL f)) = rows.map (eL f)
  | [] => by rw [List.map_nil, List.map_nil, OT.toDs]
  | r :: rows => by rw [List.map_cons, List.map_cons, OT.toDs, toD_oL, toDs_LL rows]
theorem toD_oLL {α : Type} (f : α → D) (rows : List (List α)) : (oLL f rows).toD = eL (eL f) rows := by
  rw [oLL, OT.toD, toDs_LL]
end
/-- t.index(k) of whole numbers -/
def rTix (K : PySem.W.Frag) : V → List V → Hp → VK → Prop := fun x args H Q => ∃ (p : Addr) (ns : List Int) (k : Int) (j : Nat), x = .ref p ∧ args = [.int k] ∧ SqT K H p (ns.map V.int) ∧ ns[j]? = some k ∧ (∀ m, m < j → ns[m]? ≠ some k) ∧ Q (.int (j : Nat)) H
theorem mt_tix {X : Cx} : MtR X "tuple.index" (rTix X.K) := by
  intro pins s σ H x xs v us Q I rx rs h
  obtain ⟨p, ns, k, j, rfl, rfl, hq, hy, hno, q⟩ := h
  cases rx
  obtain ⟨u, rfl, t, rfl⟩ := vals1 rs
  obtain ⟨its, r, ⟨⟨cls, dd, dt, sl⟩, ho, hc, n, hd⟩, hz⟩ := I.tuple hq
  simp only at hc hd
  subst hc hd
  have size : its.toArray.size = ns.length := by rw [List.size_toArray, ← r.length, List.length_map]
  have hj : j < its.toArray.size := size ▸ (List.getElem?_eq_some_iff.mp hy).1
  have item : ∀ (m : Nat) (hm : m < its.toArray.size), ∃ (y : Int) (w : Tok), ns[m]? = some y ∧ its.toArray[m] = Value.int y w := fun m hm => by
    have hm' : m < ns.length := size ▸ hm
    obtain ⟨w, hw, w', e'⟩ := r.get (i := m) (x := .int ns[m]) (by simp [hm'])
    have e := (List.getElem?_eq_some_iff.mp hw).2
    exact ⟨ns[m], w', List.getElem?_eq_getElem hm', by rw [← e', ← e]; simp⟩
  have fl : (ns.map V.int).all flatV = true := by
    rw [List.all_map]
    exact List.all_eq_true.mpr fun _ _ => rfl
  refine call_meets PySem.F.slot_tuple_index ⟨_, ho, rfl⟩ PySem.F.entry_tuple_index (PySem.F.args_tuple_index_2 _ _) (TI.tuple_indexAt p its.toArray n dd sl (.int k t) (eqU (.int k)) j hj ?_ ?_)
    ⟨ho, fun w hw => mem_eqAt (x := .int k) ⟨t, rfl⟩ rfl r fl w (by simpa using hw), ⟨.int (j : Nat), H, I.tok _, ⟨_, rfl⟩, q⟩⟩
  · obtain ⟨y, w, h1, h2⟩ := item j hj
    rw [hy] at h1
    cases h1
    rw [h2]
    simp [eqU, eqV]
  · intro m hm hmj
    obtain ⟨y, w, h1, h2⟩ := item m hm
    rw [h2]
    have : y ≠ k := fun e => hno m hmj (e ▸ h1)
    simp [eqU, eqV, this]
end DL

/-! DL15: owned things set aside; lists whose items are owned lists -/
namespace DL
open PySem PySem.Spec L2
section
variable {K : PySem.W.Frag} {B B' : Base} {G G' H H' G1 G2 H1 : Hp} {σ σ1 : L2.St} {ρ ρ1 : List Slot}
def Base.aside (B : Base) (H : Hp) (A : List Addr) : Base := { B with H0 := fun a => if a ∈ A then H a else B.H0 a, Mo := fun l => (B.Mo l).filter (fun a => decide (a ∉ A)), m0 := by rw [B.m0]; rfl }
/-- an owned temp set aside -/
theorem En.aside {v : V} {o : OT} {ex : List (V × Slot)} (E : En K B G H σ ρ ((v, .own 0 o) :: ex)) : ∃ B' : Base, B'.rs = B.rs ∧ En K B' G H σ ρ ex ∧
    ∀ G1 H1 σ1 ρ1 ex1, Ex G G1 → En K B' G1 H1 σ1 ρ1 ex1 → noAlis ρ1 = true → En K B G1 H1 σ1 ρ1 ((v, .own 0 o) :: ex1) := by
  obtain ⟨A0, c, n, g⟩ := E.own
  cases c with
  | @cons _ _ A _ _ A2 c1 cr =>
    cases c1 with
    | own hO hl hp =>
      have n1 := List.nodup_append.mp n
      have hA : ∀ a ∈ A, G a = none := fun a m => g a (List.mem_append_left _ m)
      have h0 : ∀ a ∈ A, B.H0 a = none := fun a m => (hl a m).resolve_left (by rw [B.m0]; exact fun z => nomatch z)
      have hT : ∀ a ∈ A, ∃ vs, H a = some vs := hO.there
      have disj : ∀ a ∈ A2, a ∉ A := fun a m z => n1.2.2 a z a m rfl
      refine ⟨B.aside H A, rfl, ⟨⟨fun a o hm e => ?_, fun a l hm => E.anc.there a l (List.mem_filter.mp hm).1, E.anc.gsub, fun a e1 e2 => ?_, E.anc.sub⟩, ⟨A2, ?_, n1.2.1, fun a m => g a (List.mem_append_right _ m)⟩, E.len, E.ali⟩, fun G1 H1 σ1 ρ1 ex1 x E1 ha => ?_⟩
      · have e : (if a ∈ A then H a else B.H0 a) = some o := e
        by_cases ha : a ∈ A
        · rw [if_pos ha] at e
          exact e
        · rw [if_neg ha] at e
          exact E.anc.keep a o (fun l m => hm l (List.mem_filter.mpr ⟨m, decide_eq_true ha⟩)) e
      · by_cases ha : a ∈ A
        · exact hA a ha
        · have e1 : (if a ∈ A then H a else B.H0 a) ≠ none := e1
          rw [if_neg ha] at e1
          exact E.anc.gnew a e1 e2
      · refine Cells.reb (B := B) cr (fun l a m k => ?_) rfl
        have ha := disj a m
        rcases k with k | k
        · exact .inl (List.mem_filter.mpr ⟨k, decide_eq_true ha⟩)
        · refine .inr ?_
          show (if a ∈ A then H a else B.H0 a) = _
          rw [if_neg ha, k]
      · obtain ⟨A5, c5, n5, g5⟩ := E1.own
        have hH1 : ∀ a ∈ A, H1 a = H a := fun a m => by
          obtain ⟨vs, e⟩ := hT a m
          rw [e]
          refine E1.anc.keep a _ (fun l z => of_decide_eq_true (List.mem_filter.mp z).2 m) ?_
          show (if a ∈ A then H a else B.H0 a) = _
          rw [if_pos m, e]
        have hG1 : ∀ a ∈ A, G1 a = none := fun a m => E1.anc.gnew a (by
          show (if a ∈ A then H a else B.H0 a) ≠ none
          rw [if_pos m]
          obtain ⟨vs, e⟩ := hT a m
          rw [e]
          exact fun z => nomatch z) (by
          show B.G0 a = none
          exact E.anc.gsub.back (hA a m))
        have disj5 : ∀ a ∈ A5, a ∉ A := fun a m ha => by
          rcases Cells.region c5 a m with ⟨l, z⟩ | z
          · exact of_decide_eq_true (List.mem_filter.mp z).2 ha
          · have z : (if a ∈ A then H a else B.H0 a) = none := z
            rw [if_pos ha] at z
            obtain ⟨vs, e⟩ := hT a ha
            rw [e] at z
            cases z
        refine ⟨⟨fun a o hm e => ?_, fun a l hm => ?_, E1.anc.gsub, fun a e1 e2 => ?_, E1.anc.sub⟩, ⟨A ++ A5, .cons (.own (hO.ex x fun a m u e => by rw [hH1 a m, e]) hl hp) ?_, List.nodup_append.mpr ⟨n1.1, n5, fun a m b mb e => ?_⟩, fun a m => ?_⟩, E1.len, fun i j q e => absurd e (noAlis_get ha)⟩
        · have ha : a ∉ A := fun z => by
            rw [h0 a z] at e
            cases e
          refine E1.anc.keep a o (fun l m => hm l (List.mem_filter.mp m).1) ?_
          show (if a ∈ A then H a else B.H0 a) = _
          rw [if_neg ha]
          exact e
        · by_cases ha : a ∈ A
          · rw [hH1 a ha]
            obtain ⟨vs, e⟩ := hT a ha
            rw [e]
            exact fun z => nomatch z
          · exact E1.anc.there a l (List.mem_filter.mpr ⟨hm, decide_eq_true ha⟩)
        · have ha : a ∉ A := fun z => e1 (h0 a z)
          refine E1.anc.gnew a ?_ e2
          show (if a ∈ A then H a else B.H0 a) ≠ none
          rw [if_neg ha]
          exact e1
        · refine Cells.reb (B := B.aside H A) c5 (fun l a m k => ?_) rfl
          have ha := disj5 a m
          rcases k with k | k
          · exact .inl (List.mem_filter.mp k).1
          · refine .inr ?_
            have k : (if a ∈ A then H a else B.H0 a) = none := k
            rw [if_neg ha] at k
            exact k
        · subst e
          exact disj5 a mb m
        · rcases List.mem_append.mp m with m | m
          · exact hG1 a m
          · exact g5 a m
theorem OwnAll.append {A A' : List Addr} : ∀ {vs ws : List V} {os us : List OT}, OwnAll K G H vs os A → OwnAll K G H ws us A' → OwnAll K G H (vs ++ ws) (os ++ us) (A ++ A')
  | _, _, _, _, .nil, s => s
  | _, _, _, _, .cons h r, s => by
    rw [List.append_assoc]
    exact .cons h (OwnAll.append r s)
/-- an owned thing put behind an owned list's items -/
theorem En.appO {p : Addr} {os : List OT} {w : V} {u : OT} {ex : List (V × Slot)} (E : En K B G H σ ρ ((.ref p, .own 0 (.lst os)) :: (w, .own 0 u) :: ex)) (hal : noAlis ρ = true) : ∃ vs, H p = some (.lst vs) ∧ vs.length = os.length ∧ En K B G (upd H p (.lst (vs ++ [w]))) σ ρ ((.ref p, .own 0 (.lst (os ++ [u]))) :: ex) := by
  obtain ⟨A0, c, n, g⟩ := E.own
  cases c with
  | @cons _ _ A1 _ _ A2 c1 cr =>
    cases cr with
    | @cons _ _ A3 _ _ A4 c2 c3 =>
      cases c1 with
      | own hO hl hp =>
        cases c2 with
        | own hU hl2 hp2 =>
          cases hO with
          | @lst _ vs _ A5 hH hall =>
            have n1 := List.nodup_cons.mp n
            have n2 := List.nodup_append.mp n1.2
            have n3 := List.nodup_append.mp n2.2.1
            have hn : ∀ (A : List Addr), (∀ a ∈ A, a ∈ A5 ++ (A3 ++ A4)) → ∀ a ∈ A, ∀ u, H a = some u → upd H p (.lst (vs ++ [w])) a = some u := fun A s a m u e => by
              rw [upd_ne (fun z => n1.1 (by rw [← z]; exact s a m))]
              exact e
            refine ⟨vs, hH, hall.len, ⟨E.anc.put (g p (by simp)) (.inr ((hl p (by simp)).resolve_left (by rw [B.m0]; exact fun z => nomatch z))) _, ⟨(p :: (A5 ++ (A3 ++ []))) ++ A4, .cons (.own (.lst upd_same ?_) (fun a m => ?_) (.inl rfl)) (c3.ex (Ex.refl G) (hn A4 fun a m => by simp [m])), ?_, fun a m => g a ?_⟩, E.len, fun i j q e => ?_⟩⟩
            · exact OwnAll.append (hall.ex (Ex.refl G) (hn A5 fun a m => by simp [m])) (.cons (hU.ex (Ex.refl G) (hn A3 fun a m => by simp [m])) .nil)
            · rcases List.mem_cons.mp m with rfl | m
              · exact hl _ (by simp)
              · rcases List.mem_append.mp m with m | m
                · exact hl a (by simp [m])
                · exact hl2 a (by simpa using m)
            · simpa using n
            · simpa using m
            · exact absurd e (noAlis_get hal)
end
/-- a comprehension whose items are owned lists -/
theorem tlc_ofO {K : PySem.W.Frag} {B : Base} {ρ : List Slot} {α S γ δ ε β0 : Type} {m : R β0} {xs : β0 → List α} {ea : α → D} {eo : γ → OT} {ρ1 : β0 → List Slot} {vs ts : List Nat} {ρS : S → List Slot} {s0 : β0 → S} {ρB : α → S → List Slot} {c : α → S → R δ} {bn : δ → Bool} {me : α → S → R ε} {v : ε → γ} {st : ε → S}
    (hw : ∀ b, ρ1 b = ρS (s0 b)) (hpl : ∀ s, plainAt 0 vs (ρS s) = true) (hna : ∀ s, noAlis (ρS s) = true) (hts : ∀ i ∈ ts, i ∈ vs) (hplB : ∀ x s, plainAt 0 vs (ρB x s) = true) (hnaB : ∀ x s, noAlis (ρB x s) = true) (hun : ∀ x s s', unblot 0 vs (ρS s) (ρB x s') = ρS s')
    {σ : L2.St} {H : Hp} {Q : VK}
    (q : tJ K B ρ (m.bind fun b => (R.guard ((xs b).length ≤ sizeLine)).bind fun _ => compR (compF c bn me v st) (xs b) [] (s0 b)) (fun p => .own 0 (.lst (p.1.map eo))) (fun p => ρS p.2) σ H Q) :
    tLc (tJI K B ρ m (fun b => (xs b).map ea) ρ1) (fun w σ H Q => ∃ B' x s, B'.rs = B.rs ∧ tJN K B' (blot 0 vs (ρS s)) (ea x) ts (ρB x s) w σ H Q) (fun σ H Q => ∃ B' x s, B'.rs = B.rs ∧ tJT K B' (ρB x s) (c x s) bn (fun _ => ρB x s) σ H Q)
      (fun σ H Q => ∃ B' x s, B'.rs = B.rs ∧ tJ K B' (ρB x s) (me x s) (fun y => .own 0 (eo (v y))) (fun y => ρB x (st y)) σ H Q) vs σ H Q := by
  obtain ⟨G, E, q⟩ := q
  refine ⟨G, E, R.post_mono (R.post_bind.mp q) fun b q1 J G' H' xG E' Y p hp => ?_⟩
  obtain ⟨hsz, q2⟩ := R.post_guard (R.post_bind.mp q1)
  have hlen : ((xs b).map ea).length = (xs b).length := List.length_map _
  let W : Nat → Hp → Prop := fun i H1 => ∃ G1 s acc, Ex G' G1 ∧ En K B G1 H1 σ (ρS s) [(.ref p, .own 0 (.lst (acc.map eo)))] ∧ acc.length ≤ i ∧
    (compR (compF c bn me v st) ((xs b).drop i) acc s).post (fun r => ∀ w G2 H2, Ex G1 G2 → En K B G2 H2 σ (ρS r.2) [(w, .own 0 (.lst (r.1.map eo)))] → Q w H2) B.rs
  refine ⟨fun i mm H1 => mm = (xs b).length - i ∧ i ≤ (xs b).length ∧ W i H1, ⟨_, rfl, Nat.zero_le _, G', s0 b, [], Ex.refl _, ?_, Nat.le_refl _, R.post_mono q2 fun r h w G2 H2 x2 E2 => h w G2 H2 (xG.trans x2) E2⟩, ?_⟩
  · rw [hw b] at E'
    exact E'.newL (ds := []) hp .nil
  · rintro i mm H1 ⟨rfl, hi1, G1, s, acc, x1, E1, hacc, q3⟩
    by_cases hlt : i < (xs b).length
    · refine .inr ⟨Y.go i H1 (by rw [hlen]; exact hlt) (x1.trans E1.sub), fun H' => W (i + 1) H', fun H' w => ⟨_, ?_, rfl, hlt, w⟩, fun w H2 hy => ?_⟩
      · omega
      · obtain ⟨B', hB, Eh, back⟩ := E1.aside
        have hd : ((xs b).map ea)[i]? = some (ea (xs b)[i]) := by rw [List.getElem?_map, List.getElem?_eq_getElem hlt]; rfl
        obtain ⟨G2, x2, E2, r2⟩ := Y.yld _ i G1 H1 σ (ρS s) w H2 x1 Eh hy _ hd
        rw [List.drop_eq_getElem_cons hlt, compR] at q3
        generalize hx : (xs b)[i] = x at q3 r2
        have Eb : En K B' G2 H2 (wipe σ vs) (blot 0 vs (ρS s)) [] := E2.inB vs (hpl s) (hna s) (wipe_length σ vs) fun j hj => wipe_out hj
        refine ⟨B', x, s, hB, G2, Eb, r2, fun σ2 h2 l2 E3 => ?_⟩
        have l2' : σ2.length = σ.length := l2.trans (wipe_length σ vs)
        have k2 : ∀ j, j ∉ vs → σ2[j]? = σ[j]? := fun j hj => by
          rw [h2 j fun z => hj (hts j z), wipe_out hj]
        refine ⟨wipe_eq l2' k2, B', x, s, hB, G2, E3, ?_⟩
        unfold compF at q3
        have q4 := R.post_bind.mp (R.post_bind.mp q3)
        rw [hB]
        refine R.post_mono q4 fun d q5 G3 H3 x3 E3' => ?_
        cases hbn : bn d with
        | false =>
          rw [if_neg (by decide)]
          rw [hbn, if_neg (by decide)] at q5
          have Eo := E2.outB E3' x3 vs (hpl s) (hplB x s) (hna s) (hnaB x s) k2 l2'
          rw [hun x s s] at Eo
          have x13 := x2.trans x3
          have Ef := back G3 H3 σ _ [] x13 Eo (hna s)
          exact ⟨G3, s, acc, x1.trans x13, Ef, by omega, R.post_mono q5 fun r h w G4 H4 x4 E4 => h w G4 H4 (x13.trans x4) E4⟩
        | true =>
          rw [if_pos rfl]
          rw [hbn, if_pos rfl] at q5
          refine ⟨B', x, s, hB, G3, E3', ?_⟩
          rw [hB]
          refine R.post_mono (R.post_bind.mp q5) fun y q6 w2 G4 H4 x4 E4 => ?_
          obtain ⟨B2, hB2, E5, back2⟩ := E4.aside
          have Eo := E2.outB E5 (x3.trans x4) vs (hpl s) (hplB x _) (hna s) (hnaB x _) k2 l2'
          rw [hun x s (st y)] at Eo
          have x14 := x2.trans (x3.trans x4)
          have Ep := back2 G4 H4 σ _ [] (Ex.refl _) Eo (hna _)
          have Ef := back G4 H4 σ _ _ x14 Ep (hna _)
          obtain ⟨us, g1, g2, g3⟩ := Ef.appO (hna _)
          have hl : us.length = acc.length := by rw [g2, List.length_map]
          refine ⟨us, g1, by omega, G4, st y, acc ++ [v y], x1.trans x14, ?_, by rw [List.length_append]; simp; omega, R.post_mono q6 fun r h w G5 H5 x5 E5 => h w G5 H5 (x14.trans x5) E5⟩
          rw [List.map_append]
          exact g3
    · refine .inl ⟨Y.stop i H1 (by rw [hlen]; omega) (x1.trans E1.sub), ?_⟩
      rw [List.drop_eq_nil_of_le (by omega)] at q3
      exact q3 _ G1 H1 (Ex.refl _) E1
section
variable {X : Cx} {B : Base} {ρ : List Slot} {pos : Pos} {e a b tg it elt : Expr}
/-- such a comprehension, its items owned -/
theorem je_lcO {α S γ δ ε β0 : Type} {ifs : List Expr} {sc : Scope} {m : R β0} {xs : β0 → List α} {ea : α → D} {ρ1 : β0 → List Slot} (own : List (Str × Nat)) {ts : List Nat} (eo : γ → OT) (ρS : S → List Slot) (s0 : β0 → S) (ρB : α → S → List Slot) {c : α → S → R δ} {bn : δ → Bool} {me : α → S → R ε} (v : ε → γ) (st : ε → S)
    (hc : X.calm = true) (hN : X.N.Nodup) (hi : JI X B ρ tg it m (fun b => (xs b).map ea) ρ1) (ok : BlkOk X.N X.env.scope sc own) (hw : ∀ b, ρ1 b = ρS (s0 b))
    (hg : Blk X sc fun X' => ∀ B' : Base, B'.rs = B.rs → ∀ x s, JN X' B' (blot 0 (own.map (·.2)) (ρS s)) tg (ea x) ts (ρB x s))
    (ht : Blk X sc fun X' => ∀ B' : Base, B'.rs = B.rs → ∀ x s, JTs X' B' (ρB x s) ifs (c x s) bn)
    (he : Blk X sc fun X' => ∀ B' : Base, B'.rs = B.rs → ∀ x s, JE X' B' (ρB x s) elt (me x s) (fun y => .own 0 (eo (v y))) (fun y => ρB x (st y)))
    (hpl : ∀ s, plainAt 0 (own.map (·.2)) (ρS s) = true := by intro _; rfl) (hna : ∀ s, noAlis (ρS s) = true := by intro _; rfl) (hts : ∀ i ∈ ts, i ∈ own.map (·.2) := by decide) (hplB : ∀ x s, plainAt 0 (own.map (·.2)) (ρB x s) = true := by intro _ _; rfl)
    (hnaB : ∀ x s, noAlis (ρB x s) = true := by intro _ _; rfl) (hun : ∀ x s s', unblot 0 (own.map (·.2)) (ρS s) (ρB x s') = ρS s' := by intro _ _ _; rfl) (hs : ∀ x, foldedSetIterable it X.env x = pure x := by intro _; rfl) :
    JE X B ρ (.ListComp elt [⟨tg, it, ifs, 0⟩] sc pos) (m.bind fun b => (R.guard ((xs b).length ≤ sizeLine)).bind fun _ => compR (compF c bn me v st) (xs b) [] (s0 b)) (fun p => .own 0 (.lst (p.1.map eo))) (fun p => ρS p.2) := by
  refine PE_imp (pe_lc (own := own) hc hN hi ok (fun s H C cl fp => ?_) (fun s H C cl fp => ?_) (fun s H C cl fp => ?_) hs) fun σ H Q q => tlc_ofO (ts := ts) (ρB := ρB) (c := c) (bn := bn) (me := me) (v := v) (st := st) hw hpl hna hts hplB hnaB hun q
  · exact ⟨fun pins s σ H v u Q I r ⟨B', x, s', h, q⟩ => (hg _ _ _ _ _ B' h x s').run pins s σ H v u Q I r q⟩
  · exact ⟨fun pins s σ H Q I ⟨B', x, s', h, q⟩ => (ht _ _ _ _ _ B' h x s').run pins s σ H Q I q⟩
  · exact ⟨fun pins s σ H Q I ⟨B', x, s', h, q⟩ => (he _ _ _ _ _ B' h x s').run pins s σ H Q I q⟩
/-- and stored -/
theorem j1_setLcO (i : Nat) {y : Str} {py spos : Pos} {α S γ δ ε β0 : Type} {ifs : List Expr} {sc : Scope} {m : R β0} {xs : β0 → List α} {ea : α → D} {ρ1 : β0 → List Slot} (own : List (Str × Nat)) {ts : List Nat} (eo : γ → OT) (ρS : S → List Slot) (s0 : β0 → S) (ρB : α → S → List Slot) {c : α → S → R δ} {bn : δ → Bool} {me : α → S → R ε} (v : ε → γ) (st : ε → S)
    (hc : X.calm = true) (hN : X.N.Nodup) (hi : JI X B ρ tg it m (fun b => (xs b).map ea) ρ1) (ok : BlkOk X.N X.env.scope sc own) (hw : ∀ b, ρ1 b = ρS (s0 b))
    (hg : Blk X sc fun X' => ∀ B' : Base, B'.rs = B.rs → ∀ x s, JN X' B' (blot 0 (own.map (·.2)) (ρS s)) tg (ea x) ts (ρB x s))
    (ht : Blk X sc fun X' => ∀ B' : Base, B'.rs = B.rs → ∀ x s, JTs X' B' (ρB x s) ifs (c x s) bn)
    (he : Blk X sc fun X' => ∀ B' : Base, B'.rs = B.rs → ∀ x s, JE X' B' (ρB x s) elt (me x s) (fun y => .own 0 (eo (v y))) (fun y => ρB x (st y)))
    (hy : X.N[i]? = some y := by rfl) (hyl : X.env.scope.names.lookup y = some .local := by rfl) (hsw : swapsWith (.ListComp elt [⟨tg, it, ifs, 0⟩] sc pos) (some (.Name y py)) spos.line X.env = pure true := by exact sw_true rfl rfl rfl (by decide +kernel))
    (hpl : ∀ s, plainAt 0 (own.map (·.2)) (ρS s) = true := by intro _; rfl) (hna : ∀ s, noAlis (ρS s) = true := by intro _; rfl) (hts : ∀ i ∈ ts, i ∈ own.map (·.2) := by decide) (hplB : ∀ x s, plainAt 0 (own.map (·.2)) (ρB x s) = true := by intro _ _; rfl)
    (hnaB : ∀ x s, noAlis (ρB x s) = true := by intro _ _; rfl) (hun : ∀ x s s', unblot 0 (own.map (·.2)) (ρS s) (ρB x s') = ρS s' := by intro _ _ _; rfl) (hs : ∀ x, foldedSetIterable it X.env x = pure x := by intro _; rfl)
    (hlt : ∀ s, i < (ρS s).length := by intro _; exact of_decide_eq_true rfl) (hal : ∀ s, noAli i (ρS s) = true := by intro _; rfl) :
    J1 X B ρ (.Assign [.Name y py] (.ListComp elt [⟨tg, it, ifs, 0⟩] sc pos) spos) (m.bind fun b => (R.guard ((xs b).length ≤ sizeLine)).bind fun _ => compR (compF c bn me v st) (xs b) [] (s0 b)) (fun p => (ρS p.2).set i (.own 0 (.lst (p.1.map eo)))) := by
  have h1 := ps_setLc (X := X) (i := i) (own := own) (spos := spos) (py := py) (y := y) (elt := elt) (pos := pos) (g := fun w σ H Q => ∃ B' x s, B'.rs = B.rs ∧ tJN X.K B' (blot 0 (own.map (·.2)) (ρS s)) (ea x) ts (ρB x s) w σ H Q) (tt := fun σ H Q => ∃ B' x s, B'.rs = B.rs ∧ tJT X.K B' (ρB x s) (c x s) bn (fun _ => ρB x s) σ H Q)
    (te := fun σ H Q => ∃ B' x s, B'.rs = B.rs ∧ tJ X.K B' (ρB x s) (me x s) (fun y => .own 0 (eo (v y))) (fun y => ρB x (st y)) σ H Q) hc hN hy hyl hsw hi ok
    (fun s H C cl fp => ⟨fun pins s σ H v u Q I r ⟨B', x, s', h, q⟩ => (hg _ _ _ _ _ B' h x s').run pins s σ H v u Q I r q⟩)
    (fun s H C cl fp => ⟨fun pins s σ H Q I ⟨B', x, s', h, q⟩ => (ht _ _ _ _ _ B' h x s').run pins s σ H Q I q⟩)
    (fun s H C cl fp => ⟨fun pins s σ H Q I ⟨B', x, s', h, q⟩ => (he _ _ _ _ _ B' h x s').run pins s σ H Q I q⟩) hs
  refine PS_imp h1 fun D σ H ⟨G, E, q⟩ => ?_
  show tLc _ _ _ _ _ σ H (fun x H1 => D.nx (σ.set i (some x)) H1)
  refine tlc_ofO (ts := ts) (ρB := ρB) (c := c) (bn := bn) (me := me) (v := v) (st := st) (eo := eo) (ρS := ρS) (s0 := s0) hw hpl hna hts hplB hnaB hun ⟨G, E, R.post_mono q fun p q1 w G' H' x E' => q1 _ G' H' x (E'.set (hlt _) (fun _ _ z => nomatch z) (hal _))⟩
end
section
variable {K : PySem.W.Frag} {B B' : Base} {G G' H H' G1 G2 H1 : Hp} {σ σ1 : L2.St} {ρ ρ1 : List Slot}
/-- an owned thing put behind the items of a slot's list -/
theorem En.appS {i l : Nat} {os : List OT} {w : V} {u : OT} (E : En K B G H σ ρ [(w, .own 0 u)]) (h : ρ[i]? = some (.own l (.lst os))) (hal : noAlis ρ = true) : ∃ p vs, σ[i]? = some (some (.ref p)) ∧ H p = some (.lst vs) ∧ vs.length = os.length ∧ En K B G (upd H p (.lst (vs ++ [w]))) σ (ρ.set i (.own l (.lst (os ++ [u])))) [] := by
  obtain ⟨A0, c, n, g⟩ := E.own
  cases c with
  | @cons _ _ A1 _ _ A2 c1 cr =>
    cases c1 with
    | own hU hl2 hp2 =>
      obtain ⟨v, A, A3, e1, hO, ⟨hl, hp⟩, c2, pm⟩ := Cells.take1 (show Cells K B G H σ ρ A2 from cr) h
      cases hO with
      | @lst p vs _ A5 hH hall =>
        have n1 := List.nodup_append.mp n
        have n2 := List.nodup_append.mp (pm.nodup_iff.mp n1.2.1)
        have np : ∀ a, a ∈ A1 → a ≠ p := fun a m z => n1.2.2 a m p (pm.mem_iff.mpr (by simp)) z
        have np5 : ∀ a, a ∈ A5 → a ≠ p := fun a m z => (List.nodup_cons.mp n2.1).1 (by rw [← z]; exact m)
        have np3 : ∀ a, a ∈ A3 → a ≠ p := fun a m z => n2.2.2 p (by simp) a m z.symm
        have hG : G p = none := g p (List.mem_append_right _ (pm.mem_iff.mpr (by simp)))
        have c3 : Cells K B G (upd H p (.lst (vs ++ [w]))) σ (ρ.set i .non) A3 := c2.ex (Ex.refl G) fun a m u e => by
          rw [upd_ne (np3 a m)]
          exact e
        have hO2 : Own K G (upd H p (.lst (vs ++ [w]))) (.ref p) (.lst (os ++ [u])) (p :: (A5 ++ (A1 ++ []))) := .lst upd_same (OwnAll.append (hall.ex (Ex.refl G) fun a m u e => by
          rw [upd_ne (np5 a m)]
          exact e) (.cons (hU.ex (Ex.refl G) fun a m u e => by
          rw [upd_ne (np a m)]
          exact e) .nil))
        have hi : i < ρ.length := (List.getElem?_eq_some_iff.mp h).1
        obtain ⟨A8, c8, p8⟩ := c3.put1 (i := i) (l := l) (o := .lst (os ++ [u])) (v := .ref p) (A1 := p :: (A5 ++ (A1 ++ []))) (by rw [List.getElem?_set_self hi]) e1 hO2 ⟨fun a m => by
          rcases List.mem_cons.mp m with rfl | m
          · exact hl _ (by simp)
          · rcases List.mem_append.mp m with m | m
            · exact hl a (by simp [m])
            · exact .inr ((hl2 a (by simpa using m)).resolve_left (by rw [B.m0]; exact fun z => nomatch z)), hp⟩
        rw [List.set_set] at c8
        have perm : (p :: (A5 ++ (A1 ++ [])) ++ A3).Perm (A1 ++ A2) := by
          have q1 : (A1 ++ A2).Perm (A1 ++ ((p :: A5) ++ A3)) := pm.append_left A1
          have q2 : (A1 ++ ((p :: A5) ++ A3)).Perm (p :: (A5 ++ (A1 ++ [])) ++ A3) := by
            rw [← List.append_assoc]
            refine List.Perm.append_right A3 ?_
            rw [List.append_nil]
            exact List.perm_append_comm (l₁ := A1) (l₂ := p :: A5)
          exact (q1.trans q2).symm
        refine ⟨p, vs, e1, hH, hall.len, ⟨E.anc.put hG ((hl p (by simp)).elim (fun z => .inl ⟨l, z⟩) .inr) _, ⟨A8, c8, p8.nodup_iff.mpr (perm.nodup_iff.mpr n), fun a m => g a (perm.mem_iff.mp (p8.mem_iff.mp m))⟩, by rw [List.length_set]; exact E.len, fun k j q e => ?_⟩⟩
        by_cases hk : i = k
        · subst hk
          rw [List.getElem?_set_self hi] at e
          cases e
        · rw [List.getElem?_set_ne hk] at e
          exact absurd e (noAlis_get hal)
end
section
variable {X : Cx} {B : Base} {ρ : List Slot} {pos : Pos} {e : Expr} {es : List Expr}
/-- xs.append(an owned thing) -/
theorem je_appO (i : Nat) {x : Str} {px ap : Pos} {l l0 : Nat} {os0 : List OT} {β : Type} (os : β → List OT) {m : R β} {y : β → OT} {ρ' : β → List Slot} (he : JE X B ρ e m (fun b => .own 0 (y b)) ρ') (h : ∀ b, (ρ' b)[i]? = some (.own l (.lst (os b))) := by intro _; rfl) (hal : ∀ b, noAlis (ρ' b) = true := by intro _; rfl)
    (h0 : ρ[i]? = some (.own l0 (.lst os0)) := by rfl) (hN : X.N[i]? = some x := by rfl) (hv : Vis X.env.scope x := by first | exact Or.inl rfl | exact Or.inr (Or.inl rfl) | exact Or.inr (Or.inr rfl))
    (hd : (x == ("__debug__" : Str)) = false := by decide) (hcd : (x == ("__classdict__" : Str)) = false := by decide) (hst : starEach [e] X.env = (false, eval e X.env) :: starEach [] X.env := by rfl)
    (hbase : attributeBase (.Name x px) "append" X.env (eval (.Name x px) X.env) = eval (.Name x px) X.env := by rfl)
    (hone : ((backTo pos (starEach [e] X.env)).all (fun x => !x.1) && (backToKw pos (keywordEach [] X.env)).all (fun x => x.1.isSome) && decide ([e].length + ([] : List Keyword).length + (if ([] : List Keyword).isEmpty then 0 else 1) < 30)) = true := by rfl)
    (hline : (ap.endLine == pos.line) = true := by rfl) (hnil : (backTo pos (starEach [] X.env)).any (·.1) = false := by rfl) :
    JE X B ρ (.Call (.Attribute (.Name x px) "append" ap) [e] [] pos) (m.bind fun b => (R.guard ((os b).length < sizeLine)).bind fun _ => .ok b) (fun _ => .val .none) (fun b => (ρ' b).set i (.own l (.lst (os b ++ [y b])))) :=
  PE_imp (pe_bm PySem.F.plainAttrs_list PySem.F.slot_list_append PySem.F.type_list_append mt_append (pv (X := X) (pos := px) i hN hv hd hcd) (pa_cons he pa_nil hst) hbase hone hline hst hnil) fun σ H Q ⟨G, E, q⟩ => by
    obtain ⟨A, c, n, g⟩ := E.own
    obtain ⟨w, A1, A2, e1, hO, hl, c2, pm⟩ := Cells.take1 (show Cells X.K B G H σ ρ A from c) h0
    cases hO with
    | @lst a vs _ A3 ha hall =>
      refine ⟨.ref a, e1, .inl ⟨rfl, _, .inl (.inl ha)⟩, G, E, R.post_mono (R.post_bind.mp q) (fun b hb => ?_)⟩
      intro v G1 H1 x1 E1
      obtain ⟨p, vs1, g1, g2, g3, g4⟩ := E1.appS (h b) (hal b)
      have ep : p = a := by
        have z := g1.symm.trans e1
        injection z with z
        injection z with z
        injection z
      subst ep
      obtain ⟨hz, q⟩ := R.post_guard (R.post_bind.mp hb)
      exact ⟨p, vs1, v, rfl, rfl, g2, by omega, q _ G1 _ x1 (g4.push .non)⟩
/-- items that are owned things -/
def tJAo (K : PySem.W.Frag) (B : Base) (ρ : List Slot) {β : Type} (m : R β) (os : β → List OT) (ρ' : β → List Slot) : TA := fun σ H Q =>
  ∃ G, En K B G H σ ρ [] ∧ m.post (fun b => ∀ vs G' H', Ex G G' → vs.length = (os b).length → En K B G' H' σ (ρ' b) (vs.zip ((os b).map (Slot.own 0))) → Q vs H') B.rs
def JAo (X : Cx) (B : Base) (ρ : List Slot) (es : List Expr) {β : Type} (m : R β) (os : β → List OT) (ρ' : β → List Slot) : Prop := PA X es (tJAo X.K B ρ m os ρ')
theorem jao_nil : JAo X B ρ [] (.ok ()) (fun _ => []) (fun _ => ρ) := PA_imp pa_nil fun σ H Q ⟨G, E, q⟩ => q [] G H (Ex.refl G) rfl E
theorem jao_cons {α β : Type} {ma : R α} {xo : α → OT} {ρa : α → List Slot} {mb : α → R β} {os : α → β → List OT} {ρ' : α → β → List Slot} (h : JE X B ρ e ma (fun x => .own 0 (xo x)) ρa) (t : ∀ B' : Base, B'.rs = B.rs → ∀ x, JAo X B' (ρa x) es (mb x) (os x) (ρ' x)) (ha : ∀ x y, noAlis (ρ' x y) = true := by intro _ _; rfl)
    (hst : starEach (e :: es) X.env = (false, eval e X.env) :: starEach es X.env := by rfl) : JAo X B ρ (e :: es) (ma.bind fun x => (mb x).bind fun y => .ok (x, y)) (fun p => xo p.1 :: os p.1 p.2) (fun p => ρ' p.1 p.2) := by
  have t' : PA X es (fun σ H Q => ∃ B' x, B'.rs = B.rs ∧ tJAo X.K B' (ρa x) (mb x) (os x) (ρ' x) σ H Q) := ⟨fun ps pins s σ H Q I ⟨B', x, hB, q⟩ => (t B' hB x).run ps pins s σ H Q I q⟩
  exact PA_imp (pa_cons h t' hst) fun σ H Q ⟨G, E, q⟩ => ⟨G, E, R.post_mono (R.post_bind.mp q) fun x k v G1 H1 x1 E1 => by
    obtain ⟨B', hB, E2, back⟩ := E1.aside
    refine ⟨B', x, hB, G1, E2, ?_⟩
    rw [hB]
    exact R.post_mono (R.post_bind.mp k) fun y k vs G2 H2 x2 hl E3 => k (v :: vs) G2 H2 (x1.trans x2) (by simpa using hl) (back G2 H2 σ _ _ x2 E3 (ha x y))⟩
theorem cells_zip {K : PySem.W.Frag} {G H : Hp} {σ : L2.St} {ρ : List Slot} : ∀ {vs : List V} {os : List OT} {A : List Addr}, vs.length = os.length → Cells K B G H ((vs.zip (os.map (Slot.own 0))).map (fun p => some p.1) ++ σ) ((vs.zip (os.map (Slot.own 0))).map (·.2) ++ ρ) A →
    ∃ A1 A2, OwnAll K G H vs os A1 ∧ Cells K B G H σ ρ A2 ∧ A = A1 ++ A2 ∧ ∀ a ∈ A1, B.H0 a = none
  | [], [], A, _, c => ⟨[], A, .nil, c, rfl, fun _ m => nomatch m⟩
  | v :: vs, o :: os, _, h, .cons c r => by
    obtain ⟨A1, A2, h1, h2, h3, h4⟩ := cells_zip (vs := vs) (os := os) (by simpa using h) r
    cases c with
    | own hO hl hp =>
      subst h3
      refine ⟨_ ++ A1, A2, .cons hO h1, h2, by rw [List.append_assoc], fun a m => ?_⟩
      rcases List.mem_append.mp m with m | m
      · exact (hl a m).resolve_left (by rw [B.m0]; exact fun z => nomatch z)
      · exact h4 a m
theorem En.newO {K : PySem.W.Frag} {G H : Hp} {σ : L2.St} {ρ : List Slot} {vs : List V} {os : List OT} (hl : vs.length = os.length) (E : En K B G H σ ρ (vs.zip (os.map (Slot.own 0)))) {p : Addr} (hp : H p = none) (hal : noAlis ρ = true) : En K B G (upd H p (.lst vs)) σ ρ [(.ref p, .own 0 (.lst os))] := by
  obtain ⟨A, c, n, g⟩ := E.own
  obtain ⟨A1, A2, h1, h2, h3, h4⟩ := cells_zip hl c
  subst h3
  have hn : ∀ a u, H a = some u → upd H p (.lst vs) a = some u := fun a u e => by
    rw [upd_ne (ne_of_none e hp)]
    exact e
  have hpA : p ∉ A1 ++ A2 := fun m => by
    obtain ⟨u, e⟩ := c.there p m
    rw [hp] at e
    cases e
  have h0 := E.fresh hp
  refine ⟨E.anc.put (E.sub.back hp) (.inr h0) _, ⟨(p :: A1) ++ A2, .cons (.own (.lst upd_same (h1.ex (Ex.refl G) fun a _ u e => hn a u e)) (fun a m => ?_) (.inl rfl)) (h2.ex (Ex.refl G) fun a _ u e => hn a u e), List.nodup_cons.mpr ⟨hpA, n⟩, fun a m => ?_⟩, E.len, fun i j q e => absurd e (noAlis_get hal)⟩
  · rcases List.mem_cons.mp m with rfl | m
    · exact .inr h0
    · exact .inr (h4 a m)
  · rcases List.mem_cons.mp m with rfl | m
    · exact E.sub.back hp
    · exact g a m
/-- a list of owned things -/
theorem je_lstO {β : Type} {m : R β} {os : β → List OT} {ρ' : β → List Slot} (h : JAo X B ρ es m os ρ') (hl : ∀ b, (os b).length ≤ 1000 := by intro _; exact of_decide_eq_true rfl) (ha : ∀ b, noAlis (ρ' b) = true := by intro _; rfl) : JE X B ρ (.List es pos) m (fun b => .own 0 (.lst (os b))) ρ' :=
  PE_imp (pe_lst h) fun σ H Q ⟨G, E, q⟩ => ⟨G, E, R.post_mono q fun b k vs G1 H1 x1 hlen E1 => by
    refine ⟨?_, fun p hp => k _ G1 _ x1 (E1.newO hlen hp (ha b))⟩
    rw [hlen]
    exact Nat.le_of_lt (small1000 (hl b))⟩
end
end DL

/-! DL16: more that is walked -/
namespace DL
open PySem PySem.Spec L2
def enumL {α : Type} (xs : List α) : List (Int × α) := xs.zipIdx.map fun p => ((p.2 : Int), p.1)
theorem enumL_len {α : Type} (xs : List α) : (enumL xs).length = xs.length := by
  rw [enumL, List.length_map, List.length_zipIdx]
theorem enumL_get {α : Type} {xs : List α} {i : Nat} : (enumL xs)[i]? = (xs[i]?).map fun x => ((i : Int), x) := by
  rw [enumL, List.getElem?_map, List.getElem?_zipIdx]
  cases xs[i]? with
  | none => rfl
  | some x => simp
section
variable {X : Cx} {B : Base} {ρ : List Slot} {pos : Pos} {e tg it : Expr}
theorem ji_enum {α β : Type} {m : R β} {xs : β → List α} {f : α → D} {ρ' : β → List Slot} {p tpos : Pos} {elts : List Expr} {kk : Nat} (hg : Gl X "enumerate") (hm : X.mg "enumerate" = none) (h : JE X B ρ e m (fun b => .val (eL f (xs b))) ρ') (hst : starEach [e] X.env = (false, eval e X.env) :: starEach [] X.env := by rfl) (hs : starEach [e] X.env = [(false, eval e X.env)] := by rfl) :
    JI X B ρ (.Tuple elts kk tpos) (.Call (.Name "enumerate" p) [e] [] pos) m (fun b => (enumL (xs b)).map (eP2 D.int f)) ρ' :=
  PI_imp (pi_enum hg hm (pa_cons h pa_nil hst) hs) fun σ H Q ⟨G, E, q⟩ => ⟨G, E, R.post_mono q fun b q1 v G' H' x E' => by
    obtain ⟨a, vs, rfl, hS, hr⟩ := E'.top.lst_inv
    have hS' : SqL X.K G' a vs := .inl hS
    have hl : vs.length = (xs b).length := by rw [hr.len, List.length_map]
    have hl2 : ((enumL (xs b)).map (eP2 D.int f)).length = vs.length := by rw [List.length_map, enumL_len, hl]
    refine ⟨a, vs, rfl, E'.sub.l hS', q1 _ G' H' x E'.pop ⟨fun i H hi e => ⟨vs, vs[i]'(by rw [← hl2]; exact hi), e.l hS', List.getElem?_eq_getElem _⟩, fun i H hi e => ⟨vs, e.l hS', by rw [← hl2]; exact hi⟩, fun B i G1 H1 σ ρ w H' e E hy d hd => ?_⟩⟩
    obtain ⟨T, y, rfl, hT, rfl, hy⟩ := hy
    have hyi := hy vs ((e.trans E.sub).l hS')
    obtain ⟨d2, h1, h2⟩ := hr.getV hyi
    rw [List.getElem?_map, enumL_get] at hd
    rw [List.getElem?_map] at h1
    cases hx : (xs b)[i]? with
    | none =>
      rw [hx] at h1
      cases h1
    | some z =>
      rw [hx] at h1 hd
      injection h1 with h1
      injection hd with hd
      subst h1
      subst hd
      have e1 := Ex.new (o := HO.tup [.int (i : Nat), y]) (E.sub.back hT)
      exact ⟨_, e1, E.new hT _, .tup (.inl (.inl upd_same)) (.cons (.int _) (.cons (h2.ex (e.trans e1)) .nil))⟩⟩
end
end DL

/-! DL17: enumerate of a tuple -/
namespace DL
open PySem PySem.Spec L2
open Sem (wp)
section
variable {prog : Program} {w : World} {A : Around} {E : Value → Shared → Prop} {s : Shared}
theorem nextOf_tup_item {it t : Addr} {i : Nat} {items : Array Value} {x : Value} {Q : Value → Shared → Prop} (ti : s.heap.IsTupleIter it t i) (tt : s.heap.IsTuple t items) (tx : items[i]? = some x)
    (k : ∀ h', h'.IsTupleIter it t (i + 1) → Heap.SameBut it s.heap h' → Q x { s with heap := h' }) : wpAny (model prog w) A (Builtin.SmallTypes.nextOf (.ref it)) Q E s := by
  obtain ⟨o, go, gc, gd⟩ := id ti
  obtain ⟨ol, gl, _, nl, gdl⟩ := tt
  unfold Builtin.SmallTypes.nextOf
  refine wpAny_bind (wpAny_callSpecial?_slot (name := Str.ofString "__next__") ti.typeIs F.slot_tuple_iterator_next (wpAny_call_entry F.slot_tuple_iterator_next ti.typeIs F.entry_tuple_iterator_next ?_ (F.args_tuple_iterator_next_1 _)))
  show wpAny _ _ (field (.ref it) 0 >>= _) _ _ _
  refine wpAny_bind (wpAny_field go gd (x := .ref t) rfl ?_)
  show wpAny _ _ (if (Value.ref t == Value.none) = true then _ else _) _ E _
  rw [if_neg (show ¬ ((Value.ref t == Value.none) = true) by exact Bool.false_ne_true)]
  show wpAny _ _ (field (.ref it) 1 >>= _) _ _ _
  refine wpAny_bind (wpAny_field go gd (x := .int i 0) rfl ?_)
  show wpAny _ _ (seqItems? (.ref t) >>= _) _ E _
  refine wpAny_bind (wpAny_seqItems gl gdl ?_)
  simp only [Int.toNat_natCast, tx]
  refine wpAny_bind (wpAny_setField go gd (by simp) (wpAny_pure ⟨x, rfl, wpAny_pure (k _ ?_ (Heap.SameBut.update ..))⟩))
  exact ⟨_, Heap.get?_update_self _ go (Obj.isFreed_of_fields (Obj.data_mapFields gd _)), (Obj.cls_mapFields ..).trans gc, by rw [Obj.data_mapFields gd]; simp [rawInt]⟩
theorem nextOf_tup_end {it t : Addr} {i : Nat} {items : Array Value} {Q : Value → Shared → Prop} (hh : A.handled = none) (ti : s.heap.IsTupleIter it t i) (tt : s.heap.IsTuple t items) (tx : items[i]? = none)
    (k : ∀ h' e, Heap.ExtBut it s.heap h' → (∃ o, h'.get? e = some o ∧ o.cls = .type "StopIteration") → E (.ref e) { s with heap := h' }) : wpAny (model prog w) A (Builtin.SmallTypes.nextOf (.ref it)) Q E s := by
  obtain ⟨o, go, gc, gd⟩ := id ti
  obtain ⟨ol, gl, _, nl, gdl⟩ := tt
  unfold Builtin.SmallTypes.nextOf
  refine wpAny_bind (wpAny_callSpecial?_slot (name := Str.ofString "__next__") ti.typeIs F.slot_tuple_iterator_next (wpAny_call_entry F.slot_tuple_iterator_next ti.typeIs F.entry_tuple_iterator_next ?_ (F.args_tuple_iterator_next_1 _)))
  show wpAny _ _ (field (.ref it) 0 >>= _) _ _ _
  refine wpAny_bind (wpAny_field go gd (x := .ref t) rfl ?_)
  show wpAny _ _ (if (Value.ref t == Value.none) = true then _ else _) _ E _
  rw [if_neg (show ¬ ((Value.ref t == Value.none) = true) by exact Bool.false_ne_true)]
  show wpAny _ _ (field (.ref it) 1 >>= _) _ _ _
  refine wpAny_bind (wpAny_field go gd (x := .int i 0) rfl ?_)
  show wpAny _ _ (seqItems? (.ref t) >>= _) _ E _
  refine wpAny_bind (wpAny_seqItems gl gdl ?_)
  simp only [Int.toNat_natCast, tx]
  refine wpAny_bind (wpAny_rule (wpAny_bind (wpAny_setField go gd (by simp) ?_)))
  show wpAny _ _ (newExc (.type "StopIteration") [] >>= _) _ E _
  refine wpAny_bind ?_
  simp only [newExc, newTuple]
  refine wpAny_bind (wpAny_newObj_type ?_ (by size_fits))
  refine wpAny_bind (m := firstArgMember _ _) (wpAny_of_eq (a := Value.none) (by first | exact rfl | (simp only [firstArgMember]; rfl)) ?_)
  refine wpAny_newObj_type ?_ (by size_fits)
  simp only [raiseNew]
  refine wpAny_bind (wpAny_handled ?_)
  first | rw [show A.in1.handled = none by exact hh] | rw [hh]
  refine wpAny_bind (wpAny_pure (wpAny_throw ?_))
  exact k _ _ (((Heap.SameBut.update ..).extBut.push _).push _) ⟨_, by exact Heap.get?_push_size _ rfl, rfl⟩
end
theorem drawsT {prog : Program} {w : World} {A : Around} (hh : A.handled = none) (it t : Addr) (hne : t ≠ it) (items : Array Value) :
    Draws prog w A it [it, t] items.size (fun i v => items[i]? = some v) (fun i h => h.IsTupleIter it t i ∧ h.IsTuple t items) where
  live := fun _ _ st => let ⟨o, go, _⟩ := st.1; ⟨o, go⟩
  frame := fun _ _ _ st hk => ⟨let ⟨o, go, r⟩ := st.1; ⟨o, hk it (by simp) o go, r⟩, let ⟨o, go, r⟩ := st.2; ⟨o, hk t (by simp) o go, r⟩⟩
  item := fun i s Q E hi st hQ => nextOf_tup_item st.1 st.2 (x := items[i]) (by simp [hi]) fun h' ti hs => hQ _ h' s.toks (by simp [hi]) ⟨ti, st.2.extBut hs.extBut hne⟩ hs
  done := fun s Q E st hE => nextOf_tup_end hh st.1 st.2 (by simp) hE
theorem meets_enumT (l : Addr) (items : Array Value) (n : Nat) (dct : Option Addr) (sl : Array (Option Value)) : Meets (Builtin.«enumerate.__new__» ⟨[.type "enumerate", .ref l], []⟩)
    (fun _ R s => s.heap.get? l = some { cls := .type "tuple", dict := dct, data := .seq items n, slots := sl } ∧
      R (.ok (.ret (.ref (s.heap.push { cls := .type "tuple_iterator", data := .fields #[.ref l, .int 0 0] }).objs.size))) { s with heap := (s.heap.push { cls := .type "tuple_iterator", data := .fields #[.ref l, .int 0 0] }).push { cls := .type "enumerate", data := .fields #[.none, .bool false, .ref s.heap.objs.size, rawInt 0, .none, .none] } }) :=
  .of_wp fun prog w A R s h => by
    obtain ⟨hp, g, d, tk, os⟩ := s
    obtain ⟨gl, h⟩ := h
    have subE := sub_enumerate
    have tup : Heap.IsTuple (Shared.heap ⟨hp, g, d, tk, os⟩) l items := ⟨_, gl, rfl, n, rfl⟩
    wp_walk using AutoSeq1.wpAny_loadPart' gl
    refine wpAny_stack_any fun st => wpAny_pure ?_
    split
    · rename_i c _ _ _ _ _
      cases (c == Value.type "enumerate")
      · wp_walk using AutoSeq1.wpAny_loadPart' gl, wpAny_pyIter_tuple tup
        exact ⟨_, rfl, h⟩
      · wp_walk using AutoSeq1.wpAny_loadPart' gl, wpAny_pyIter_tuple tup
        exact ⟨_, rfl, h⟩
    · wp_walk using AutoSeq1.wpAny_loadPart' gl, wpAny_pyIter_tuple tup
      exact ⟨_, rfl, h⟩
section
variable {prog : Program} {w : World} {A : Around} {E : Value → Shared → Prop} {s : Shared}
theorem call_enumT {l : Addr} {items : Array Value} {Q : Value → Shared → Prop} (tt : s.heap.IsTuple l items)
    (k : ∀ h', IsEnum h' (s.heap.objs.size + 1) s.heap.objs.size 0 .none → h'.IsTupleIter s.heap.objs.size l 0 → (∀ b o, s.heap.get? b = some o → h'.get? b = some o) → Q (.ref (s.heap.objs.size + 1)) { s with heap := h' }) :
    wpAny (model prog w) A (call (.type "enumerate") [.ref l]) Q E s := by
  obtain ⟨⟨c, dct, dt, sl⟩, gl, gc, n, gd⟩ := tt
  replace gc : c = .type "tuple" := gc
  replace gd : dt = .seq items n := gd
  subst gc gd
  refine callType_new F.called_enumerate (by decide) (F.typeCall_enumerate_1 _) (F.newCall_enumerate_1 _) (fun obj => F.args_object_init_2 obj _) F.entry_enumerate_new (meets_enumT l items n dct sl) ⟨gl, ?_⟩
  have sz : (s.heap.push { cls := .type "tuple_iterator", data := .fields #[.ref l, .int 0 0] }).objs.size = s.heap.objs.size + 1 := Heap.size_push ..
  show _ ∧ _
  rw [sz]
  have ge : IsEnum ((s.heap.push { cls := .type "tuple_iterator", data := .fields #[.ref l, .int 0 0] }).push { cls := .type "enumerate", data := .fields #[.none, .bool false, .ref s.heap.objs.size, rawInt 0, .none, .none] }) (s.heap.objs.size + 1) s.heap.objs.size 0 .none := by
    have q := Heap.get?_push_size (s.heap.push { cls := .type "tuple_iterator", data := .fields #[.ref l, .int 0 0] }) (o := { cls := .type "enumerate", data := .fields #[.none, .bool false, .ref s.heap.objs.size, rawInt 0, .none, .none] }) rfl
    rw [sz] at q
    exact q
  exact ⟨⟨_, ge, rfl⟩, k _ ge ⟨_, Heap.get?_push_of_some _ (Heap.get?_push_size _ rfl), rfl, rfl⟩ fun b o x => Heap.get?_push_of_some _ (Heap.get?_push_of_some _ x)⟩
end
/-- a tuple's items in new pairs -/
def IteT (K : PySem.W.Frag) (a : Addr) (n : Nat) : It :=
  ⟨fun i H => ∃ (xs : List V) (x : V), SqT K H a xs ∧ xs.length = n ∧ xs[i]? = some x, fun i H v H' => ∃ T x, v = .ref T ∧ H T = none ∧ H' = upd H T (.tup [.int (i : Nat), x]) ∧ ∀ xs, SqT K H a xs → xs[i]? = some x, fun i H => ∃ xs : List V, SqT K H a xs ∧ xs.length = n ∧ n ≤ i⟩
theorem turn_enumT {P : Program} {w : World} {K : PySem.W.Frag} {elts : List Expr} {kk : Nat} {tpos : Pos} (a e it : Addr) (n : Nat) :
    Turn P w K (.Tuple elts kk tpos) (IteT K a n) [e, it] e (fun i h => (∃ old, IsEnum h e it ((i : Nat) : Int) old) ∧ h.IsTupleIter it a i ∧ e ≠ it ∧ i ≤ n) where
  mem := by simp
  obj := fun i h st b hb => by
    obtain ⟨⟨old, ge⟩, ⟨o, go, gc, gd⟩, _⟩ := st
    rcases (show b = e ∨ b = it by simpa using hb) with z | z
    · subst z
      exact ⟨_, ge, fun v q => nomatch q⟩
    · subst z
      exact ⟨o, go, fun v q => by
        rw [gd] at q
        cases q⟩
  keep := fun i h h' st k => by
    obtain ⟨⟨old, ge⟩, ⟨o, go, gr⟩, hne, hi⟩ := st
    exact ⟨⟨old, k e (by simp) _ ge⟩, ⟨o, k it (by simp) o go, gr⟩, hne, hi⟩
  item := by
    intro X hP hw hK hc i pins s σ H E I hf st hg
    subst hP hw hK
    obtain ⟨⟨old, ge⟩, ti, hne, _⟩ := st
    obtain ⟨xs, x, hq, hn, hx⟩ := hg
    obtain ⟨its, rv, tt, _⟩ := I.tuple hq
    have tt : s.heap.IsTuple a its.toArray := tt
    obtain ⟨u, hu, ru⟩ := rv.get hx
    have hel : e < s.heap.objs.size := Heap.lt_size ge
    have hil : it < s.heap.objs.size := by
      obtain ⟨_, q, _⟩ := ti
      exact Heap.lt_size q
    have ait : a ≠ it := fun z => by
      obtain ⟨o, go, gc, _⟩ := tt
      obtain ⟨o2, go2, gc2, _⟩ := ti
      subst z
      rw [go] at go2
      injection go2 with go2
      subst go2
      rw [gc] at gc2
      injection gc2 with q
      exact absurd q (by decide)
    have ae : e ≠ a := fun z => by
      obtain ⟨o, go, gc, _⟩ := tt
      subst z
      rw [show s.heap.get? e = _ from ge] at go
      injection go with go
      subst go
      injection gc with q
      exact absurd q (by decide)
    have hlen : xs.length = its.length := rv.length
    have hi : i < its.toArray.size := by
      have := (List.getElem?_eq_some_iff.mp hx).1
      simpa [← hlen] using this
    refine wpAny_pyNext_enum_itemD (drawsT (A := X.A.in1) (by exact I.ok.hd hc) it a ait its.toArray) ge ⟨ti, tt⟩ hi hne (by simp [hne, ae]) fun y h' tk hy ho hst' hT hsz hk => ?_
    have ey : y = u := by
      have h1 : its.toArray[i]? = some y := hy
      have h2 : its[i]? = some y := by simpa using h1
      rw [hu] at h2
      injection h2 with h2
      exact h2.symm
    subst ey
    refine ⟨_, rfl, wpAny_letOwnedTupleGo_enum (s := { s with heap := h', toks := tk + 1 }) ho fun h'' he' sb => ?_⟩
    have hT2 : h''.get? s.heap.objs.size = some { cls := .type "tuple", data := .seq #[.int i tk, y] } := (sb.2 _ (Nat.ne_of_gt hel)).trans hT
    have fresh : ObjOk X.prog X.w (upd H s.heap.objs.size (.tup [.int (i : Nat), x])) h'' s.heap.objs.size (.tup [.int (i : Nat), x]) := ⟨show 2 ≤ sizeLine by decide, [.int i tk, y], .cons ⟨_, rfl⟩ (.cons ru .nil), ⟨_, hT2, rfl, _, rfl⟩⟩
    have J : Inv X pins σ (upd H s.heap.objs.size (.tup [.int (i : Nat), x])) { s with heap := h'', toks := tk + 1 } :=
      I.turnedNew (ch := [e, it]) (fun b ob hb q => (sb.2 b fun z => hb (by simp [z])).trans (hk b ob (fun z => hb (by simp [z])) (fun z => hb (by simp [z])) q)) hf (Nat.le_refl _) fresh
    refine ⟨.ref s.heap.objs.size, _, J, rfl, ⟨_, x, rfl, I.hok.fresh (Nat.le_refl _), rfl, fun ys hy => by rw [I.tuple_inj hy hq]; exact hx⟩, ⟨⟨y, ?_⟩, ?_, hne, ?_⟩, fun b hb => ?_⟩
    · rw [show ((i + 1 : Nat) : Int) = (i : Int) + 1 by omega]
      exact he'
    · obtain ⟨o, go, gr⟩ := hst'.1
      exact ⟨o, (sb.2 it (Ne.symm hne)).trans go, gr⟩
    · have := (List.getElem?_eq_some_iff.mp hx).1
      omega
    · have hb' : b < s.heap.objs.size := by
        rcases (show b = e ∨ b = it by simpa using hb) with z | z <;> (rw [z]; assumption)
      rw [upd_ne (Nat.ne_of_lt hb')]
      exact (hf b hb).1
  done := by
    intro X hP hw hK hc i pins s σ H E I hf st hg
    subst hP hw hK
    obtain ⟨⟨old, ge⟩, ti, hne, hin⟩ := st
    obtain ⟨xs, hq, hn, hx⟩ := hg
    obtain ⟨its, rv, tt, _⟩ := I.tuple hq
    have tt : s.heap.IsTuple a its.toArray := tt
    have ait : a ≠ it := fun z => by
      obtain ⟨o, go, gc, _⟩ := tt
      obtain ⟨o2, go2, gc2, _⟩ := ti
      subst z
      rw [go] at go2
      injection go2 with go2
      subst go2
      rw [gc] at gc2
      injection gc2 with q
      exact absurd q (by decide)
    have hlen : xs.length = its.length := rv.length
    have ei : i = its.toArray.size := by
      rw [List.size_toArray]
      omega
    subst ei
    obtain ⟨f0, f1, f2, f3, f4, f5⟩ := hf it (by simp)
    exact wpAny_pyNext_enum_endD (drawsT (A := X.A.in1) (by exact I.ok.hd hc) it a ait its.toArray) ge ⟨ti, tt⟩ fun h' eb => ⟨rfl, I.turned (t' := s.toks) (fun b o hb q => eb b o hb q) f0 f1 f3 f4 f5⟩
  self := fun A i s Q E st h => by
    obtain ⟨⟨_, ge⟩, _⟩ := st
    exact wpAny_pyIter_enum ge h
end DL

/-! DL18: walks over enumerate of tuples -/
namespace DL
open PySem PySem.Spec PyProof.Rows L2
def iEnumT (K : PySem.W.Frag) (ta : TA) : TI := fun σ H R => ta σ H fun vs H1 => ∃ a xs, vs = [.ref a] ∧ SqT K H1 a xs ∧ R (IteT K a xs.length) H1
theorem pi_enumT {X : Cx} {e : Expr} {ta : TA} {p pos tpos : Pos} {elts : List Expr} {kk : Nat} (gl : Gl X "enumerate") (nm : X.mg "enumerate" = none) (ha : PA X [e] ta) (hs : starEach [e] X.env = [(false, eval e X.env)] := by rfl) :
    PI X (.Tuple elts kk tpos) (.Call (.Name "enumerate" p) [e] [] pos) (iEnumT X.K ta) := by
  refine ⟨fun pins s σ H R I h => Call_ (ld_blt I gl nm boot_enumerate (PyProof.Rows.callWith_type1 (thn (ha.run pos pins s σ H _ I h) fun us s1 ⟨vs, H1, I1, r1, q1⟩ => ?_) hs rfl))⟩
  obtain ⟨a, xs, rfl, hq, q⟩ := q1
  cases r1 with
  | cons r rr =>
    cases rr
    cases r
    obtain ⟨its, rv, tt, _⟩ := I1.tuple hq
    refine call_enumT (show s1.heap.IsTuple a its.toArray from tt) fun h' ge ti hk => wpAny_pyIter_enum ge ?_
    have I2 : Inv X pins σ H1 { s1 with heap := h' } := I1.kept (t' := s1.toks) hk
    refine ⟨s1.heap.objs.size + 1, [s1.heap.objs.size + 1, s1.heap.objs.size], _, _, H1, rfl, I2, turn_enumT a (s1.heap.objs.size + 1) s1.heap.objs.size xs.length, ⟨⟨.none, ge⟩, ti, Nat.succ_ne_self _, Nat.zero_le _⟩, fun b hb => ?_, q⟩
    have le : s1.heap.objs.size ≤ b := by
      rcases (show b = s1.heap.objs.size + 1 ∨ b = s1.heap.objs.size by simpa using hb) with z | z
      · exact z ▸ Nat.le_succ _
      · exact z ▸ Nat.le_refl _
    exact I1.fpOk le (I1.hok.fresh le)
section
variable {X : Cx} {B : Base} {ρ : List Slot} {pos : Pos} {e tg it : Expr}
theorem ji_enumT {α β : Type} {m : R β} {xs : β → List α} {f : α → D} {ρ' : β → List Slot} {p tpos : Pos} {elts : List Expr} {kk : Nat} (hg : Gl X "enumerate") (hm : X.mg "enumerate" = none) (h : JE X B ρ e m (fun b => .val (eT f (xs b))) ρ') (hst : starEach [e] X.env = (false, eval e X.env) :: starEach [] X.env := by rfl) (hs : starEach [e] X.env = [(false, eval e X.env)] := by rfl) :
    JI X B ρ (.Tuple elts kk tpos) (.Call (.Name "enumerate" p) [e] [] pos) m (fun b => (enumL (xs b)).map (eP2 D.int f)) ρ' :=
  PI_imp (pi_enumT hg hm (pa_cons h pa_nil hst) hs) fun σ H Q ⟨G, E, q⟩ => ⟨G, E, R.post_mono q fun b q1 v G' H' x E' => by
    obtain ⟨a, vs, rfl, hS, hr⟩ := E'.top.tup_inv
    have hl : vs.length = (xs b).length := by rw [hr.len, List.length_map]
    have hl2 : ((enumL (xs b)).map (eP2 D.int f)).length = vs.length := by rw [List.length_map, enumL_len, hl]
    refine ⟨a, vs, rfl, E'.sub.t hS, q1 _ G' H' x E'.pop ⟨fun i H hi e => ⟨vs, vs[i]'(by rw [← hl2]; exact hi), e.t hS, rfl, List.getElem?_eq_getElem _⟩, fun i H hi e => ⟨vs, e.t hS, rfl, by rw [← hl2]; exact hi⟩, fun B i G1 H1 σ ρ w H' e E hy d hd => ?_⟩⟩
    obtain ⟨T, y, rfl, hT, rfl, hy⟩ := hy
    have hyi := hy vs ((e.trans E.sub).t hS)
    obtain ⟨d2, h1, h2⟩ := hr.getV hyi
    rw [List.getElem?_map, enumL_get] at hd
    rw [List.getElem?_map] at h1
    cases hx : (xs b)[i]? with
    | none =>
      rw [hx] at h1
      cases h1
    | some z =>
      rw [hx] at h1 hd
      injection h1 with h1
      injection hd with hd
      subst h1
      subst hd
      have e1 := Ex.new (o := HO.tup [.int (i : Nat), y]) (E.sub.back hT)
      exact ⟨_, e1, E.new hT _, .tup (.inl (.inl upd_same)) (.cons (.int _) (.cons (h2.ex (e.trans e1)) .nil))⟩⟩
end
end DL

/-! DL19: list * n, a if c else b, is None -/
namespace DL
open PySem PySem.Spec L2
def repL {α : Type} (xs : List α) (k : Int) : List α := (List.replicate k.toNat xs).flatten
theorem rp_rep {K : PySem.W.Frag} {G : Hp} {vs : List V} {ds : List D} (h : RpAll K G vs ds) : ∀ n : Nat, RpAll K G (List.replicate n vs).flatten (List.replicate n ds).flatten
  | 0 => .nil
  | n + 1 => by
    rw [List.replicate_succ, List.replicate_succ, List.flatten_cons, List.flatten_cons]
    exact h.append (rp_rep h n)
theorem map_rep {α β : Type} (f : α → β) (xs : List α) (k : Int) : (repL xs k).map f = repL (xs.map f) k := by
  unfold repL
  rw [List.map_flatten, List.map_replicate]
section
variable {X : Cx} {B : Base} {ρ : List Slot} {pos : Pos} {a b c : Expr}
theorem je_rep {α β γ : Type} {f : γ → D} {ma : R α} {xs : α → List γ} {ρa : α → List Slot} {mb : α → R β} {k : α → β → Int} {ρ' : α → β → List Slot} (ha : JE X B ρ a ma (fun x => .own 0 (oL f (xs x))) ρa) (hb : ∀ B' : Base, B'.rs = B.rs → ∀ x, JE X B' (ρa x) b (mb x) (fun y => .val (.int (k x y))) (ρ' x)) (hna : ∀ x y, noAlis (ρ' x y) = true := by intro _ _; rfl) :
    JE X B ρ (.BinOp a .Mult b pos) (ma.bind fun x => (mb x).bind fun y => (R.guard (-(2 ^ 63) ≤ k x y ∧ k x y < 2 ^ 63 ∧ (xs x).length * (k x y).toNat ≤ sizeLine)).bind fun _ => .ok (x, y)) (fun p => .own 0 (oL f (repL (xs p.1) (k p.1 p.2)))) (fun p => ρ' p.1 p.2) := by
  have hb' : PE X b (fun σ H Q => ∃ B' x, B'.rs = B.rs ∧ tJ X.K B' (ρa x) (mb x) (fun y => .val (.int (k x y))) (ρ' x) σ H Q) := ⟨fun pins s σ H Q I ⟨B', x, hB, q⟩ => (hb B' hB x).run pins s σ H Q I q⟩
  refine PE_imp (pe_op op_rep ha hb') fun σ H Q ⟨G, E, q⟩ => ⟨G, E, R.post_mono (R.post_bind.mp q) fun x q1 vx G1 H1 x1 E1 => ?_⟩
  obtain ⟨B', hB, E2, back⟩ := E1.aside
  refine ⟨B', x, hB, G1, E2, ?_⟩
  rw [hB]
  refine R.post_mono (R.post_bind.mp q1) fun y q2 vy G2 H2 x2 E3 => ?_
  have hv := E3.top.int_inv
  subst hv
  obtain ⟨⟨c1, c2, c3⟩, q3⟩ := R.post_guard (R.post_bind.mp q2)
  have E4 := back G2 H2 σ _ _ x2 E3 (hna x y)
  obtain ⟨A, cs, n, g⟩ := E4.own
  cases cs with
  | cons c0 cr =>
    cases c0 with
    | own hO hl hp =>
      cases hO with
      | @lst l vs _ A3 hH hall =>
        obtain ⟨e3, r⟩ := own_dats_inv hall
        have hlen : vs.length = (xs x).length := by rw [r.len, List.length_map]
        refine ⟨l, k x y, vs, rfl, rfl, hH, c1, c2, by rw [hlen]; exact c3, fun p hp => q3 _ G2 _ (x1.trans x2) ?_⟩
        have hr := rp_rep r (k x y).toNat
        have E5 := E4.pop.pop.newL hp hr
        have e : (List.replicate (k x y).toNat ((xs x).map f)).flatten = (repL (xs x) (k x y)).map f := by rw [map_rep]; rfl
        rw [e] at E5
        exact E5
/-- a if c else b, both of them data of one kind -/
theorem je_if {α β γ δ : Type} {mc : R α} {bn : α → Bool} {ρc : α → List Slot} {ma mb : α → R β} {s : β → Slot} {ρ' : β → List Slot} (hc : JT X B ρ c mc bn ρc) (ha : ∀ x, JE X B (ρc x) a (ma x) s ρ') (hb : ∀ x, JE X B (ρc x) b (mb x) s ρ') :
    JE X B ρ (.IfExp c a b pos) (mc.bind fun x => if bn x = true then ma x else mb x) s ρ' := by
  have ha' : PE X a (fun σ H Q => ∃ x, tJ X.K B (ρc x) (ma x) s ρ' σ H Q) := ⟨fun pins s σ H Q I ⟨x, q⟩ => (ha x).run pins s σ H Q I q⟩
  have hb' : PE X b (fun σ H Q => ∃ x, tJ X.K B (ρc x) (mb x) s ρ' σ H Q) := ⟨fun pins s σ H Q I ⟨x, q⟩ => (hb x).run pins s σ H Q I q⟩
  refine PE_imp (pe_ifExp hc ha' hb') fun σ H Q ⟨G, E, q⟩ => ⟨G, E, R.post_mono (R.post_bind.mp q) fun x q1 G1 H1 x1 E1 => ?_⟩
  cases hx : bn x with
  | true =>
    rw [hx, if_pos rfl] at q1
    rw [if_pos rfl]
    exact ⟨x, G1, E1, R.post_mono q1 fun y k v G2 H2 x2 E2 => k v G2 H2 (x1.trans x2) E2⟩
  | false =>
    rw [hx, if_neg (by decide)] at q1
    rw [if_neg (by decide)]
    exact ⟨x, G1, E1, R.post_mono q1 fun y k v G2 H2 x2 E2 => k v G2 H2 (x1.trans x2) E2⟩
end
def isNon : D → Bool
  | .none => true
  | _ => false
section
variable {K : PySem.W.Frag} {B : Base}
theorem Rp.isNon {G : Hp} {v : V} {d : D} (h : Rp K G v d) : decide (v = .non) = DL.isNon d := by
  cases h <;> first | rfl | simp [DL.isNon]
theorem od_isN {d : D} : OpD K B (fun x y H Q => y = .non ∧ Q (.bl (decide (x = .non))) H) d .none (.ok ()) (fun _ => .val (.bool (isNon d))) := fun G H σ ρ vx vy Q E hx hy q => ⟨hy.non_inv, by
  rw [hx.isNon]
  exact q _ G H (Ex.refl G) (E.push (.bl _))⟩
theorem od_notN {d : D} : OpD K B (fun x y H Q => y = .non ∧ Q (.bl (!decide (x = .non))) H) d .none (.ok ()) (fun _ => .val (.bool (!isNon d))) := fun G H σ ρ vx vy Q E hx hy q => ⟨hy.non_inv, by
  rw [hx.isNon]
  exact q _ G H (Ex.refl G) (E.push (.bl _))⟩
end
end DL

/-! DL20: plain rows (tuples that are known to have no dict) -/
namespace DL
open PySem PySem.Spec PyProof.Rows L2
@[reducible] def eR {α : Type} (f : α → D) (l : List α) : D := .row (l.map f)
/-- whatever is d is d' too -/
def Wk (d d' : D) : Prop := ∀ (K : PySem.W.Frag) (G : Hp) (v : V), Rp K G v d → Rp K G v d'
theorem wk_refl (d : D) : Wk d d := fun _ _ _ h => h
theorem wk_R {α : Type} (f : α → D) (xs : List α) : Wk (eR f xs) (eT f xs) := fun K G v h => by
  cases h with
  | row h d r => exact .tup (.inl (.inr ⟨_, h⟩)) r
theorem wkAll {α : Type} {f g : α → D} (h : ∀ x, Wk (f x) (g x)) : ∀ (xs : List α) {K : PySem.W.Frag} {G : Hp} {vs : List V}, RpAll K G vs (xs.map f) → RpAll K G vs (xs.map g)
  | [], _, _, _, .nil => .nil
  | x :: xs, _, _, _, .cons a r => .cons (h x _ _ _ a) (wkAll h xs r)
theorem wk_T {α : Type} {f g : α → D} (h : ∀ x, Wk (f x) (g x)) (xs : List α) : Wk (eT f xs) (eT g xs) := fun K G v a => by
  cases a with
  | tup s r => exact .tup s (wkAll h xs r)
theorem wk_L {α : Type} {f g : α → D} (h : ∀ x, Wk (f x) (g x)) (xs : List α) : Wk (eL f xs) (eL g xs) := fun K G v a => by
  cases a with
  | lst s r => exact .lst s (wkAll h xs r)
theorem wk_P2 {α β : Type} {f f' : α → D} {g g' : β → D} (h : ∀ x, Wk (f x) (f' x)) (k : ∀ x, Wk (g x) (g' x)) (p : α × β) : Wk (eP2 f g p) (eP2 f' g' p) := fun K G v a => by
  cases a with
  | tup s r =>
    cases r with
    | cons a r =>
      cases r with
      | cons b r => exact .tup s (.cons (h _ _ _ _ a) (.cons (k _ _ _ _ b) r))
theorem Cells.wk {K : PySem.W.Frag} {B : Base} {G H : Hp} {v : V} {d d' : D} {σ : L2.St} {ρ : List Slot} {A : List Addr} (w : Wk d d') (h : Cells K B G H (some v :: σ) (.val d :: ρ) A) : Cells K B G H (some v :: σ) (.val d' :: ρ) A := by
  cases h with
  | cons c r =>
    cases c with
    | val h => exact .cons (.val (w _ _ _ h)) r
theorem En.wk {K : PySem.W.Frag} {B : Base} {G H : Hp} {v : V} {d d' : D} {σ : L2.St} {ρ : List Slot} {ex : List (V × Slot)} (w : Wk d d') (E : En K B G H σ ρ ((v, .val d) :: ex)) : En K B G H σ ρ ((v, .val d') :: ex) := by
  obtain ⟨A, c, n, g⟩ := E.own
  exact ⟨E.anc, ⟨A, Cells.wk w c, n, g⟩, E.len, E.ali⟩
section
variable {X : Cx} {B : Base} {ρ : List Slot} {pos : Pos} {e obj : Expr} {es : List Expr}
theorem je_wk {β : Type} {m : R β} {d d' : β → D} {ρ' : β → List Slot} (w : ∀ b, Wk (d b) (d' b)) (h : JE X B ρ e m (fun b => .val (d b)) ρ') : JE X B ρ e m (fun b => .val (d' b)) ρ' :=
  PE_imp h fun σ H Q ⟨G, E, q⟩ => ⟨G, E, R.post_mono q fun b k v G1 H1 x1 E1 => k v G1 H1 x1 (E1.wk (w b))⟩
/-- tuple(a list): a plain row -/
def rTupF (K : PySem.W.Frag) : List V → Hp → VK → Prop := fun xs H Q => ∃ p ys, xs = [.ref p] ∧ SqL K H p ys ∧ ∀ l ob, H l = none → ob.dict = none → Q (.ref l) (upd H l (.frz ob (.tup ys)))
theorem cr_tupF : CallR X (.type "tuple") (rTupF X.K) := by
  intro pins s σ H xs us Q I r h
  obtain ⟨p, ys, rfl, hq, q⟩ := h
  obtain ⟨u, rfl, rx⟩ := vals1 r
  cases rx
  obtain ⟨its, rv, pl, hz⟩ := I.list hq
  have hlen := rv.length
  refine call_tuple_list pl.isList (fun h' kp => ?_) (by simp only [List.size_toArray] <;> omega)
  have J : Inv X pins σ H { s with heap := h' } := I.kept (t' := s.toks) kp
  have at' : (h'.push { cls := .type "tuple", data := .seq its.toArray }).get? h'.objs.size = some { cls := .type "tuple", data := .seq its.toArray } := Heap.get?_push_size _ rfl
  have J2 : Inv X pins σ (upd H h'.objs.size (.frz { cls := .type "tuple", data := .seq its.toArray } (.tup ys))) { s with heap := h'.push { cls := .type "tuple", data := .seq its.toArray } } :=
    J.laid (t' := s.toks) (fun b o e => Heap.get?_push_of_some _ e) (Nat.le_refl _) (show ObjOk X.prog X.w _ _ _ (.frz _ (.tup ys)) from ⟨at', hz, its, rv, IsTup.new _ _⟩)
  exact ⟨.ref h'.objs.size, _, J2, rfl, q _ _ (J.hok.fresh (Nat.le_refl _)) rfl⟩
theorem cb_tupF {K : PySem.W.Frag} {α : Type} {f : α → D} {xs : List α} : CbD K B ρ (rTupF K) [.val (eL f xs)] (.ok ()) (fun _ => .val (eR f xs)) := fun G H σ vs Q E ok q => by
  obtain ⟨v, rfl, r⟩ := ok.one
  obtain ⟨a, ys, rfl, hS, hr⟩ := r.lst_inv
  refine ⟨a, ys, rfl, .inl (E.sub.rd hS), fun p ob hp ho => ?_⟩
  have e := Ex.new (o := HO.frz ob (.tup ys)) (E.sub.back hp)
  exact q _ _ _ e ((E.new hp _).push (.row upd_same ho (RpAll.ex e hr)))
/-- a method of a plain row -/
def tBMR (r : V → List V → Hp → VK → Prop) (to : TE) (t : TA) : TE := fun σ H Q => to σ H fun x H1 => (∃ a ob xs, x = .ref a ∧ H1 a = some (.frz ob (.tup xs)) ∧ ob.dict = none) ∧ t σ H1 fun xs H2 => r x xs H2 Q
theorem pe_bmR {o : Expr} {to : TE} {t : TA} {name : Str} {ap : Pos} {id : String} {r : V → List V → Hp → VK → Prop} (pa : PlainAttrs "tuple") (slot : PySem.Slot "tuple" name id) (hty : typeOf (.builtin id) = pure (.type "method_descriptor")) (hm : MtR X id r) (ho : PE X o to) (ha : PA X (e :: es) t)
    (base : attributeBase o name X.env (eval o X.env) = eval o X.env := by rfl)
    (few : ((backTo pos (starEach (e :: es) X.env)).all (fun x => !x.1) && (backToKw pos (keywordEach [] X.env)).all (fun x => x.1.isSome) && decide ((e :: es).length + ([] : List Keyword).length + (if ([] : List Keyword).isEmpty then 0 else 1) < 30)) = true := by rfl)
    (line : (ap.endLine == pos.line) = true := by rfl) (hs : starEach (e :: es) X.env = (false, eval e X.env) :: starEach es X.env := by rfl) (pl : (backTo pos (starEach es X.env)).any (·.1) = false := by rfl) :
    PE X (.Call (.Attribute o name ap) (e :: es) [] pos) (tBMR r to t) := by
  refine ⟨fun pins s σ H Q I h => wpAny_Call_method_late base few line rfl (thn (ho.run pins s σ H _ I h) fun v s1 ⟨x, H1, I1, r1, ⟨a, ob, xs, ex, hH, hd⟩, q1⟩ => ?_)⟩
  subst ex
  cases r1
  obtain ⟨g1, g2⟩ := I1.hok a _ hH
  obtain ⟨_, its, _, o2, g3, g4, _⟩ := g2
  rw [g1] at g3
  injection g3 with g3
  subst g3
  refine ⟨"tuple", id, pa, slot, hty, ⟨_, g1, g4⟩, fun b eb => by injection eb with eb; subst eb; exact ⟨_, g1, hd⟩, ?_⟩
  have hA := ha.run pos pins s1 σ H1 _ I1 q1
  rw [hs] at hA ⊢
  refine Calls.callWith_builtin (show (false || (backTo pos (starEach es X.env)).any (·.1)) = false by rw [pl] <;> rfl) (Calls.evalArgs_plain ?_)
  exact thn hA fun us s2 ⟨vs, H2, I2, r2, q2⟩ => hm pins s2 σ H2 (.ref a) vs (.ref a) us Q I2 rfl r2 q2
/-- row.index(k) -/
theorem je_rix {ap : Pos} {ns : List Int} {β : Type} {m : R β} {k : β → Int} {ρ' : β → List Slot} (ho : JP X B ρ obj (eR D.int ns)) (he : JE X B ρ e m (fun b => .val (.int (k b))) ρ') (hst : starEach [e] X.env = (false, eval e X.env) :: starEach [] X.env := by rfl)
    (base : attributeBase obj "index" X.env (eval obj X.env) = eval obj X.env := by rfl)
    (few : ((backTo pos (starEach [e] X.env)).all (fun x => !x.1) && (backToKw pos (keywordEach [] X.env)).all (fun x => x.1.isSome) && decide ([e].length + ([] : List Keyword).length + (if ([] : List Keyword).isEmpty then 0 else 1) < 30)) = true := by rfl)
    (line : (ap.endLine == pos.line) = true := by rfl) (pl : (backTo pos (starEach [] X.env)).any (·.1) = false := by rfl) :
    JE X B ρ (.Call (.Attribute obj "index" ap) [e] [] pos) (m.bind fun b => (R.some (ixOf (k b) ns)).bind fun j => .ok (b, j)) (fun p => .val (.int ((p.2 : Nat) : Int))) (fun p => ρ' p.1) := by
  refine PE_imp (pe_bmR PySem.F.plainAttrs_tuple PySem.F.slot_tuple_index PySem.F.type_tuple_index mt_tix ho (pa_cons he pa_nil hst) base few line hst pl) fun σ H Q ⟨G, E, q⟩ => ⟨G, E, fun v G1 H1 x1 E1 => ?_⟩
  have ht := E1.top
  obtain ⟨a, rfl⟩ : ∃ a, v = .ref a := by
    cases ht with
    | row => exact ⟨_, rfl⟩
  cases ht with
  | @row _ ob xs _ hH hd hr =>
    refine ⟨⟨a, ob, xs, rfl, E1.sub _ _ hH, hd⟩, G1, E1.pop, R.post_mono (R.post_bind.mp q) fun b q1 w G2 H2 x2 E2 => ?_⟩
    have hw := E2.top.int_inv
    subst hw
    obtain ⟨j, hj, q2⟩ := R.post_some (R.post_bind.mp q1)
    obtain ⟨g1, g2⟩ := ixOf_some hj
    have hx := hr.ints
    subst hx
    exact ⟨a, ns, k b, j, rfl, rfl, .inl (.inr ⟨ob, E2.sub _ _ (x2 _ _ hH)⟩), g1, g2, q2 _ G2 _ (x1.trans x2) (E2.pop.push (.int _))⟩
end
end DL

/-! DL21: list.index, more of rows -/
namespace DL
open PySem PySem.Spec PyProof.Rows L2
theorem toPys_get {α : Type} {f : α → D} : ∀ {xs : List α} {j : Nat}, (toPy.toPys (xs.map f))[j]? = (xs[j]?).map fun x => toPy (f x)
  | [], j => by simp [toPy.toPys]
  | x :: xs, 0 => by simp [toPy.toPys]
  | x :: xs, j + 1 => by
    rw [List.map_cons, toPy.toPys]
    simpa using toPys_get (xs := xs) (j := j)
section
variable {X : Cx} {B : Base} {ρ : List Slot} {pos : Pos} {e obj : Expr}
/-- xs.index(y) -/
theorem je_lix {ap : Pos} {α : Type} [DecidableEq α] {n : Nat} {f : α → D} {xs : List α} {β : Type} {m : R β} {y : β → α} {ρ' : β → List Slot} (hu : X.A.units + 65 < cLine) (hq : EqE n f) (ho : JP X B ρ obj (eL f xs)) (he : JE X B ρ e m (fun b => .val (f (y b))) ρ') (hn : n + 1 ≤ 64 := by decide) (hst : starEach [e] X.env = (false, eval e X.env) :: starEach [] X.env := by rfl)
    (base : attributeBase obj "index" X.env (eval obj X.env) = eval obj X.env := by rfl)
    (few : ((backTo pos (starEach [e] X.env)).all (fun x => !x.1) && (backToKw pos (keywordEach [] X.env)).all (fun x => x.1.isSome) && decide ([e].length + ([] : List Keyword).length + (if ([] : List Keyword).isEmpty then 0 else 1) < 30)) = true := by rfl)
    (line : (ap.endLine == pos.line) = true := by rfl) (pl : (backTo pos (starEach [] X.env)).any (·.1) = false := by rfl) :
    JE X B ρ (.Call (.Attribute obj "index" ap) [e] [] pos) (m.bind fun b => (R.some (ixOf (y b) xs)).bind fun j => .ok (b, j)) (fun p => .val (.int ((p.2 : Nat) : Int))) (fun p => ρ' p.1) := by
  refine PE_imp (pe_bm PySem.F.plainAttrs_list PySem.F.slot_list_index PySem.F.type_list_index (mt_indexD hu) ho (pa_cons he pa_nil hst) base few line hst pl) fun σ H Q ⟨G, E, q⟩ => ⟨G, E, fun v G1 H1 x1 E1 => ?_⟩
  have ht := E1.top
  obtain ⟨a, vs, rfl, hS, hr⟩ := ht.lst_inv
  refine ⟨.inl ⟨rfl, vs, .inl (E1.sub.rd hS)⟩, G1, E1.pop, R.post_mono (R.post_bind.mp q) fun b q1 w G2 H2 x2 E2 => ?_⟩
  obtain ⟨j, hj, q2⟩ := R.post_some (R.post_bind.mp q1)
  obtain ⟨g1, g2⟩ := ixOf_some hj
  have hL := ee_L hq
  have d1 := (ht.ex x2).dp E2.sub (hL.lay xs)
  have d2 := E2.top.dp E2.sub (hq.lay (y b))
  have e1 : toPy (eL f xs) = .list (toPy.toPys (xs.map f)) := by rw [toPy]
  have s1 := hL.shaped hn xs
  rw [e1] at d1 s1
  refine ⟨a, w, toPy (f (y b)), toPy.toPys (xs.map f), j, toPy (f (y b)), rfl, rfl, d1, d2, s1, hq.shaped (by omega) _, by rw [toPys_get, g1]; rfl, by rw [hq.eqv]; simp, fun i z' hi hz' => ?_, q2 _ G2 _ (x1.trans x2) (E2.pop.push (.int _))⟩
  rw [toPys_get] at hz'
  cases hx : xs[i]? with
  | none =>
    rw [hx] at hz'
    cases hz'
  | some x0 =>
    rw [hx] at hz'
    injection hz' with hz'
    subst hz'
    rw [hq.eqv]
    exact decide_eq_false fun z => g2 i hi (by rw [hx, z])
end
theorem wk_trans {a b c : D} (h : Wk a b) (k : Wk b c) : Wk a c := fun K G v r => k K G v (h K G v r)
end DL

/-! DL22: flatness of rows and of owned lists of lists -/
namespace DL
open PySem PySem.Spec L2
theorem fl_R {α : Type} {f : α → D} (h : ∀ x, Flat (f x)) (xs : List α) : Flat (eR f xs) := by
  rw [eR, Flat]
  exact FlatL.of h xs
theorem flatOL_LL {α : Type} {f : α → D} (h : ∀ x, Flat (f x)) : ∀ rows : List (List α), FlatOL (rows.map (oL f))
  | [] => by
    rw [List.map_nil, FlatOL]
    trivial
  | r :: rows => by
    rw [List.map_cons, FlatOL]
    exact ⟨fl_oL h r, flatOL_LL h rows⟩
theorem fl_oLL {α : Type} {f : α → D} (h : ∀ x, Flat (f x)) (rows : List (List α)) : FlatO (oLL f rows) := fl_lst (flatOL_LL h rows)
end DL

/-! DL23: repr of data -/
namespace DL
open PySem PySem.Spec L2 PyProof.Rows
mutual
def pdOf : D → PyData
  | .none => .none
  | .bool b => .bool b
  | .int i => .int i
  | .str x => .str x
  | .list ds => .list (pdOfs ds)
  | .tuple ds => .tuple (pdOfs ds)
  | .row ds => .tuple (pdOfs ds)
  | .scr ns => .list (ns.map PyData.int)
  | .key ns => .tuple (ns.map PyData.int)
  | .dict _ => .none
def pdOfs : List D → List PyData
  | [] => []
  | d :: ds => pdOf d :: pdOfs ds
end
mutual
def plainD : D → Bool
  | .dict _ => false
  | .list ds => plainDs ds
  | .tuple ds => plainDs ds
  | .row ds => plainDs ds
  | .none => true
  | .bool _ => true
  | .int _ => true
  | .str _ => true
  | .scr _ => true
  | .key _ => true
def plainDs : List D → Bool
  | [] => true
  | d :: ds => plainD d && plainDs ds
end
def isRefD : D → Bool
  | .list _ => true
  | .tuple _ => true
  | .row _ => true
  | .key _ => true
  | _ => false
mutual
theorem plain_noDict : ∀ d : D, plainD d = true → (pdOf d).hasDict = false
  | .none, _ => by rw [pdOf, PyData.hasDict]
  | .bool _, _ => by rw [pdOf, PyData.hasDict]
  | .int _, _ => by rw [pdOf, PyData.hasDict]
  | .str _, _ => by rw [pdOf, PyData.hasDict]
  | .list ds, h => by
    rw [pdOf, PyData.hasDict]
    exact plains_noDict ds (by rw [plainD] at h; exact h)
  | .tuple ds, h => by
    rw [pdOf, PyData.hasDict]
    exact plains_noDict ds (by rw [plainD] at h; exact h)
  | .row ds, h => by
    rw [pdOf, PyData.hasDict]
    exact plains_noDict ds (by rw [plainD] at h; exact h)
  | .scr ns, _ => by
    rw [pdOf, PyData.hasDict]
    induction ns with
    | nil => rw [List.map_nil, PyData.hasDictAll]
    | cons n ns ih => rw [List.map_cons, PyData.hasDictAll, PyData.hasDict, ih (by rw [plainD])]; rfl
  | .key ns, _ => by
    rw [pdOf, PyData.hasDict]
    induction ns with
    | nil => rw [List.map_nil, PyData.hasDictAll]
    | cons n ns ih => rw [List.map_cons, PyData.hasDictAll, PyData.hasDict, ih (by rw [plainD])]; rfl
  | .dict _, h => by
    rw [plainD] at h
    cases h
theorem plains_noDict : ∀ ds : List D, plainDs ds = true → PyData.hasDictAll (pdOfs ds) = false
  | [], _ => by rw [pdOfs, PyData.hasDictAll]
  | d :: ds, h => by
    rw [plainDs, Bool.and_eq_true] at h
    rw [pdOfs, PyData.hasDictAll, plain_noDict d h.1, plains_noDict ds h.2]
    rfl
end
section
variable {X : Cx} {pins : List (Addr × Obj)} {σ : L2.St} {G H : Hp} {s : Shared}
theorem reads_ints (h : Heap) : ∀ (ns : List Int) (us : List Value), Vals (ns.map V.int) us → ∃ as, ReadsAll h us (ns.map PyData.int) as
  | [], _, .nil => ⟨[], .nil⟩
  | n :: ns, _, .cons r t => by
    obtain ⟨tk, rfl⟩ := r
    obtain ⟨as, q⟩ := reads_ints h ns _ t
    exact ⟨_, .cons (.int n tk) q⟩
mutual
theorem Rp.reads (I : Inv X pins σ H s) (e : Ex G H) : ∀ {v : V} {d : D}, Rp X.K G v d → ∀ {u : Value}, RelV v u → plainD d = true → ∃ as, Reads s.heap u (pdOf d) as
  | _, _, .non, u, r, _ => by
    cases r
    rw [pdOf]
    exact ⟨_, .none⟩
  | _, _, .bl b, u, r, _ => by
    cases r
    rw [pdOf]
    exact ⟨_, .bool b⟩
  | _, _, .int i, u, r, _ => by
    obtain ⟨t, rfl⟩ := r
    rw [pdOf]
    exact ⟨_, .int i t⟩
  | _, _, .str x, u, r, _ => by
    obtain ⟨t, rfl⟩ := r
    rw [pdOf]
    exact ⟨_, .str x t⟩
  | _, _, .lst h q, u, r, p => by
    cases r
    rw [pdOf]
    rw [plainD] at p
    obtain ⟨its, vs, pl, _⟩ := I.list (.inl (e.rd h))
    obtain ⟨o, n, g1, g2, g3, g4⟩ := pl
    obtain ⟨as, ra⟩ := RpAll.reads I e q vs p
    exact ⟨_, .list g1 g2 g4 (by simpa using ra)⟩
  | _, _, .tup h q, u, r, p => by
    cases r
    rw [pdOf]
    rw [plainD] at p
    obtain ⟨its, vs, ⟨o, g1, g2, n, g4⟩, _⟩ := I.tuple (e.t h)
    obtain ⟨as, ra⟩ := RpAll.reads I e q vs p
    exact ⟨_, .tuple g1 g2 g4 (by simpa using ra)⟩
  | _, _, .row h d q, u, r, p => by
    cases r
    rw [pdOf]
    rw [plainD] at p
    obtain ⟨its, vs, ⟨o, g1, g2, n, g4⟩, _⟩ := I.tuple (.inl (.inr ⟨_, e _ _ h⟩))
    obtain ⟨as, ra⟩ := RpAll.reads I e q vs p
    exact ⟨_, .tuple g1 g2 g4 (by simpa using ra)⟩
  | _, _, .scr h, u, r, _ => by
    cases r
    rw [pdOf]
    obtain ⟨its, vs, pl, _⟩ := I.list (e.l h)
    obtain ⟨o, n, g1, g2, g3, g4⟩ := pl
    obtain ⟨as, ra⟩ := reads_ints s.heap _ _ vs
    exact ⟨_, .list g1 g2 g4 (by simpa using ra)⟩
  | _, _, .key h, u, r, _ => by
    cases r
    rw [pdOf]
    obtain ⟨its, vs, ⟨o, g1, g2, n, g4⟩, _⟩ := I.tuple (.inl (.inl (e _ _ h)))
    obtain ⟨as, ra⟩ := reads_ints s.heap _ _ vs
    exact ⟨_, .tuple g1 g2 g4 (by simpa using ra)⟩
  | _, _, .dK h q, u, r, p => by
    rw [plainD] at p
    cases p
  | _, _, .dT h q, u, r, p => by
    rw [plainD] at p
    cases p
theorem RpAll.reads (I : Inv X pins σ H s) (e : Ex G H) : ∀ {vs : List V} {ds : List D}, RpAll X.K G vs ds → ∀ {us : List Value}, Vals vs us → plainDs ds = true → ∃ as, ReadsAll s.heap us (pdOfs ds) as
  | _, _, .nil, _, .nil, _ => by
    rw [pdOfs]
    exact ⟨_, .nil⟩
  | _, _, .cons h q, _, .cons r t, p => by
    rw [plainDs, Bool.and_eq_true] at p
    rw [pdOfs]
    obtain ⟨as, a⟩ := Rp.reads I e h r p.1
    obtain ⟨bs, b⟩ := RpAll.reads I e q t p.2
    exact ⟨_, .cons a b⟩
end
/-- it can be shown -/
def repOk (d : D) : Prop := plainD d = true ∧ isRefD d = true ∧ (pdOf d).showable = true ∧ (pdOf d).shown.length ≤ sizeLine ∧ (pdOf d).depth ≤ 60
instance (d : D) : Decidable (repOk d) := by unfold repOk; exact inferInstance
def reprD (d : D) : Str := (pdOf d).shown
def rRep (K : PySem.W.Frag) : List V → Hp → VK → Prop := fun xs H Q => ∃ v G d, xs = [v] ∧ Ex G H ∧ Rp K G v d ∧ repOk d ∧ Q (.str (reprD d)) H
theorem call_reprD (hg : X.A.guards = some []) (hu : X.A.units + 64 < cLine) : CallR X (.builtin "repr") (rRep X.K) := by
  intro pins s σ H xs us Q I r h
  obtain ⟨v, G, d, rfl, e, q, ⟨p1, p2, p3, p4, p5⟩, hq⟩ := h
  cases r with
  | cons r t =>
    cases t
    obtain ⟨as, rd⟩ := q.reads I e r p1
    have hsm : (pdOf d).hasDict = true → sysModules ∉ as := fun z => by
      rw [plain_noDict d p1] at z
      cases z
    have isr : ∃ a, v = .ref a := by
      cases q <;> first | exact ⟨_, rfl⟩ | (simp [isRefD] at p2)
    obtain ⟨a, rfl⟩ := isr
    cases r
    exact repr_of_reads' rd p3 hsm hg (by omega) (fun _ _ z => z) (fun h' u tk hk => ⟨.str _, H, I.kept hk, ⟨u, rfl⟩, hq⟩) p4
theorem cb_repr {K : PySem.W.Frag} {B : Base} {ρ : List Slot} {d : D} : CbD K B ρ (rRep K) [.val d] (R.guard (repOk d)) (fun _ => .val (.str (reprD d))) := fun G H σ vs Q E ok q => by
  obtain ⟨hc, q⟩ := R.post_guard q
  obtain ⟨v, rfl, r⟩ := ok.one
  exact ⟨v, G, d, rfl, E.sub, r, hc, q _ G H (Ex.refl G) (E.push (.str _))⟩
end
/-! ### tuples of one thing -/
@[reducible] def eP1 {α : Type} (f : α → D) (p : α) : D := .tuple [f p]
theorem fl_P1 {α : Type} {f : α → D} (h : ∀ x, Flat (f x)) (p : α) : Flat (eP1 f p) := by
  rw [eP1, Flat, FlatL, FlatL]
  exact ⟨h p, trivial⟩
/-! ### how long it is -/
mutual
/-- no texts, all ints of less than B signs -/
def shortD (B : Nat) : D → Prop
  | .none => True
  | .bool _ => True
  | .int i => i.natAbs < 10 ^ B
  | .list ds => shortDs B ds
  | .tuple ds => shortDs B ds
  | .row ds => shortDs B ds
  | .str _ => False
  | .scr _ => False
  | .key _ => False
  | .dict _ => False
def shortDs (B : Nat) : List D → Prop
  | [] => True
  | d :: ds => shortD B d ∧ shortDs B ds
end
mutual
def wide (B : Nat) : D → Nat
  | .list ds => 3 + wides B ds
  | .tuple ds => 3 + wides B ds
  | .row ds => 3 + wides B ds
  | .none => B + 5
  | .bool _ => B + 5
  | .int _ => B + 5
  | .str _ => B + 5
  | .scr _ => B + 5
  | .key _ => B + 5
  | .dict _ => B + 5
def wides (B : Nat) : List D → Nat
  | [] => 0
  | d :: ds => (wide B d + 2) + wides B ds
end
mutual
def deepD : D → Nat
  | .list ds => deepDs ds + 1
  | .tuple ds => deepDs ds + 1
  | .row ds => deepDs ds + 1
  | .none => 0
  | .bool _ => 0
  | .int _ => 0
  | .str _ => 0
  | .scr _ => 0
  | .key _ => 0
  | .dict _ => 0
def deepDs : List D → Nat
  | [] => 0
  | d :: ds => max (deepD d) (deepDs ds)
end
theorem shown_int_len {B : Nat} (hB : 0 < B) {i : Int} (h : i.natAbs < 10 ^ B) : (PyData.shown (.int i)).length ≤ B + 1 := by
  rw [PyData.shown_int]
  show (Str.ofString (toString i)).length ≤ B + 1
  rw [PySem.ofString_length]
  exact int_text_length_le10 hB h
theorem log2_lt10 {B : Nat} (hB : B < 570) {i : Int} (h : i.natAbs < 10 ^ B) : i.natAbs.log2 < 1920 := by
  by_cases h0 : i.natAbs = 0
  · rw [h0]
    decide
  · refine (Nat.log2_lt h0).mpr (Nat.lt_of_lt_of_le h ?_)
    exact Nat.le_trans (Nat.pow_le_pow_right (by decide) (show B ≤ 570 by omega)) (by decide +kernel)
mutual
theorem shortD_ok {B : Nat} (h0 : 0 < B) (hB : B < 570) : ∀ d : D, shortD B d → plainD d = true ∧ (pdOf d).showable = true ∧ (pdOf d).depth = deepD d ∧ (pdOf d).shown.length ≤ wide B d
  | .none, h => by
    rw [plainD, pdOf, PyData.showable, PyData.depth, deepD, wide, PyData.shown_none]
    exact ⟨rfl, rfl, rfl, Nat.le_trans (show _ ≤ 5 by decide) (by omega)⟩
  | .bool b, h => by
    rw [plainD, pdOf, PyData.showable, PyData.depth, deepD, wide, PyData.shown_bool]
    refine ⟨rfl, rfl, rfl, Nat.le_trans (show _ ≤ 5 from ?_) (by omega)⟩
    cases b <;> decide
  | .int i, h => by
    rw [shortD] at h
    rw [plainD, pdOf, PyData.showable, PyData.depth, deepD, wide]
    exact ⟨rfl, decide_eq_true (log2_lt10 hB h), rfl, Nat.le_trans (shown_int_len h0 h) (by omega)⟩
  | .str _, h => by
    rw [shortD] at h
    exact h.elim
  | .scr _, h => by
    rw [shortD] at h
    exact h.elim
  | .key _, h => by
    rw [shortD] at h
    exact h.elim
  | .dict _, h => by
    rw [shortD] at h
    exact h.elim
  | .list ds, h => by
    rw [shortD] at h
    obtain ⟨a, b, c, d⟩ := shortDs_ok h0 hB ds h
    rw [plainD, pdOf, PyData.showable, PyData.depth, deepD, wide, PyData.shown, a, b, c]
    refine ⟨rfl, rfl, rfl, Nat.le_trans (listText_len_le _) ?_⟩
    rw [PyData.shownAll_length]
    omega
  | .tuple ds, h => by
    rw [shortD] at h
    obtain ⟨a, b, c, d⟩ := shortDs_ok h0 hB ds h
    rw [plainD, pdOf, PyData.showable, PyData.depth, deepD, wide, PyData.shown, a, b, c]
    refine ⟨rfl, rfl, rfl, Nat.le_trans (tupleText_len_le _) ?_⟩
    rw [PyData.shownAll_length]
    omega
  | .row ds, h => by
    rw [shortD] at h
    obtain ⟨a, b, c, d⟩ := shortDs_ok h0 hB ds h
    rw [plainD, pdOf, PyData.showable, PyData.depth, deepD, wide, PyData.shown, a, b, c]
    refine ⟨rfl, rfl, rfl, Nat.le_trans (tupleText_len_le _) ?_⟩
    rw [PyData.shownAll_length]
    omega
theorem shortDs_ok {B : Nat} (h0 : 0 < B) (hB : B < 570) : ∀ ds : List D, shortDs B ds → plainDs ds = true ∧ PyData.showableAll (pdOfs ds) = true ∧ PyData.depthAll (pdOfs ds) = deepDs ds ∧ ((PyData.shownAll (pdOfs ds)).map (·.length)).sum + 2 * (pdOfs ds).length ≤ wides B ds
  | [], _ => by
    rw [plainDs, pdOfs, PyData.showableAll, PyData.depthAll, deepDs, wides, PyData.shownAll]
    exact ⟨rfl, rfl, rfl, Nat.le_refl _⟩
  | d :: ds, h => by
    rw [shortDs] at h
    obtain ⟨a, b, c, e⟩ := shortD_ok h0 hB d h.1
    obtain ⟨a2, b2, c2, e2⟩ := shortDs_ok h0 hB ds h.2
    rw [plainDs, pdOfs, PyData.showableAll, PyData.depthAll, deepDs, wides, PyData.shownAll, a, b, c, a2, b2, c2]
    refine ⟨rfl, rfl, rfl, ?_⟩
    rw [List.map_cons, List.sum_cons, List.length_cons]
    omega
end
theorem repOk_of {B : Nat} {d : D} (h0 : 0 < B) (hB : B < 570) (h : shortD B d) (hr : isRefD d = true) (hd : deepD d ≤ 60) (hw : wide B d ≤ 1000000) : repOk d := by
  obtain ⟨a, b, c, e⟩ := shortD_ok h0 hB d h
  exact ⟨a, hr, b, Nat.le_trans e (Nat.le_trans hw (by decide)), by rw [c]; exact hd⟩
/-- lists of things alike -/
theorem shortDs_map {α : Type} {B : Nat} {f : α → D} : ∀ {xs : List α}, (∀ x ∈ xs, shortD B (f x)) → shortDs B (xs.map f)
  | [], _ => by rw [List.map_nil, shortDs]; trivial
  | x :: xs, h => by
    rw [List.map_cons, shortDs]
    exact ⟨h x List.mem_cons_self, shortDs_map fun y m => h y (List.mem_cons_of_mem _ m)⟩
theorem wides_map {α : Type} {B c : Nat} {f : α → D} : ∀ {xs : List α}, (∀ x ∈ xs, wide B (f x) ≤ c) → wides B (xs.map f) ≤ xs.length * (c + 2)
  | [], _ => by rw [List.map_nil, wides]; exact Nat.zero_le _
  | x :: xs, h => by
    rw [List.map_cons, wides, List.length_cons, Nat.succ_mul]
    have h1 := h x List.mem_cons_self
    have h2 := wides_map (B := B) (c := c) (f := f) (xs := xs) fun y m => h y (List.mem_cons_of_mem _ m)
    omega
theorem deepDs_map {α : Type} {c : Nat} {f : α → D} : ∀ {xs : List α}, (∀ x ∈ xs, deepD (f x) ≤ c) → deepDs (xs.map f) ≤ c
  | [], _ => by rw [List.map_nil, deepDs]; exact Nat.zero_le _
  | x :: xs, h => by
    rw [List.map_cons, deepDs]
    exact Nat.max_le.mpr ⟨h x List.mem_cons_self, deepDs_map fun y m => h y (List.mem_cons_of_mem _ m)⟩
end DL

/-! DL24: more of equality -/
namespace DL
open PySem PySem.Spec L2
theorem EqE.up {α : Type} [DecidableEq α] {n : Nat} {f : α → D} (h : EqE n f) : EqE (n + 1) f := ⟨h.lay, fun x => Nat.le_succ_of_le (h.dep x), h.eqv⟩
theorem od_eqS {K : PySem.W.Frag} {B : Base} {i j : Str} : OpD K B rEq (.str i) (.str j) (.ok ()) (fun _ => .val (.bool (decide (i = j)))) := od_val0 (w := .bl (decide (i = j))) (fun G H vx vy Q _ hx hy q => by
  rw [hx.str_inv, hy.str_inv]
  refine ⟨rfl, ?_⟩
  have : decide (V.str i = V.str j) = decide (i = j) := decide_eq_decide.mpr ⟨fun h => by injection h, fun h => by rw [h]⟩
  rw [this]
  exact q) fun _ => .bl _
theorem od_neS {K : PySem.W.Frag} {B : Base} {i j : Str} : OpD K B rNe (.str i) (.str j) (.ok ()) (fun _ => .val (.bool (!decide (i = j)))) := od_val0 (w := .bl (!decide (i = j))) (fun G H vx vy Q _ hx hy q => by
  rw [hx.str_inv, hy.str_inv]
  refine ⟨rfl, ?_⟩
  have : decide (V.str i = V.str j) = decide (i = j) := decide_eq_decide.mpr ⟨fun h => by injection h, fun h => by rw [h]⟩
  rw [this]
  exact q) fun _ => .bl _
theorem ee_U : EqE 0 eU := ⟨fun _ => by simp [toPy, PyData.canLay0], fun _ => by simp [toPy, PyData.depth], fun x y => by
  simp [toPy, PyData.eqv]⟩
theorem ee_p1 {α : Type} [DecidableEq α] {n : Nat} {f : α → D} (hf : EqE n f) : EqE (n + 1) (eP1 f) := by
  refine ⟨fun x => ?_, fun x => ?_, fun x y => ?_⟩
  · simp [toPy, toPy.toPys, PyData.canLay0, PyData.canLayAll0, hf.lay]
  · have h1 := hf.dep x
    simp [toPy, toPy.toPys, PyData.depth, PyData.depthAll]
    omega
  · simp only [toPy, toPy.toPys, PyData.eqv, PyData.eqvAll, hf.eqv, Bool.and_true]
theorem ee_p4 {α β γ δ : Type} [DecidableEq α] [DecidableEq β] [DecidableEq γ] [DecidableEq δ] {n : Nat} {f : α → D} {g : β → D} {h : γ → D} {k : δ → D} (hf : EqE n f) (hg : EqE n g) (hh : EqE n h) (hk : EqE n k) : EqE (n + 1) (eP4 f g h k) := by
  refine ⟨fun x => ?_, fun x => ?_, fun x y => ?_⟩
  · simp [toPy, toPy.toPys, PyData.canLay0, PyData.canLayAll0, hf.lay, hg.lay, hh.lay, hk.lay]
  · have h1 := hf.dep x.1
    have h2 := hg.dep x.2.1
    have h3 := hh.dep x.2.2.1
    have h4 := hk.dep x.2.2.2
    simp [toPy, toPy.toPys, PyData.depth, PyData.depthAll]
    omega
  · obtain ⟨a, b, c, d⟩ := x
    obtain ⟨a', b', c', d'⟩ := y
    simp only [toPy, toPy.toPys, PyData.eqv, PyData.eqvAll, hf.eqv, hg.eqv, hh.eqv, hk.eqv, Bool.and_true]
    rw [← Bool.decide_and, ← Bool.decide_and, ← Bool.decide_and]
    exact decide_eq_decide.mpr ⟨fun h => by rw [h.1, h.2.1, h.2.2.1, h.2.2.2], fun h => by
      injection h with h1 h2
      injection h2 with h2 h3
      injection h3 with h3 h4
      exact ⟨h1, h2, h3, h4⟩⟩
/-! ### what may be None -/
@[reducible] def eO {α : Type} (f : α → D) : Option α → D
  | .none => .none
  | .some x => f x
/-- never None -/
def NotN {α : Type} (f : α → D) : Prop := ∀ x, PyData.eqv .none (toPy (f x)) = false ∧ PyData.eqv (toPy (f x)) .none = false
theorem ee_O {α : Type} [DecidableEq α] {n : Nat} {f : α → D} (hf : EqE n f) (nn : NotN f) : EqE n (eO f) := by
  refine ⟨fun x => ?_, fun x => ?_, fun x y => ?_⟩
  · cases x with
    | none => simp [toPy, PyData.canLay0]
    | some x => exact hf.lay x
  · cases x with
    | none => simp [toPy, PyData.depth]
    | some x => exact hf.dep x
  · cases x with
    | none =>
      cases y with
      | none => simp [toPy, PyData.eqv]
      | some y =>
        show PyData.eqv (toPy .none) (toPy (f y)) = _
        rw [toPy, (nn y).1]
        simp
    | some x =>
      cases y with
      | none =>
        show PyData.eqv (toPy (f x)) (toPy .none) = _
        rw [toPy, (nn x).2]
        simp
      | some y =>
        show PyData.eqv (toPy (f x)) (toPy (f y)) = _
        rw [hf.eqv]
        simp
theorem nn_int : NotN D.int := fun x => by simp [toPy, PyData.eqv]
theorem nn_str : NotN D.str := fun x => by simp [toPy, PyData.eqv]
theorem nn_bool : NotN D.bool := fun x => by simp [toPy, PyData.eqv]
theorem nn_T {α : Type} {f : α → D} : NotN (eT f) := fun x => by simp [toPy, PyData.eqv]
theorem nn_L {α : Type} {f : α → D} : NotN (eL f) := fun x => by simp [toPy, PyData.eqv]
theorem nn_P1 {α : Type} {f : α → D} : NotN (eP1 f) := fun x => by simp [toPy, PyData.eqv]
theorem nn_P2 {α β : Type} {f : α → D} {g : β → D} : NotN (eP2 f g) := fun x => by simp [toPy, PyData.eqv]
theorem nn_P3 {α β γ : Type} {f : α → D} {g : β → D} {h : γ → D} : NotN (eP3 f g h) := fun x => by simp [toPy, PyData.eqv]
theorem nn_P4 {α β γ δ : Type} {f : α → D} {g : β → D} {h : γ → D} {k : δ → D} : NotN (eP4 f g h k) := fun x => by simp [toPy, PyData.eqv]
end DL

/-! DL25: environments told outright -/
namespace DL
open PySem PySem.Spec L2
section
variable {X : Cx} {B : Base} {ρ : List Slot} {e a b : Expr} {es : List Expr} {rest : List Stmt} {pos : Pos} {N L T α : Type} {F : Fin N L T}
variable {CX : CXT} {k : Nat} {f : Addr} {fd : FuncData} {ps : List Str} {EE : XK} {x : Str} {p : Pos}
theorem je_callQE {α β γ : Type} {ins : α → List Slot} {mf : α → R β} {sl : β → Slot} {outs : β → List Slot} (F : FnG X.prog X.w X.K X.mg X.base CX k f fd ps (spM X.K ins mf sl outs)) (hr : RoomG k X.A) (hg : Gl X x) (hm : X.mg x = some (.ref f)) (hk : PySem.W.keepIn X.K (.ref f) = true)
    (hb : Binds X.K fd ps []) (hx : Passes CX X EE) {ma : R γ} {as : γ → List Ar} {ρa : γ → List Slot} (arg : γ → α) (ρ' : γ × β → List Slot) (ha : JA X B ρ (e :: es) ma as ρa) (hne : ∀ e, ¬ B.rs e) (hi : ∀ c, goodIn (ρa c) (as c) = true := by intro _; rfl) (hins : ∀ c, insAt 0 (ρa c) (as c) = ins (arg c) := by intro _; rfl)
    (ho : ∀ c b, goodOut 0 (as c) (outs b) = true := by intro _ _; rfl) (hal : ∀ c, aliOk (ρa c) (as c) = true := by intro _; rfl) (hres : ∀ b, resOk (sl b) = true := by intro _; rfl) (hρ : ∀ c b, backAt (ρa c) (movedAt (ρa c) (as c)) (as c) (outs b) = ρ' (c, b) := by intro _ _; rfl)
    (hdb : (x == ("__debug__" : Str)) = false := by decide) (he : starEach (e :: es) X.env = (false, eval e X.env) :: starEach es X.env := by rfl) (hpl : (backTo pos (starEach es X.env)).any (·.1) = false := by rfl) :
    JE X B ρ (.Call (.Name x p) (e :: es) [] pos) (ma.bind fun c => (mf (arg c)).bind fun b => .ok (c, b)) (fun y => sl y.2) ρ' := by
  have h := je_call (pos := pos) (p := p) F hr hg hm hk hb hx arg ha hne hi hins ho hal hres hdb he hpl
  have e1 : (fun y : γ × β => backAt (ρa y.1) (movedAt (ρa y.1) (as y.1)) (as y.1) (outs y.2)) = ρ' := funext fun y => hρ y.1 y.2
  rw [e1] at h
  exact h
theorem je_callQ {α β : Type} {ins : α → List Slot} {mf : α → R β} {sl : β → Slot} {outs : β → List Slot} (F : FnG X.prog X.w X.K X.mg X.base CX k f fd ps (spM X.K ins mf sl outs)) (hr : RoomG k X.A) (hg : Gl X x) (hm : X.mg x = some (.ref f)) (hk : PySem.W.keepIn X.K (.ref f) = true)
    (hb : Binds X.K fd ps []) (hx : Passes CX X EE) {as : List Ar} (arg : α) (ρ' : β → List Slot) (ha : JA X B ρ (e :: es) (.ok ()) (fun _ => as) (fun _ => ρ)) (hne : ∀ e, ¬ B.rs e) (hi : goodIn ρ as = true := by rfl) (hins : insAt 0 ρ as = ins arg := by rfl)
    (ho : ∀ b, goodOut 0 as (outs b) = true := by intro _; rfl) (hal : aliOk ρ as = true := by rfl) (hres : ∀ b, resOk (sl b) = true := by intro _; rfl) (hρ : ∀ b, backAt ρ (movedAt ρ as) as (outs b) = ρ' b := by intro _; rfl)
    (hdb : (x == ("__debug__" : Str)) = false := by decide) (he : starEach (e :: es) X.env = (false, eval e X.env) :: starEach es X.env := by rfl) (hpl : (backTo pos (starEach es X.env)).any (·.1) = false := by rfl) :
    JE X B ρ (.Call (.Name x p) (e :: es) [] pos) (mf arg) sl ρ' := by
  have h := je_callP (pos := pos) (p := p) F hr hg hm hk hb hx arg ha hne hi hins ho hal hres hdb he hpl
  have e1 : (fun y => backAt ρ (movedAt ρ as) as (outs y)) = ρ' := funext hρ
  rw [e1] at h
  exact h
theorem js_setPQ (i : Nat) {x : Str} {pos' : Pos} (en : α → D) (v : α) (ρ2 : α → List Slot) {k : α → R (Fl N L T)} (hN : X.N.Nodup) (h : JP X B ρ e (en v)) (r : ∀ x, JSs X B (ρ2 x) rest (k x) F) (hq : ∀ x, ρ.set i (.val (en x)) = ρ2 x := by intro _; rfl) (hi : X.N[i]? = some x := by rfl) (hx : Loc X.env.scope x := by first | exact Or.inl rfl | exact Or.inr rfl)
    (hlt : i < ρ.length := by exact of_decide_eq_true rfl) (hal : noAli i ρ = true := by rfl) (hs : swapsWith e (some (.Name x pos')) pos.line X.env = pure false := by rfl) (hf : X.fn x = true ∨ X.env.scope.names.lookup x = some .local := by first | exact .inl rfl | exact .inr rfl) :
    JSs X B ρ (.Assign [.Name x pos'] e pos :: rest) (lt v k) F :=
  js_setP i en v hN h (fun x => by rw [hq x]; exact r x) hi hx hlt hal hs hf
theorem js_setEQ (i : Nat) {x : Str} {pos' : Pos} (en : α → D) {β : Type} {m : R β} (v : β → α) {ρ' : β → List Slot} (ρ2 : β → α → List Slot) {k : β → α → R (Fl N L T)} (hN : X.N.Nodup) (h : JE X B ρ e m (fun b => .val (en (v b))) ρ') (r : ∀ b x, JSs X B (ρ2 b x) rest (k b x) F) (hq : ∀ b x, (ρ' b).set i (.val (en x)) = ρ2 b x := by intro _ _; rfl) (hi : X.N[i]? = some x := by rfl) (hx : Loc X.env.scope x := by first | exact Or.inl rfl | exact Or.inr rfl)
    (hlt : ∀ b, i < (ρ' b).length := by intro _; exact of_decide_eq_true rfl) (hal : ∀ b, noAli i (ρ' b) = true := by intro _; rfl) (hs : swapsWith e (some (.Name x pos')) pos.line X.env = pure false := by rfl) (hf : X.fn x = true ∨ X.env.scope.names.lookup x = some .local := by first | exact .inl rfl | exact .inr rfl) :
    JSs X B ρ (.Assign [.Name x pos'] e pos :: rest) (m.bind fun b => lt (v b) (k b)) F :=
  js_setE i en v hN h (fun b x => by rw [hq b x]; exact r b x) hi hx hlt hal hs hf
theorem js_setOQ (i : Nat) {x : Str} {pos' : Pos} (on : α → OT) {β : Type} {m : R β} (v : β → α) {ρ' : β → List Slot} (ρ2 : β → α → List Slot) {k : β → α → R (Fl N L T)} (hN : X.N.Nodup) (h : JE X B ρ e m (fun b => .own 0 (on (v b))) ρ') (r : ∀ b x, JSs X B (ρ2 b x) rest (k b x) F) (hq : ∀ b x, (ρ' b).set i (.own 0 (on x)) = ρ2 b x := by intro _ _; rfl) (hi : X.N[i]? = some x := by rfl) (hx : Loc X.env.scope x := by first | exact Or.inl rfl | exact Or.inr rfl)
    (hlt : ∀ b, i < (ρ' b).length := by intro _; exact of_decide_eq_true rfl) (hal : ∀ b, noAli i (ρ' b) = true := by intro _; rfl) (hs : swapsWith e (some (.Name x pos')) pos.line X.env = pure false := by rfl) (hf : X.fn x = true ∨ X.env.scope.names.lookup x = some .local := by first | exact .inl rfl | exact .inr rfl) :
    JSs X B ρ (.Assign [.Name x pos'] e pos :: rest) (m.bind fun b => lt (v b) (k b)) F :=
  js_setO i on v hN h (fun b x => by rw [hq b x]; exact r b x) hi hx hlt hal hs hf
theorem js_consQ1 {st : Stmt} {β : Type} {m : R β} {ρ' : β → List Slot} (ρ2 : β → List Slot) {k : β → R (Fl N L T)} (h : J1 X B ρ st m ρ') (r : ∀ b, JSs X B (ρ2 b) rest (k b) F) (hq : ∀ b, ρ' b = ρ2 b := by intro _; rfl) : JSs X B ρ (st :: rest) (m.bind k) F :=
  js_cons1 h fun b => by rw [hq b]; exact r b
theorem js_consQP {st : Stmt} {ρ' : List Slot} (ρ2 : List Slot) {k : R (Fl N L T)} (h : J1 X B ρ st (.ok ()) (fun _ => ρ')) (r : JSs X B ρ2 rest k F) (hq : ρ' = ρ2 := by rfl) : JSs X B ρ (st :: rest) k F :=
  js_consP h (by rw [hq]; exact r)
end
end DL

/-! DL26: a row of rows, changed by another name -/
namespace DL
open PySem PySem.Spec L2
section
variable {X : Cx} {B : Base} {ρ : List Slot} {N L T : Type}
theorem dint_rp {K : PySem.W.Frag} {G : Hp} {vs : List V} {ns : List Int} (h : RpAll K G vs (ns.map D.int)) : vs = ns.map V.int := h.ints
theorem ints_flat : ∀ ns : List Int, (ns.map V.int).all flatV = true
  | [] => rfl
  | n :: ns => by
    rw [List.map_cons, List.all_cons, ints_flat ns]
    rfl
theorem js_behind {rows : List (List Int)} {kp kv kw : Int} {l : Nat} (i j ip iv iw : Nat) {nr nx np nv nw : Str} {q1 q2 q3 q4 q5 q6 q7 q8 q9 q10 q11 q12 q13 q14 ap ap2 : Pos} {k1 : Nat} {F : Fin N L T} (bs : List Bool) (fN : List (List Int) → N)
    (hN : X.N.Nodup) (hj : ρ[j]? = some (.own l (oLL D.int rows)) := by rfl) (hp : ρ[ip]? = some (.val (.int kp)) := by rfl) (hv : ρ[iv]? = some (.val (.int kv)) := by rfl) (hw : ρ[iw]? = some (.val (.int kw)) := by rfl) (hi : i < ρ.length := by exact of_decide_eq_true rfl) (hal : noAlis ρ = true := by rfl)
    (hal2 : noAlis (ρ.set i .non) = true := by rfl)
    (ni : X.N[i]? = some nx := by rfl) (nj : X.N[j]? = some nr := by rfl) (np' : X.N[ip]? = some np := by rfl) (nv' : X.N[iv]? = some nv := by rfl) (nw' : X.N[iw]? = some nw := by rfl)
    (vi : Vis X.env.scope nx := by first | exact Or.inl rfl | exact Or.inr (Or.inl rfl) | exact Or.inr (Or.inr rfl)) (vj : Vis X.env.scope nr := by first | exact Or.inl rfl | exact Or.inr (Or.inl rfl) | exact Or.inr (Or.inr rfl)) (vp : Vis X.env.scope np := by first | exact Or.inl rfl | exact Or.inr (Or.inl rfl) | exact Or.inr (Or.inr rfl))
    (vv : Vis X.env.scope nv := by first | exact Or.inl rfl | exact Or.inr (Or.inl rfl) | exact Or.inr (Or.inr rfl)) (vw : Vis X.env.scope nw := by first | exact Or.inl rfl | exact Or.inr (Or.inl rfl) | exact Or.inr (Or.inr rfl))
    (d1 : (nx == ("__debug__" : Str)) = false ∧ (nr == ("__debug__" : Str)) = false ∧ (np == ("__debug__" : Str)) = false ∧ (nv == ("__debug__" : Str)) = false ∧ (nw == ("__debug__" : Str)) = false := by decide)
    (d2 : (nx == ("__classdict__" : Str)) = false ∧ (nr == ("__classdict__" : Str)) = false ∧ (np == ("__classdict__" : Str)) = false ∧ (nv == ("__classdict__" : Str)) = false ∧ (nw == ("__classdict__" : Str)) = false := by decide)
    (dd : i ≠ j ∧ i ≠ ip ∧ i ≠ iv ∧ i ≠ iw := by decide) (hx : Loc X.env.scope nx := by first | exact Or.inl rfl | exact Or.inr rfl) (hf : X.fn nx = true ∨ X.env.scope.names.lookup nx = some .local := by first | exact .inl rfl | exact .inr rfl)
    (hF : ∀ rs, forgot ((ρ.set i .non).set j (.own l (oLL D.int rs))) bs = F.n (fN rs) := by intro _; rfl)
    (sw : swapsWith (.Subscript (.Name nr q2) (.Name np q3) q4) (some (.Name nx q1)) q5.line X.env = pure false := by rfl) (hs : PlainIx (.Name np q3) := by exact fun _ _ => rfl)
    (sw2 : swapsWith (.Call (.Attribute (.Name nx q6) "insert" ap) [.BinOp (.Call (.Attribute (.Name nx q7) "index" ap2) [.Name nv q8] [] q9) .Add (.Constant (.int 1) k1 q10) q11, .Name nw q12] [] q13) none q14.line X.env = pure false := by rfl)
    (st1 : starEach [.Name nv q8] X.env = (false, eval (.Name nv q8) X.env) :: starEach [] X.env := by rfl)
    (ba1 : attributeBase (.Name nx q7) "index" X.env (eval (.Name nx q7) X.env) = eval (.Name nx q7) X.env := by rfl)
    (fe1 : ((backTo q9 (starEach [.Name nv q8] X.env)).all (fun x => !x.1) && (backToKw q9 (keywordEach [] X.env)).all (fun x => x.1.isSome) && decide ([Expr.Name nv q8].length + ([] : List Keyword).length + (if ([] : List Keyword).isEmpty then 0 else 1) < 30)) = true := by rfl)
    (li1 : (ap2.endLine == q9.line) = true := by rfl) (pl1 : (backTo q9 (starEach [] X.env)).any (·.1) = false := by rfl)
    (st2 : starEach [.BinOp (.Call (.Attribute (.Name nx q7) "index" ap2) [.Name nv q8] [] q9) .Add (.Constant (.int 1) k1 q10) q11, .Name nw q12] X.env = (false, eval (.BinOp (.Call (.Attribute (.Name nx q7) "index" ap2) [.Name nv q8] [] q9) .Add (.Constant (.int 1) k1 q10) q11) X.env) :: starEach [.Name nw q12] X.env := by rfl)
    (st3 : starEach [.Name nw q12] X.env = (false, eval (.Name nw q12) X.env) :: starEach [] X.env := by rfl)
    (ba2 : attributeBase (.Name nx q6) "insert" X.env (eval (.Name nx q6) X.env) = eval (.Name nx q6) X.env := by rfl)
    (fe2 : ((backTo q13 (starEach [.BinOp (.Call (.Attribute (.Name nx q7) "index" ap2) [.Name nv q8] [] q9) .Add (.Constant (.int 1) k1 q10) q11, .Name nw q12] X.env)).all (fun x => !x.1) && (backToKw q13 (keywordEach [] X.env)).all (fun x => x.1.isSome) && decide ([Expr.BinOp (.Call (.Attribute (.Name nx q7) "index" ap2) [.Name nv q8] [] q9) .Add (.Constant (.int 1) k1 q10) q11, .Name nw q12].length + ([] : List Keyword).length + (if ([] : List Keyword).isEmpty then 0 else 1) < 30)) = true := by rfl)
    (li2 : (ap.endLine == q13.line) = true := by rfl) (pl2 : (backTo q13 (starEach [.Name nw q12] X.env)).any (·.1) = false := by rfl) :
    JSs X B ρ [.Assign [.Name nx q1] (.Subscript (.Name nr q2) (.Name np q3) q4) q5, .Expr (.Call (.Attribute (.Name nx q6) "insert" ap) [.BinOp (.Call (.Attribute (.Name nx q7) "index" ap2) [.Name nv q8] [] q9) .Add (.Constant (.int 1) k1 q10) q11, .Name nw q12] [] q13) q14]
      ((R.some (rowAt rows kp)).bind fun r => (R.some (ixOf kv r.2)).bind fun z => (R.guard (r.2.length < sizeLine)).bind fun _ => .ok (.nx (fN (rows.set r.1 (r.2.take (z + 1) ++ [kw] ++ r.2.drop (z + 1)))))) F := by
  have e1 : PE X (.Subscript (.Name nr q2) (.Name np q3) q4) _ := pe_ix ix_list (pv j nj vj d1.2.1 d2.2.1) (pv ip np' vp d1.2.2.1 d2.2.2.1) hs
  have s1 := ps_set (i := i) (pos := q5) (pos' := q1) hN ni hx e1 (hs := sw) (hf := hf)
  have eix := pe_bm (apos := ap2) (cpos := q9) PySem.F.plainAttrs_list PySem.F.slot_list_index PySem.F.type_list_index mt_index (pv (pos := q7) i ni vi d1.1 d2.1) (pa_cons (pv (pos := q8) iv nv' vv d1.2.2.2.1 d2.2.2.2.1) pa_nil st1) ba1 fe1 li1 st1 pl1
  have eadd := pe_op (pos := q11) op_add eix (pe_int (X := X) (i := 1) (j := k1) (pos := q10))
  have e2 := pe_bm (apos := ap) (cpos := q13) PySem.F.plainAttrs_list PySem.F.slot_list_insert PySem.F.type_list_insert mt_insert (pv (pos := q6) i ni vi d1.1 d2.1) (pa_cons eadd (pa_cons (pv (pos := q12) iw nw' vw d1.2.2.2.2 d2.2.2.2.2) pa_nil st3) st2) ba2 fe2 li2 st2 pl2
  have s2 := ps_expr (pos := q14) e2 sw2
  refine PSs_imp (pss_cons s1 (pss_one s2)) fun Dn σ H ⟨G, E, q⟩ => ?_
  obtain ⟨vp0, g1, g2⟩ := E.get hp
  obtain ⟨vv0, g3, g4⟩ := E.get hv
  obtain ⟨vw0, g5, g6⟩ := E.get hw
  have g2 := g2.int_inv
  have g4 := g4.int_inv
  have g6 := g6.int_inv
  subst g2 g4 g6
  obtain ⟨r, hr, q⟩ := R.post_some (R.post_bind.mp q)
  obtain ⟨r1, r2⟩ := rowAt_get hr
  obtain ⟨z, hz, q⟩ := R.post_some (R.post_bind.mp q)
  obtain ⟨z1, z2⟩ := ixOf_some hz
  obtain ⟨hg, q⟩ := R.post_guard (R.post_bind.mp q)
  have sub := subL1 (f := D.int) r2
  obtain ⟨v, a, vs, f1, f2, f3, f4, _⟩ := E.putAt hj hal sub
  have f4' := f4.ints
  subst f4'
  obtain ⟨b, ws, u, rfl, f5, f6, f7⟩ := f2
  have f7 : u = .ref a := f7
  subst f7
  have lws : ws.length = rows.length := by
    obtain ⟨A, c, n, g⟩ := E.own
    obtain ⟨v', A1, A2, e1, hO, hl, c2, pm⟩ := Cells.take1 (show Cells X.K B G H σ ρ A from c) hj
    rw [f1] at e1
    injection e1 with e1
    injection e1 with e1
    subst e1
    cases hO with
    | lst ha hall =>
      rw [f5] at ha
      injection ha with ha
      injection ha with ha
      rw [ha, hall.len, List.length_map]
  refine ⟨.ref b, f1, .int kp, g1, b, ws, kp, .ref a, rfl, rfl, .inl (.inl f5), ?_, ?_⟩
  · unfold atI
    rw [lws, r1]
    exact f6
  have E2 : En X.K B G H (σ.set i (some (.ref a))) (ρ.set i .non) [] := by
    obtain ⟨A, c, n, g⟩ := E.own
    obtain ⟨A', C, c', p1, p2⟩ := (show Cells X.K B G H σ ρ A from c).set (x := some (.ref a)) (s := .non) .non hi
    rw [List.nil_append] at p1
    refine ⟨E.anc, ⟨A', c', p1.nodup_iff.mpr (p2.nodup n), fun x m => g x (p2.subset (p1.mem_iff.mp m))⟩, by rw [List.length_set, List.length_set]; exact E.len, fun k' j' p e => ?_⟩
    exact absurd e (noAlis_get hal2)
  have hσ : i < σ.length := by
    have := E.len
    omega
  have si : (σ.set i (some (.ref a)))[i]? = some (some (.ref a)) := List.getElem?_set_self hσ
  have so : ∀ {k : Nat} {v : V}, i ≠ k → σ[k]? = some (some v) → (σ.set i (some (.ref a)))[k]? = some (some v) := fun h e => by
    rw [List.getElem?_set_ne h]
    exact e
  have hz' := (List.getElem?_eq_some_iff.mp z1).1
  have ty : tyV X.K "list" (.ref a) H := .inl ⟨rfl, _, .inl (.inl f3)⟩
  refine ⟨.ref a, si, ty, .ref a, si, ty, .int kv, so dd.2.2.1 g3, a, _, .int kv, z, .int kv, rfl, rfl, .inl (.inl f3), rfl, ints_flat _, by rw [List.getElem?_map, z1]; rfl, by simp [eqV], fun m z' hm hz2 => ?_, (z : Int), 1, rfl, rfl, .int kw, so dd.2.2.2 g5, a, _, (z : Int) + 1, .int kw, rfl, rfl, f3, by rw [List.length_map]; exact hg, by omega, ?_, ?_⟩
  · rw [List.getElem?_map] at hz2
    cases hy : r.2[m]? with
    | none =>
      rw [hy] at hz2
      cases hz2
    | some y =>
      rw [hy] at hz2
      injection hz2 with hz2
      subst hz2
      have : y ≠ kv := fun e => z2 m hm (by rw [hy, e])
      simp [eqV, this]
  · have : sizeLine < 2 ^ 62 := by decide
    omega
  · have hj2 : (ρ.set i .non)[j]? = some (.own l (oLL D.int rows)) := by
      rw [List.getElem?_set_ne dd.1]
      exact hj
    obtain ⟨v, a', vs', k1, k2, k3, k4, k5⟩ := E2.putAt hj2 hal2 sub
    have ev : v = .ref b := by
      rw [so dd.1 f1] at k1
      injection k1 with k1
      injection k1 with k1
      exact k1.symm
    subst ev
    have ea : V.ref a' = V.ref a := At.fun_ k2 ⟨b, ws, .ref a, rfl, f5, f6, rfl⟩
    injection ea with ea
    subst ea
    have E3 := k5 (((r.2.take (z + 1) ++ [kw] ++ r.2.drop (z + 1))).map V.int) ((r.2.take (z + 1) ++ [kw] ++ r.2.drop (z + 1)).map D.int) (RpAll.of_ints _)
    rw [putS1 sub] at E3
    have E4 := E3.forgot bs
    rw [hF] at E4
    have en : ((z : Int) + 1).toNat = z + 1 := by omega
    have em : (List.take ((z : Int) + 1).toNat (r.2.map V.int) ++ [V.int kw] ++ List.drop ((z : Int) + 1).toNat (r.2.map V.int)) = ((r.2.take (z + 1) ++ [kw] ++ r.2.drop (z + 1))).map V.int := by
      rw [en, List.map_append, List.map_append, List.map_take, List.map_drop]
      rfl
    rw [em]
    exact q _ G _ (Ex.refl G) E4
end
end DL

/-! DL27: dicts of one's own, by whole numbers; list(range(..)); sorted -/
namespace DL
open PySem PySem.Spec L2
instance (a b : Int) : Decidable (RgOk a b) := by unfold RgOk; infer_instance
section
variable {β : Type}
@[reducible] def odK (f : β → D) (kvs : List (Int × β)) : OT := .dk (kvs.map fun p => (Sum.inl p.1, f p.2))
def hasK (k : Int) (kvs : List (Int × β)) : Bool := kvs.any fun p => decide (p.1 = k)
def putI (kvs : List (Int × β)) (k : Int) (v : β) : List (Int × β) := if hasK k kvs = true then kvs.map (fun p => if p.1 = k then (p.1, v) else p) else kvs ++ [(k, v)]
def mergeI (kvs more : List (Int × β)) : List (Int × β) := more.foldl (fun acc p => putI acc p.1 p.2) kvs
end
section
variable {K : PySem.W.Frag} {G : Hp} {β : Type} {f : β → D}
theorem inl_dec (a k : Int) : decide ((Sum.inl a : Key) = Sum.inl k) = decide (a = k) := decide_eq_decide.mpr ⟨fun h => Sum.inl.inj h, fun h => by rw [h]⟩
theorem rpe_any {kvs : List (Key × V)} {ds : List (Int × β)} (h : RpE K G kvs (ds.map fun p => (Sum.inl p.1, f p.2))) (k : Int) : (kvs.any fun kv => decide (kv.1 = Sum.inl k)) = hasK k ds := by
  induction ds generalizing kvs with
  | nil =>
    cases h
    rfl
  | cons d ds ih =>
    cases h with
    | cons h1 h2 =>
      rw [List.any_cons, ih h2]
      show (decide ((Sum.inl d.1 : Key) = Sum.inl k) || hasK k ds) = _
      rw [inl_dec]
      rfl
theorem rpe_len {kvs : List (Key × V)} {ds : List (Key × D)} (h : RpE K G kvs ds) : kvs.length = ds.length := by
  induction h with
  | nil => rfl
  | cons _ _ ih => rw [List.length_cons, List.length_cons, ih]
theorem rpe_append {kvs kws : List (Key × V)} {ds es : List (Key × D)} (h : RpE K G kvs ds) (h2 : RpE K G kws es) : RpE K G (kvs ++ kws) (ds ++ es) := by
  induction h with
  | nil => exact h2
  | cons h _ ih => exact .cons h ih
theorem rpe_put {kvs : List (Key × V)} {ds : List (Int × β)} (h : RpE K G kvs (ds.map fun p => (Sum.inl p.1, f p.2))) {k : Int} {v : V} {d : β} (r : Rp K G v (f d)) : RpE K G (putK kvs (Sum.inl k) v) ((putI ds k d).map fun p => (Sum.inl p.1, f p.2)) := by
  unfold putK putI
  rw [rpe_any h k]
  by_cases e : hasK k ds = true
  · rw [if_pos e, if_pos e]
    clear e
    induction ds generalizing kvs with
    | nil =>
      cases h
      exact .nil
    | cons x ds ih =>
      cases h with
      | @cons _ w _ _ _ h1 h2 =>
        rw [List.map_cons, List.map_cons, List.map_cons]
        by_cases e : x.1 = k
        · rw [if_pos (show (Sum.inl x.1 : Key) = Sum.inl k by rw [e]), if_pos e]
          exact .cons r (ih h2)
        · rw [if_neg (show ¬ (Sum.inl x.1 : Key) = Sum.inl k from fun z => e (Sum.inl.inj z)), if_neg e]
          exact .cons h1 (ih h2)
  · rw [if_neg e, if_neg e, List.map_append]
    exact rpe_append h (.cons r .nil)
theorem rpe_merge : ∀ {more : List (Int × β)} {kws : List (Key × V)} {kvs : List (Key × V)} {ds : List (Int × β)}, RpE K G kws (more.map fun p => (Sum.inl p.1, f p.2)) → RpE K G kvs (ds.map fun p => (Sum.inl p.1, f p.2)) → RpE K G (mergeK kvs kws) ((mergeI ds more).map fun p => (Sum.inl p.1, f p.2))
  | [], _, _, _, .nil, h => h
  | m :: more, kws, kvs, ds, h0, h => by
    cases h0 with
    | @cons _ w _ r _ h1 h2 => exact rpe_merge (more := more) (kws := r) (ds := putI ds m.1 m.2) h2 (rpe_put h h1)
theorem valV_some (k : Key) (kvs : List (Key × V)) : (valV kvs k).isSome = kvs.any fun kv => decide (kv.1 = k) := (valV_any k kvs).symm
end
section
variable {K : PySem.W.Frag} {B : Base} {G H : Hp} {σ : L2.St} {ρ : List Slot} {ex : List (V × Slot)}
/-- a new dict, owned -/
theorem En.newDK (E : En K B G H σ ρ ex) {p : Addr} (hp : H p = none) {kvs : List (Key × V)} {ds : List (Key × D)} (r : RpE K G kvs ds) : En K B G (upd H p (.dK kvs)) σ ρ ((.ref p, .own 0 (.dk ds)) :: ex) := by
  obtain ⟨A, c, n, f⟩ := E.own
  have hG := E.sub.back hp
  have h0 := E.fresh hp
  have hn : p ∉ A := fun m => by
    obtain ⟨u, hu⟩ := c.there p m
    rw [hu] at hp
    cases hp
  refine ⟨E.anc.put hG (.inr h0) _, ⟨p :: ([] ++ A), .cons (A := [p]) (.own (.dk upd_same r) (fun a m => by
      rw [List.mem_singleton.mp m]
      exact .inr h0) (.inl rfl)) (c.ex (Ex.refl G) fun a m u e => by
      rw [upd_ne (ne_of_none e hp)]
      exact e), ?_, fun a m => ?_⟩, E.len, fun i j q e => ?_⟩
  · exact List.nodup_cons.mpr ⟨hn, n⟩
  · rcases List.mem_cons.mp m with rfl | m
    · exact hG
    · exact f a m
  · obtain ⟨v, w, h1, h2, h3⟩ := E.ali i j q e
    exact ⟨v, w, h1, h2, h3.ex (Ex.new hp)⟩
theorem En.ownDK (E : En K B G H σ ρ ex) {i l : Nat} {ds : List (Key × D)} (h : ρ[i]? = some (.own l (.dk ds))) (hal : noAlis ρ = true) : ∃ p kvs, σ[i]? = some (some (.ref p)) ∧ H p = some (.dK kvs) ∧ RpE K G kvs ds ∧
    ∀ kvs' ds', RpE K G kvs' ds' → En K B G (upd H p (.dK kvs')) σ (ρ.set i (.own l (.dk ds'))) ex := by
  obtain ⟨A0, c, n, g⟩ := E.own
  have hi : i < ρ.length := (List.getElem?_eq_some_iff.mp h).1
  have h' : (ex.map (·.2) ++ ρ)[ex.length + i]? = some (.own l (.dk ds)) := by
    rw [List.getElem?_append_right (by simp), List.length_map]
    simpa using h
  obtain ⟨v, A, A2, e1, hO, ⟨hl, hp⟩, c2, pm⟩ := c.take1 h'
  rw [List.getElem?_append_right (by simp), List.length_map] at e1
  have e1 : σ[i]? = some (some v) := by simpa using e1
  have nn := pm.nodup_iff.mp n
  have n1 := List.nodup_append.mp nn
  cases hO with
  | @dk a kvs _ ha hr =>
    refine ⟨a, kvs, e1, ha, hr, fun kvs' ds' r' => ?_⟩
    have hG : G a = none := g a (pm.mem_iff.mpr (List.mem_append_left _ List.mem_cons_self))
    have c3 : Cells K B G (upd H a (.dK kvs')) (ex.map (fun p => some p.1) ++ σ) ((ex.map (·.2) ++ ρ).set (ex.length + i) .non) A2 := c2.ex (Ex.refl G) fun b m u e => by
      rw [upd_ne (fun z => by
        subst z
        exact n1.2.2 b List.mem_cons_self b m rfl)]
      exact e
    obtain ⟨A8, c8, p8⟩ := c3.put1 (i := ex.length + i) (l := l) (o := .dk ds') (v := .ref a) (A1 := [a]) (by
      rw [List.getElem?_set_self]
      rw [List.length_append, List.length_map]
      omega) (by
      rw [List.getElem?_append_right (by simp), List.length_map]
      simpa using e1) (.dk upd_same r') ⟨hl, hp⟩
    rw [List.set_set, List.set_append_right _ _ (by simp), List.length_map, Nat.add_sub_cancel_left] at c8
    refine ⟨E.anc.put hG ((hl a List.mem_cons_self).elim (fun z => .inl ⟨l, z⟩) .inr) _, ⟨A8, c8, p8.nodup_iff.mpr nn, fun b m => g b (pm.mem_iff.mpr (p8.mem_iff.mp m))⟩, by rw [List.length_set]; exact E.len, fun k j q e => ?_⟩
    by_cases hk : i = k
    · subst hk
      rw [List.getElem?_set_self hi] at e
      cases e
    · rw [List.getElem?_set_ne hk] at e
      exact absurd e (noAlis_get hal)
end
section
variable {X : Cx} {B : Base} {ρ : List Slot} {e a b o2 val : Expr} {es : List Expr} {pos pos' : Pos} {β γ : Type}
/-- dict(l), a list of pairs -/
theorem pairs_rp {K : PySem.W.Frag} {G : Hp} {f : β → D} : ∀ {xs : List (Int × β)} {vs : List V}, RpAll K G vs (xs.map (eP2 D.int f)) → ∃ (ps : List Addr) (kvs : List (Key × V)), vs = ps.map V.ref ∧ Paired (fun p kv => SqT K G p [kV kv.1, kv.2]) ps kvs ∧ RpE K G kvs (xs.map fun p => (Sum.inl p.1, f p.2))
  | [], _, .nil => ⟨[], [], rfl, .nil, .nil⟩
  | x :: xs, _, .cons h r => by
    obtain ⟨ps, kvs, e1, e2, e3⟩ := pairs_rp r
    obtain ⟨p, ws, e4, hS, hr⟩ := h.tup_inv
    obtain ⟨v, w, rfl, h1, h2⟩ := rp2 hr
    have h1 := h1.int_inv
    subst h1 e1 e4
    exact ⟨p :: ps, (Sum.inl x.1, w) :: kvs, rfl, .cons hS e2, .cons h2 e3⟩
def rDictP (K : PySem.W.Frag) : List V → Hp → VK → Prop := fun xs H Q => ∃ (a : Addr) (ps : List Addr) (kvs : List (Key × V)), xs = [.ref a] ∧ SqL K H a (ps.map V.ref) ∧ Paired (fun p kv => SqT K H p [kV kv.1, kv.2]) ps kvs ∧
    ∀ p, H p = none → Q (.ref p) (upd H p (.dK (mergeK [] kvs)))
theorem paired_ex {K : PySem.W.Frag} {G H : Hp} (e : Ex G H) : ∀ {ps : List Addr} {kvs : List (Key × V)}, Paired (fun p kv => SqT K G p [kV kv.1, kv.2]) ps kvs → Paired (fun p kv => SqT K H p [kV kv.1, kv.2]) ps kvs
  | _, _, .nil => .nil
  | _, _, .cons h r => .cons (e.t h) (paired_ex e r)
theorem cb_dictP {K : PySem.W.Frag} {f : β → D} {xs : List (Int × β)} : CbD K B ρ (rDictP K) [.val (eL (eP2 D.int f) xs)] (.ok ()) (fun _ => .own 0 (odK f (mergeI [] xs))) := fun G H σ vs Q E ok q => by
  obtain ⟨v, rfl, r⟩ := ok.one
  obtain ⟨p, ws, rfl, hS, hr⟩ := r.lst_inv
  obtain ⟨ps, kvs, rfl, e2, e3⟩ := pairs_rp hr
  refine ⟨p, ps, kvs, rfl, .inl (E.sub.rd hS), paired_ex E.sub e2, fun p' hp => q _ G _ (Ex.refl G) (E.newDK hp (rpe_merge (ds := ([] : List (Int × β))) e3 .nil))⟩
/-- d[k] = v -/
theorem j1_dputK (i : Nat) {x : Str} {px : Pos} {l : Nat} {f : β → D} {kvs : List (Int × β)} {k : Int} {v : β} (hu : X.A.units + 64 < cLine) (h : ρ[i]? = some (.own l (odK f kvs)) := by rfl) (hk : JP X B ρ o2 (.int k)) (hv : JP X B ρ val (f v)) (hal : noAlis ρ = true := by rfl) (hN : X.N[i]? = some x := by rfl)
    (hvi : Vis X.env.scope x := by first | exact Or.inl rfl | exact Or.inr (Or.inl rfl) | exact Or.inr (Or.inr rfl)) (hd : (x == ("__debug__" : Str)) = false := by decide) (hcd : (x == ("__classdict__" : Str)) = false := by decide)
    (hs : swapsWith val (some (.Subscript (.Name x px) o2 pos')) pos.line X.env = pure false := by rfl) :
    J1 X B ρ (.Assign [.Subscript (.Name x px) o2 pos'] val pos) (R.guard (kvs.length < sizeLine)) (fun _ => ρ.set i (.own l (odK f (putI kvs k v)))) :=
  PS_imp (ps_dput (by omega) (pv (X := X) (pos := px) i hN hvi hd hcd) hk hv hs) fun Dn σ H ⟨G, E, q⟩ => by
    obtain ⟨hc, q⟩ := R.post_guard q
    refine ⟨G, E, fun w G1 H1 x1 E1 => ?_⟩
    obtain ⟨p, kv, g1, g2, g3, _⟩ := E1.pop.ownDK h hal
    refine ⟨.ref p, g1, G1, E1.pop, fun y G2 H2 x2 E2 => ?_⟩
    have hy := E2.top.int_inv
    subst hy
    obtain ⟨p', kv', f1, f2, f3, f4⟩ := E2.pop.ownDK h hal
    have ep : p' = p := by
      have z := f1.symm.trans g1
      injection z with z
      injection z with z
      injection z
    subst ep
    have hl : kv'.length < sizeLine := by
      rw [rpe_len f3, List.length_map]
      exact hc
    exact ⟨p', _, rfl, DPut.k (k := Sum.inl k) (v := w) f2 hl, q σ G2 _ (x1.trans x2) (f4 _ _ (rpe_put f3 (E1.top.ex x2)))⟩
/-- k in d, k not in d -/
theorem je_dinK (i : Nat) {x : Str} {px : Pos} {l : Nat} {f : β → D} {kvs : List (Int × β)} {k : Int} (hu : X.A.units + 64 < cLine) (h : ρ[i]? = some (.own l (odK f kvs)) := by rfl) (hk : JP X B ρ a (.int k)) (hal : noAlis ρ = true := by rfl) (hN : X.N[i]? = some x := by rfl)
    (hvi : Vis X.env.scope x := by first | exact Or.inl rfl | exact Or.inr (Or.inl rfl) | exact Or.inr (Or.inr rfl)) (hd : (x == ("__debug__" : Str)) = false := by decide) (hcd : (x == ("__classdict__" : Str)) = false := by decide)
    (hm : behindInMarks .In (.Name x px) = false := by rfl) :
    JP X B ρ (.Compare a [.In] [.Name x px] pos) (.bool (hasK k kvs)) :=
  PE_imp (pe_cmp (pc_din (by omega) hk (pv (X := X) (pos := px) i hN hvi hd hcd)) hm) fun σ H Q ⟨G, E, q⟩ => by
    refine ⟨G, E, fun w G1 H1 x1 E1 => ?_⟩
    have hy := E1.top.int_inv
    subst hy
    obtain ⟨p, kv, g1, g2, g3, _⟩ := E1.pop.ownDK h hal
    refine ⟨.ref p, g1, p, _, rfl, DGet.k (k := Sum.inl k) g2, ?_⟩
    rw [valV_some, rpe_any g3]
    exact q _ G1 H1 x1 (E1.pop.push (.bl _))
theorem je_dniK (i : Nat) {x : Str} {px : Pos} {l : Nat} {f : β → D} {kvs : List (Int × β)} {k : Int} (hu : X.A.units + 64 < cLine) (h : ρ[i]? = some (.own l (odK f kvs)) := by rfl) (hk : JP X B ρ a (.int k)) (hal : noAlis ρ = true := by rfl) (hN : X.N[i]? = some x := by rfl)
    (hvi : Vis X.env.scope x := by first | exact Or.inl rfl | exact Or.inr (Or.inl rfl) | exact Or.inr (Or.inr rfl)) (hd : (x == ("__debug__" : Str)) = false := by decide) (hcd : (x == ("__classdict__" : Str)) = false := by decide)
    (hm : behindInMarks .NotIn (.Name x px) = false := by rfl) :
    JP X B ρ (.Compare a [.NotIn] [.Name x px] pos) (.bool (!hasK k kvs)) :=
  PE_imp (pe_cmp (pc_dnotin (by omega) hk (pv (X := X) (pos := px) i hN hvi hd hcd)) hm) fun σ H Q ⟨G, E, q⟩ => by
    refine ⟨G, E, fun w G1 H1 x1 E1 => ?_⟩
    have hy := E1.top.int_inv
    subst hy
    obtain ⟨p, kv, g1, g2, g3, _⟩ := E1.pop.ownDK h hal
    refine ⟨.ref p, g1, p, _, rfl, DGet.k (k := Sum.inl k) g2, ?_⟩
    rw [valV_some, rpe_any g3]
    exact q _ G1 H1 x1 (E1.pop.push (.bl _))
/-- list(range(i)), list(range(i, j)) -/
theorem rgV_rng (i j : Int) : rgV i j = (rng i j).map V.int := by
  unfold rgV rng
  rw [List.map_map]
  rfl
theorem je_lrg1 {p p2 pos2 : Pos} {i : Int} (hc : X.calm = true) (hm : X.mg "list" = none) (hm2 : X.mg "range" = none) (ha : JP X B ρ a (.int i)) (hg : Gl X "list" := by rfl) (hg2 : Gl X "range" := by rfl)
    (na : starEach [a] X.env = (false, eval a X.env) :: starEach [] X.env := by rfl) (nb : starEach [.Call (.Name "range" p2) [a] [] pos2] X.env = (false, eval (.Call (.Name "range" p2) [a] [] pos2) X.env) :: starEach [] X.env := by rfl) :
    JE X B ρ (.Call (.Name "list" p) [.Call (.Name "range" p2) [a] [] pos2] [] pos) (R.guard (RgOk 0 i)) (fun _ => .own 0 (oL D.int (rng 0 i))) (fun _ => ρ) :=
  PE_imp (pe_listRg hc hg hm (prg_1 hg2 hm2 ha na) nb) fun σ H Q ⟨G, E, q⟩ => by
    obtain ⟨hk, q⟩ := R.post_guard q
    refine ⟨G, E, fun v G1 H1 x1 E1 => ?_⟩
    have hn := E1.top.int_inv
    subst hn
    refine ⟨i, rfl, hk, fun p hp => q _ G1 _ x1 ?_⟩
    rw [rgV_rng]
    exact E1.pop.newL hp (RpAll.of_ints _)
/-- sorted(l), whole numbers -/
def sortI (ns : List Int) : List Int := ns.mergeSort (fun a b => decide (a ≤ b))
theorem sortI_perm (ns : List Int) : (sortI ns).Perm ns := List.mergeSort_perm ns _
theorem sortI_sorted (ns : List Int) : (sortI ns).Pairwise (· ≤ ·) := by
  have := List.pairwise_mergeSort (le := fun a b : Int => decide (a ≤ b)) (fun a b c h1 h2 => by
    simp at *
    omega) (fun a b => by
    simp
    omega) ns
  exact this.imp fun h => by simpa using h
theorem sorted_eq {a b : List Int} (h : a.Perm b) (ha : a.Pairwise (· ≤ ·)) (hb : b.Pairwise (· ≤ ·)) : a = b := h.eq_of_pairwise (fun x y _ _ h1 h2 => Int.le_antisymm h1 h2) ha hb
theorem cb_sortI {K : PySem.W.Frag} {ns : List Int} : CbD K B ρ (rSortedI K) [.val (eL D.int ns)] (.ok ()) (fun _ => .own 0 (oL D.int (sortI ns))) := fun G H σ vs Q E ok q => by
  obtain ⟨v, rfl, r⟩ := ok.one
  obtain ⟨p, ws, rfl, hS, hr⟩ := r.lst_inv
  have hr := hr.ints
  subst hr
  refine ⟨p, ns, rfl, .inl (E.sub.rd hS), fun ns' p' pm st hp => ?_⟩
  have e : ns' = sortI ns := sorted_eq (pm.trans (sortI_perm ns).symm) st (sortI_sorted ns)
  subst e
  exact q _ G _ (Ex.refl G) (E.newL hp (RpAll.of_ints _))
/-- owned rows given up -/
theorem je_frzLL {α : Type} {m : R β} {f : α → D} {v : β → List (List α)} {ρ' : β → List Slot} (h : JE X B ρ e m (fun b => .own 0 (oLL f (v b))) ρ') : JE X B ρ e m (fun b => .val (eL (eL f) (v b))) ρ' := by
  have := je_frz h
  simp only [toD_oLL] at this
  exact this
end
end DL

/-! DL28: stores at a place that is reckoned -/
namespace DL
open PySem PySem.Spec L2
theorem fl_odK {β : Type} {f : β → D} (h : ∀ x, Flat (f x)) (kvs : List (Int × β)) : FlatO (odK f kvs) := by
  rw [odK, FlatO]
  intro p m
  obtain ⟨q, _, e⟩ := List.mem_map.mp m
  subst e
  exact h q.2
section
variable {X : Cx} {B : Base} {ρ : List Slot} {pos : Pos}
theorem jg_subE (i : Nat) {x : Str} {px : Pos} {l : Nat} {α β : Type} {en : α → D} {xs : List α} {y : α} {m : R β} {k : β → Int} {o2 : Expr} (h : ρ[i]? = some (.own l (.lst ((xs.map en).map OT.dat))) := by rfl) (hk : JE X B ρ o2 m (fun b => .val (.int (k b))) (fun _ => ρ)) (hal : noAlis ρ = true := by rfl) (hN : X.N[i]? = some x := by rfl)
    (hv : Vis X.env.scope x := by first | exact Or.inl rfl | exact Or.inr (Or.inl rfl) | exact Or.inr (Or.inr rfl)) (hd : (x == ("__debug__" : Str)) = false := by decide) (hcd : (x == ("__classdict__" : Str)) = false := by decide)
    (ha : ∀ v, assign (.Subscript (.Name x px) o2 pos) X.env v = (do
      let ov ← holding [v] (eval (.Name x px) X.env)
      let iv ← holding [v, ov] (eval o2 X.env)
      standAt pos
      holding [v, ov, iv] (setItem ov iv v)
      release [v, ov, iv] []) := by intro _; rfl) :
    JG X B ρ (.Subscript (.Name x px) o2 pos) (en y) (m.bind fun b => R.some (ixN xs.length (k b))) (fun j => ρ.set i (.own l (.lst (((xs.set j y).map en).map OT.dat)))) :=
  PG_imp (pg_sub (pv i hN hv hd hcd) hk set_list ha) fun v σ H Q ⟨G, E, r, q⟩ => by
    obtain ⟨p, vs, e1, e2, e3, e4⟩ := E.ownD h hal
    refine ⟨.ref p, e1, G, E, R.post_mono (R.post_bind.mp q) fun b q w G1 H1 x1 E1 => ?_⟩
    obtain ⟨j, hj, q⟩ := R.post_some q
    have hn := E1.top.int_inv
    obtain ⟨p', vs', g1, g2, g3, g4⟩ := E1.pop.ownD h hal
    have ep : p' = p := by
      have z := g1.symm.trans e1
      injection z with z
      injection z with z
      injection z
    subst ep
    have hl : vs'.length = xs.length := by
      rw [g3.len, List.length_map]
    refine ⟨p', vs', k b, j, rfl, hn, g2, by rw [hl]; exact hj, q σ G1 _ x1 ?_⟩
    have rs : ∀ {vs : List V} {ds : List D} (j : Nat), RpAll X.K G1 vs ds → RpAll X.K G1 (vs.set j v) (ds.set j (en y)) := by
      intro vs ds j h
      induction ds generalizing vs j with
      | nil =>
        cases h
        exact .nil
      | cons d ds ih =>
        cases h with
        | cons h1 h2 =>
          cases j with
          | zero => exact .cons (r.ex x1) h2
          | succ j => exact .cons h1 (ih j h2)
    have := g4 G1 H1 [] (vs'.set j v) ((xs.map en).set j (en y)) E1.pop (Ex.refl _) g2 (rs j g3)
    rw [← List.map_set] at this
    exact this
end
end DL

/-! DL29: extend; owned lists of owned lists, more -/
namespace DL
open PySem PySem.Spec L2
def rExt3 : V → List V → Hp → VK → Prop := fun x vs H Q => ∃ l b xs zs, x = .ref l ∧ vs = [.ref b] ∧ H l = some (.lst xs) ∧ Rd H b (.lst zs) ∧ xs.length + zs.length ≤ sizeLine ∧ Q .non (upd H l (.lst (xs ++ zs)))
theorem mt_extend2 {X : Cx} : MtR X "list.extend" rExt3 := by
  intro pins s σ H x vs v us Q I rx rv hh
  obtain ⟨l, b, xs, zs, rfl, rfl, hL, hB, few, q⟩ := hh
  cases rx
  obtain ⟨u, rfl, ru⟩ := rv.one
  cases ru
  obtain ⟨z1, i1, n1, r1, e1⟩ := (show Rd H l (.lst xs) from .inl hL).ok I.hok
  obtain ⟨z2, i2, n2, r2, e2⟩ := hB.ok I.hok
  have l1 := r1.length
  have l2 := r2.length
  have both : i1.toArray.size + i2.toArray.size ≤ sizeLine := by
    rw [List.size_toArray, List.size_toArray]
    omega
  have no : ¬ (!i1.toArray.isEmpty && Builtin.List.listTooLong (i1.toArray.size + i2.toArray.size)) = true := by
    rw [notLongL both, Bool.and_false]
    decide
  refine call_meets PySem.F.slot_list_extend ⟨_, e1, rfl⟩ PySem.F.entry_list_extend (PySem.F.args_list_extend_2 _ _) (PySem.AutoSeq1.list_extend_list_list_0 l i1.toArray n1 b i2.toArray n2 no (by rw [List.size_toArray]; omega) (by omega)) ⟨e1, e2, ?_⟩
  refine ⟨.non, _, I.lset (its' := i1 ++ i2) hL e1 (by simp) (r1.append r2) ?_, rfl, q⟩
  rw [List.length_append]
  omega
theorem md_extend2 {K : PySem.W.Frag} {α : Type} {f : α → D} {xs ys : List α} : MtD K rExt3 (xs.map f) [eL f ys] (R.guard (xs.length + ys.length ≤ sizeLine)) (fun _ => .none) (fun _ => (xs ++ ys).map f) := fun G H a vs args Q rs e hH hr ha q => by
  obtain ⟨w, rfl, h2⟩ := rp1 ha
  obtain ⟨b, zs, rfl, hS, hr2⟩ := h2.lst_inv
  obtain ⟨c1, q⟩ := R.post_guard q
  refine ⟨a, b, vs, zs, rfl, rfl, hH, e.rd hS, by rw [hr.len, hr2.len, List.length_map, List.length_map]; exact c1, q _ _ .non ?_⟩
  rw [List.map_append]
  exact hr.append hr2
section
variable {X : Cx} {B : Base} {ρ : List Slot} {pos : Pos} {e : Expr}
theorem je_mapSO {α β S : Type} {m : R β} {on : α → OT} {v : β → α} {st : β → S} {ρ' : S → List Slot} (h : JE X B ρ e m (fun b => .own 0 (on (v b))) (fun b => ρ' (st b))) : JE X B ρ e (m.bind fun b => .ok (v b, st b)) (fun p => .own 0 (on p.1)) (fun p => ρ' p.2) :=
  PE_imp h fun σ H Q ⟨G, E, q⟩ => ⟨G, E, R.post_mono (R.post_bind.mp q) fun b k => k⟩
/-- rows.append(a new owned row) -/
theorem je_appOL (i : Nat) {x : Str} {px ap : Pos} {l l0 : Nat} {os0 : List OT} {β α : Type} {f : α → D} {m : R β} {y : β → List α} {ρ' : β → List Slot} (rows : β → List (List α)) (he : JE X B ρ e m (fun b => .own 0 (oL f (y b))) ρ') (h : ∀ b, (ρ' b)[i]? = some (.own l (oLL f (rows b))) := by intro _; rfl) (hal : ∀ b, noAlis (ρ' b) = true := by intro _; rfl)
    (h0 : ρ[i]? = some (.own l0 (.lst os0)) := by rfl) (hN : X.N[i]? = some x := by rfl) (hv : Vis X.env.scope x := by first | exact Or.inl rfl | exact Or.inr (Or.inl rfl) | exact Or.inr (Or.inr rfl))
    (hd : (x == ("__debug__" : Str)) = false := by decide) (hcd : (x == ("__classdict__" : Str)) = false := by decide) (hst : starEach [e] X.env = (false, eval e X.env) :: starEach [] X.env := by rfl)
    (hbase : attributeBase (.Name x px) "append" X.env (eval (.Name x px) X.env) = eval (.Name x px) X.env := by rfl)
    (hone : ((backTo pos (starEach [e] X.env)).all (fun x => !x.1) && (backToKw pos (keywordEach [] X.env)).all (fun x => x.1.isSome) && decide ([e].length + ([] : List Keyword).length + (if ([] : List Keyword).isEmpty then 0 else 1) < 30)) = true := by rfl)
    (hline : (ap.endLine == pos.line) = true := by rfl) (hnil : (backTo pos (starEach [] X.env)).any (·.1) = false := by rfl) :
    JE X B ρ (.Call (.Attribute (.Name x px) "append" ap) [e] [] pos) (m.bind fun b => (R.guard ((rows b).length < sizeLine)).bind fun _ => .ok b) (fun _ => .val .none) (fun b => (ρ' b).set i (.own l (oLL f (rows b ++ [y b])))) := by
  have k := je_appO (pos := pos) (px := px) (ap := ap) i (fun b => (rows b).map (oL f)) he h hal h0 hN hv hd hcd hst hbase hone hline hnil
  simp only [List.length_map] at k
  have e1 : (fun b => (ρ' b).set i (.own l (.lst ((rows b).map (oL f) ++ [oL f (y b)])))) = fun b => (ρ' b).set i (.own l (oLL f (rows b ++ [y b]))) := funext fun b => by
    rw [oLL, List.map_append]
    rfl
  rw [e1] at k
  exact k
/-- xs.extend(a new list) -/
theorem je_extO (i : Nat) {x : Str} {px ap : Pos} {l l0 : Nat} {os0 : List OT} {β α : Type} {f : α → D} {m : R β} {y : β → List α} {ρ' : β → List Slot} (xs : β → List α) (he : JE X B ρ e m (fun b => .own 0 (oL f (y b))) ρ') (h : ∀ b, (ρ' b)[i]? = some (.own l (oL f (xs b))) := by intro _; rfl) (hal : ∀ b, noAlis (ρ' b) = true := by intro _; rfl)
    (h0 : ρ[i]? = some (.own l0 (.lst os0)) := by rfl) (hN : X.N[i]? = some x := by rfl) (hv : Vis X.env.scope x := by first | exact Or.inl rfl | exact Or.inr (Or.inl rfl) | exact Or.inr (Or.inr rfl))
    (hd : (x == ("__debug__" : Str)) = false := by decide) (hcd : (x == ("__classdict__" : Str)) = false := by decide) (hst : starEach [e] X.env = (false, eval e X.env) :: starEach [] X.env := by rfl)
    (hbase : attributeBase (.Name x px) "extend" X.env (eval (.Name x px) X.env) = eval (.Name x px) X.env := by rfl)
    (hone : ((backTo pos (starEach [e] X.env)).all (fun x => !x.1) && (backToKw pos (keywordEach [] X.env)).all (fun x => x.1.isSome) && decide ([e].length + ([] : List Keyword).length + (if ([] : List Keyword).isEmpty then 0 else 1) < 30)) = true := by rfl)
    (hline : (ap.endLine == pos.line) = true := by rfl) (hnil : (backTo pos (starEach [] X.env)).any (·.1) = false := by rfl) :
    JE X B ρ (.Call (.Attribute (.Name x px) "extend" ap) [e] [] pos) (m.bind fun b => (R.guard ((xs b).length + (y b).length ≤ sizeLine)).bind fun _ => .ok b) (fun _ => .val .none) (fun b => (ρ' b).set i (.own l (oL f (xs b ++ y b)))) :=
  PE_imp (pe_bm PySem.F.plainAttrs_list PySem.F.slot_list_extend PySem.F.type_list_extend mt_extend2 (pv (X := X) (pos := px) i hN hv hd hcd) (pa_cons he pa_nil hst) hbase hone hline hst hnil) fun σ H Q ⟨G, E, q⟩ => by
    obtain ⟨A, c, n, g⟩ := E.own
    obtain ⟨v, A1, A2, e1, hO, hl, c2, pm⟩ := Cells.take1 (show Cells X.K B G H σ ρ A from c) h0
    cases hO with
    | @lst a ws _ A3 ha hall =>
      refine ⟨.ref a, e1, .inl ⟨rfl, _, .inl (.inl ha)⟩, G, E, R.post_mono (R.post_bind.mp q) fun b q w G1 H1 x1 E1 => ?_⟩
      obtain ⟨hc, q⟩ := R.post_guard (R.post_bind.mp q)
      obtain ⟨G2, x2, E2⟩ := E1.frz
      have tp := E2.top
      rw [oL_toD] at tp
      obtain ⟨z, zs, rfl, hS, hr⟩ := tp.lst_inv
      obtain ⟨p, vs, g1, g2, g3, g4⟩ := E2.pop.ownD (h b) (hal b)
      have ep : p = a := by
        have z := g1.symm.trans e1
        injection z with z
        injection z with z
        injection z
      subst ep
      have E3 := g4 G2 H1 [] (vs ++ zs) ((xs b).map f ++ (y b).map f) E2.pop (Ex.refl _) g2 (g3.append hr)
      rw [← List.map_append] at E3
      exact ⟨p, z, vs, zs, rfl, rfl, g2, E2.sub.rd hS, by rw [g3.len, hr.len, List.length_map, List.length_map]; exact hc, q _ G2 _ (x1.trans x2) (E3.push .non)⟩
end
end DL

/-! DL30: an owned list held at its place; walked while it is owned -/
namespace DL
open PySem PySem.Spec L2
def labFree (L : Nat) : List Slot → Bool
  | [] => true
  | .own l _ :: r => l != L && labFree L r
  | _ :: r => labFree L r
def labFree1 (L : Nat) : Slot → Bool
  | .own l _ => l != L
  | _ => true
theorem labFree_cons {L : Nat} {s : Slot} {r : List Slot} : labFree L (s :: r) = (labFree1 L s && labFree L r) := by
  cases s <;> simp [labFree, labFree1]
def Base.pin (B : Base) (L : Nat) (hL : L ≠ 0) (A : List Addr) (v : V) : Base :=
  { B with Mo := fun l => if l = L then B.Mo l ++ A else B.Mo l, m0 := by rw [if_neg (fun h => hL h.symm)]; exact B.m0, pv := fun l => if l = L then some v else B.pv l }
section
variable {K : PySem.W.Frag} {B : Base} {G H : Hp} {σ : L2.St} {ρ : List Slot} {ex : List (V × Slot)} {L : Nat} {hL : L ≠ 0} {A : List Addr} {v : V}
theorem Anc.pin (h : Anc B G H) (hA : ∀ a ∈ A, H a ≠ none) : Anc (B.pin L hL A v) G H := by
  refine ⟨fun a o hm e => h.keep a o (fun l m => hm l ?_) e, fun a l m => ?_, h.gsub, h.gnew, h.sub⟩
  · show a ∈ (if l = L then B.Mo l ++ A else B.Mo l)
    split
    · exact List.mem_append_left _ m
    · exact m
  · have m : a ∈ (if l = L then B.Mo l ++ A else B.Mo l) := m
    split at m
    · rcases List.mem_append.mp m with m | m
      · exact h.there a l m
      · exact hA a m
    · exact h.there a l m
theorem Anc.unpin (h : Anc (B.pin L hL A v) G H) (h0 : ∀ a ∈ A, B.H0 a = none) : Anc B G H := by
  refine ⟨fun a o hm e => h.keep a o (fun l m => ?_) e, fun a l m => h.there a l ?_, h.gsub, h.gnew, h.sub⟩
  · have m : a ∈ (if l = L then B.Mo l ++ A else B.Mo l) := m
    split at m
    · rcases List.mem_append.mp m with m | m
      · exact hm l m
      · rw [h0 a m] at e
        cases e
    · exact hm l m
  · show a ∈ (if l = L then B.Mo l ++ A else B.Mo l)
    split
    · exact List.mem_append_left _ m
    · exact m
theorem Cell.pin {x : Option V} {s : Slot} {A1 : List Addr} (h : Cell K B G H x s A1) (hf : labFree1 L s = true) : Cell K (B.pin L hL A v) G H x s A1 := by
  cases h with
  | non => exact .non
  | val r => exact .val r
  | ali => exact .ali
  | @own w l o _ hO hr hp =>
    have hl : l ≠ L := by simpa [labFree1] using hf
    refine .own hO (fun a m => ?_) (hp.imp id fun z => ?_)
    · rcases hr a m with z | z
      · refine .inl ?_
        show a ∈ (if l = L then B.Mo l ++ A else B.Mo l)
        rw [if_neg hl]
        exact z
      · exact .inr z
    · show (if l = L then some v else B.pv l) = _
      rw [if_neg hl]
      exact z
theorem Cell.unpin {x : Option V} {s : Slot} {A1 : List Addr} (h : Cell K (B.pin L hL A v) G H x s A1) (hf : labFree1 L s = true) : Cell K B G H x s A1 := by
  cases h with
  | non => exact .non
  | val r => exact .val r
  | ali => exact .ali
  | @own w l o _ hO hr hp =>
    have hl : l ≠ L := by simpa [labFree1] using hf
    refine .own hO (fun a m => ?_) (hp.imp id fun z => ?_)
    · rcases hr a m with z | z
      · refine .inl ?_
        have z : a ∈ (if l = L then B.Mo l ++ A else B.Mo l) := z
        rw [if_neg hl] at z
        exact z
      · exact .inr z
    · have z : (if l = L then some v else B.pv l) = some w := z
      rw [if_neg hl] at z
      exact z
theorem Cells.pin : ∀ {τ : List (Option V)} {r : List Slot} {A1 : List Addr}, Cells K B G H τ r A1 → labFree L r = true → Cells K (B.pin L hL A v) G H τ r A1
  | _, _, _, .nil, _ => .nil
  | _, _, _, .cons c r, hf => by
    rw [labFree_cons, Bool.and_eq_true] at hf
    exact .cons (c.pin hf.1) (Cells.pin r hf.2)
theorem Cells.unpin : ∀ {τ : List (Option V)} {r : List Slot} {A1 : List Addr}, Cells K (B.pin L hL A v) G H τ r A1 → labFree L r = true → Cells K B G H τ r A1
  | _, _, _, .nil, _ => .nil
  | _, _, _, .cons c r, hf => by
    rw [labFree_cons, Bool.and_eq_true] at hf
    exact .cons (c.unpin hf.1) (Cells.unpin r hf.2)
theorem labFree_append : ∀ {a b : List Slot}, labFree L (a ++ b) = (labFree L a && labFree L b)
  | [], _ => by simp [labFree]
  | x :: a, b => by
    rw [List.cons_append, labFree_cons, labFree_cons, labFree_append, Bool.and_assoc]
theorem labFree_set : ∀ {r : List Slot} {i : Nat} {s : Slot}, labFree L r = true → labFree1 L s = true → labFree L (r.set i s) = true
  | [], _, _, _, _ => rfl
  | x :: r, 0, s, h, k => by
    rw [labFree_cons, Bool.and_eq_true] at h
    rw [List.set_cons_zero, labFree_cons, k, h.2]
    rfl
  | x :: r, i + 1, s, h, k => by
    rw [labFree_cons, Bool.and_eq_true] at h
    rw [List.set_cons_succ, labFree_cons, h.1, labFree_set h.2 k]
    rfl
/-- what an owned slot holds is named -/
theorem En.pin (E : En K B G H σ ρ []) {i : Nat} {o : OT} (h : ρ[i]? = some (.own 0 o)) (hf : labFree L ρ = true) (hal : noAlis ρ = true) (hL : L ≠ 0) :
    ∃ B' : Base, B'.rs = B.rs ∧ En K B' G H σ (ρ.set i (.own L o)) [] ∧ ∀ G1 H1 σ1 ρ1 ex1, En K B' G1 H1 σ1 ρ1 ex1 → labFree L (ex1.map (·.2) ++ ρ1) = true → En K B G1 H1 σ1 ρ1 ex1 := by
  obtain ⟨A0, c, n, g⟩ := E.own
  have c : Cells K B G H σ ρ A0 := c
  obtain ⟨v, A, A2, e1, hO, ⟨hl, hp⟩, c2, pm⟩ := Cells.take1 c h
  have hi : i < ρ.length := (List.getElem?_eq_some_iff.mp h).1
  have h0 : ∀ a ∈ A, B.H0 a = none := fun a m => (hl a m).resolve_left (by rw [B.m0]; exact fun z => nomatch z)
  have c3 : Cells K (B.pin L hL A v) G H σ (ρ.set i .non) A2 := Cells.pin c2 (labFree_set hf rfl)
  obtain ⟨A3, c4, p4⟩ := c3.put1 (i := i) (l := L) (o := o) (v := v) (A1 := A) (by rw [List.getElem?_set_self hi]) e1 hO ⟨fun a m => .inl (by
    show a ∈ (if L = L then B.Mo L ++ A else B.Mo L)
    rw [if_pos rfl]
    exact List.mem_append_right _ m), .inr (by
    show (if L = L then some v else B.pv L) = some v
    rw [if_pos rfl])⟩
  rw [List.set_set] at c4
  have pp : A3.Perm A0 := p4.trans pm.symm
  refine ⟨B.pin L hL A v, rfl, ⟨E.anc.pin fun a m z => ?_, ⟨A3, c4, pp.nodup_iff.mpr n, fun a m => g a (pp.mem_iff.mp m)⟩, by rw [List.length_set]; exact E.len, fun k j p e => ?_⟩, fun G1 H1 σ1 ρ1 ex1 E1 hf1 => ?_⟩
  · obtain ⟨u, hu⟩ := hO.there a m
    rw [hu] at z
    cases z
  · by_cases hk : i = k
    · subst hk
      rw [List.getElem?_set_self hi] at e
      cases e
    · rw [List.getElem?_set_ne hk] at e
      exact absurd e (noAlis_get hal)
  · obtain ⟨A5, c5, n5, g5⟩ := E1.own
    exact ⟨E1.anc.unpin h0, ⟨A5, Cells.unpin c5 hf1, n5, g5⟩, E1.len, E1.ali⟩
theorem En.pvAt (E : En K B G H σ ρ ex) {i : Nat} {o : OT} (h : ρ[i]? = some (.own L o)) (hL : L ≠ 0) : ∃ v, σ[i]? = some (some v) ∧ B.pv L = some v := by
  obtain ⟨A, c, n, g⟩ := E.own
  obtain ⟨v, A1, A2, e1, hO, ⟨hl, hp⟩, c2, pm⟩ := c.take1 (i := ex.length + i) (l := L) (o := o) (by
    rw [List.getElem?_append_right (by simp), List.length_map]
    simpa using h)
  rw [List.getElem?_append_right (by simp), List.length_map] at e1
  exact ⟨v, by simpa using e1, hp.resolve_left hL⟩
end
section
variable {X : Cx} {B : Base} {ρ : List Slot} {pos : Pos} {tg : Expr}
theorem js_pin (i L : Nat) {N1 L1 T : Type} {ss : List Stmt} {m : R (Fl N1 L1 T)} {F : Fin N1 L1 T} {o : OT} (h : ρ[i]? = some (.own 0 o) := by rfl) (r : ∀ B' : Base, B'.rs = B.rs → JSs X B' (ρ.set i (.own L o)) ss m F) (hf : labFree L ρ = true := by rfl) (hal : noAlis ρ = true := by rfl) (hL : L ≠ 0 := by decide)
    (fn : ∀ n, labFree L (F.n n) = true := by intro _; rfl) (fc : ∀ n, labFree L (F.c n) = true := by intro _; rfl) (fk : ∀ n, labFree L (F.k n) = true := by intro _; rfl) (ft : ∀ t, labFree L (F.s t :: F.t t) = true := by intro _; rfl) : JSs X B ρ ss m F :=
  ⟨fun pins s σ H Dn I ⟨G, E, q⟩ => by
    obtain ⟨B', hB, E', back⟩ := E.pin h hf hal hL
    refine (r B' hB).run pins s σ H Dn I ⟨G, E', ?_⟩
    rw [hB]
    refine R.post_mono q fun fl q1 => ?_
    cases fl with
    | nx n => exact fun σ1 G1 H1 x E1 => q1 σ1 G1 H1 x (back _ _ _ _ _ E1 (fn n))
    | ct n => exact fun σ1 G1 H1 x E1 => q1 σ1 G1 H1 x (back _ _ _ _ _ E1 (fc n))
    | bk n => exact fun σ1 G1 H1 x E1 => q1 σ1 G1 H1 x (back _ _ _ _ _ E1 (fk n))
    | rt t => exact fun v σ1 G1 H1 x E1 => q1 v σ1 G1 H1 x (back _ _ _ _ _ E1 (ft t))⟩
/-- for .. in xs, xs an owned list held at its place -/
theorem js_forO (i L : Nat) {x : Str} {px : Pos} {α S L1 T : Type} {xs : List α} {en : α → D} {s0 : S} (ρS : S → List Slot) (ρB : α → S → List Slot) {f : α → S → R (Fl S S T)} {F : Fin S L1 T} {body : List Stmt} (hp : PassesOwn (model X.prog X.w) X.A X.env X.xe) (hc : X.calm = true)
    (h : ∀ s, (ρS s)[i]? = some (.own L (oL en xs)) := by intro _; rfl) (bs : List Bool) (hw : forgot ρ bs = ρS s0) (hg : ∀ x s, JG X B (ρS s) tg (en x) (.ok ()) (fun _ => ρB x s))
    (hb : ∀ x s, JSs X B (ρB x s) body (f x s) ⟨ρS, ρS, ρS, F.s, F.t⟩) (hn : F.n = ρS := by rfl) (hs : ∀ v, foldedSetIterable (.Name x px) X.env v = pure v := by intro _; rfl)
    (h0 : ρ[i]? = some (.own L (oL en xs)) := by rfl) (hal0 : noAlis ρ = true := by rfl) (hal : ∀ s, noAlis (ρS s) = true := by intro _; rfl) (hL : L ≠ 0 := by decide) (hN : X.N[i]? = some x := by rfl) (hv : Vis X.env.scope x := by first | exact Or.inl rfl | exact Or.inr (Or.inl rfl) | exact Or.inr (Or.inr rfl))
    (hd : (x == ("__debug__" : Str)) = false := by decide) (hcd : (x == ("__classdict__" : Str)) = false := by decide) : JS X B ρ (.For tg (.Name x px) body [] pos) (forR f xs s0) F := by
  have hg' : PG X tg (fun v σ H Q => ∃ x s, tJG X.K B (ρS s) (en x) (.ok ()) (fun _ => ρB x s) v σ H Q) := ⟨fun pins s σ H v u Q I r ⟨x, s', q⟩ => (hg x s').run pins s σ H v u Q I r q⟩
  have hb' : PSs X body (fun D σ H => ∃ x s, tJS X.K B (ρB x s) (f x s) ⟨ρS, ρS, ρS, F.s, F.t⟩ D σ H) := ⟨fun pins s σ H D I ⟨x, s', q⟩ => (hb x s').run pins s σ H D I q⟩
  refine PS_imp (ps_for hp hc (pi_list (pv (X := X) (pos := px) i hN hv hd hcd)) hg' hb' hs) fun Dn σ H ⟨G, E, q⟩ => ?_
  obtain ⟨p, vs0, e1, e2, e3, _⟩ := E.ownD h0 hal0
  obtain ⟨v1, k1, k2⟩ := E.pvAt h0 hL
  have ev : v1 = .ref p := by
    rw [e1] at k1
    injection k1 with k1
    injection k1 with k1
    exact k1.symm
  subst ev
  refine ⟨.ref p, e1, p, rfl, ⟨vs0, .inl (.inl e2)⟩, ?_⟩
  have at_ : ∀ {G1 H1 : Hp} {σ1 : L2.St} {s : S} {ex : List (V × Slot)}, En X.K B G1 H1 σ1 (ρS s) ex → ∃ vs, H1 p = some (.lst vs) ∧ RpAll X.K G1 vs (xs.map en) := fun {G1 H1 σ1 s ex} E1 => by
    obtain ⟨p', vs, f1, f2, f3, _⟩ := E1.ownD (h s) (hal s)
    obtain ⟨v2, k3, k4⟩ := E1.pvAt (h s) hL
    rw [k2] at k4
    injection k4 with k4
    subst k4
    rw [f1] at k3
    injection k3 with k3
    injection k3 with k3
    injection k3 with k3
    subst k3
    exact ⟨vs, f2, f3⟩
  let W : Nat → L2.St → Hp → Prop := fun i σ' H1 => ∃ G1 s, Ex G G1 ∧ En X.K B G1 H1 σ' (ρS s) [] ∧ (forR f (xs.drop i) s).post (flP X.K B G1 Dn F) B.rs
  refine ⟨fun i mm σ' H1 => mm = xs.length - i ∧ i ≤ xs.length ∧ W i σ' H1, ⟨_, rfl, Nat.zero_le _, G, s0, Ex.refl _, by rw [← hw]; exact E.forgot bs, q⟩, ?_⟩
  rintro i mm σ1 H1 ⟨rfl, hi1, G1, s, x1, E1, q2⟩
  obtain ⟨vs, f2, f3⟩ := at_ E1
  have hlen : vs.length = xs.length := by rw [f3.len, List.length_map]
  have nxt : ∀ G2 s', Ex G G2 → i < xs.length → (forR f (xs.drop (i + 1)) s').post (flP X.K B G2 Dn F) B.rs → ∀ σ' G3 H', Ex G2 G3 → En X.K B G3 H' σ' (ρS s') [] → W (i + 1) σ' H' := fun G2 s' y hlt h σ' G3 H' z E3 => ⟨G3, s', y.trans z, E3, R.post_mono h fun fl h => flP_ex h z⟩
  by_cases hlt : i < xs.length
  · refine .inr ⟨⟨vs, vs[i]'(by omega), .inl (.inl f2), List.getElem?_eq_getElem _⟩, fun σ' H' => W (i + 1) σ' H', fun σ' H' w => ⟨_, ?_, rfl, hlt, w⟩, fun v H2 hy => ?_⟩
    · omega
    · obtain ⟨rfl, hf⟩ := hy
      have hx := hf vs (.inl (.inl f2))
      obtain ⟨d, hd1, hd2⟩ := f3.getV hx
      rw [List.getElem?_map, List.getElem?_eq_getElem hlt] at hd1
      injection hd1 with hd1
      subst hd1
      rw [List.drop_eq_getElem_cons hlt] at q2
      refine ⟨xs[i], s, G1, E1, hd2, fun σ' G3 H3 x3 E3 => ⟨xs[i], s, G3, E3, R.post_mono (R.post_bind.mp q2) fun fl q3 => ?_⟩⟩
      have up : ∀ {m' : R (Fl S L1 T)}, m'.post (flP X.K B G1 Dn F) B.rs → m'.post (flP X.K B G3 Dn F) B.rs := fun h => R.post_mono h fun fl h => flP_ex h x3
      cases fl with
      | nx s' => exact nxt G3 s' (x1.trans x3) hlt (up q3)
      | ct s' => exact nxt G3 s' (x1.trans x3) hlt (up q3)
      | bk s' =>
        intro σ4 G4 H4 x4 E4
        have q3 : flP X.K B G1 Dn F (.nx s') := q3
        refine q3 σ4 G4 H4 (x3.trans x4) ?_
        rw [hn]
        exact E4
      | rt t =>
        intro v σ4 G4 H4 x4 E4
        have q3 : flP X.K B G1 Dn F (.rt t) := q3
        exact q3 v σ4 G4 H4 (x3.trans x4) E4
  · refine .inl ⟨⟨vs, .inl (.inl f2), by omega⟩, ?_⟩
    rw [List.drop_eq_nil_of_le (by omega)] at q2
    have q2 : flP X.K B G1 Dn F (.nx s) := q2
    refine q2 σ1 G1 H1 (Ex.refl _) ?_
    rw [hn]
    exact E1
end
end DL

/-! DL31: a new owned thing handed to a def -/
namespace DL
open PySem PySem.Spec L2
section
variable {K : PySem.W.Frag} {B : Base} {G H : Hp} {σ : L2.St} {ρ : List Slot} {ex : List (V × Slot)}
theorem Cells.snoc {x : Option V} {s : Slot} {A1 : List Addr} : ∀ {σ : L2.St} {ρ : List Slot} {A : List Addr}, Cells K B G H σ ρ A → Cell K B G H x s A1 → Cells K B G H (σ ++ [x]) (ρ ++ [s]) (A ++ A1)
  | _, _, _, .nil, h => by
    have := Cells.cons h (Cells.nil (K := K) (B := B) (G := G) (H := H))
    rw [List.append_nil] at this
    exact this
  | _, _, _, .cons c r, h => by
    rw [List.append_assoc]
    exact .cons c (Cells.snoc r h)
theorem Cells.unsnoc : ∀ {σ : L2.St} {ρ : List Slot} {x : Option V} {s : Slot} {A : List Addr}, Cells K B G H (σ ++ [x]) (ρ ++ [s]) A → σ.length = ρ.length → ∃ A', Cells K B G H σ ρ A' ∧ A'.Sublist A
  | [], [], _, _, _, _, _ => ⟨[], .nil, List.nil_sublist _⟩
  | _ :: σ, _ :: ρ, _, _, _, .cons (A := A1) c r, hl => by
    obtain ⟨A', h1, h2⟩ := Cells.unsnoc (σ := σ) (ρ := ρ) r (by simpa using hl)
    exact ⟨A1 ++ A', .cons c h1, h2.append_left _⟩
  | [], _ :: _, _, _, _, _, hl => by simp at hl
  | _ :: _, [], _, _, _, _, hl => by simp at hl
/-- a temp becomes a slot behind the others -/
theorem En.toSlot {v : V} {o : OT} (E : En K B G H σ ρ [(v, .own 0 o)]) (hal : noAlis ρ = true) : En K B G H (σ ++ [some v]) (ρ ++ [.own 0 o]) [] := by
  obtain ⟨A0, c, n, g⟩ := E.own
  cases c with
  | @cons _ _ A1 _ _ A2 c1 cr =>
    have c3 := Cells.snoc (show Cells K B G H σ ρ A2 from cr) c1
    have pm : (A2 ++ A1).Perm (A1 ++ A2) := List.perm_append_comm
    refine ⟨E.anc, ⟨A2 ++ A1, c3, pm.nodup_iff.mpr n, fun a m => g a (pm.mem_iff.mp m)⟩, by simp [E.len], fun k j p e => ?_⟩
    by_cases hk : k < ρ.length
    · rw [List.getElem?_append_left hk] at e
      exact absurd e (noAlis_get hal)
    · rw [List.getElem?_append_right (by omega)] at e
      match h : k - ρ.length, e with
      | 0, e => simp at e
      | _ + 1, e => simp at e
theorem En.dropSlot {x : Option V} {s : Slot} {v : V} {s' : Slot} (E : En K B G H (σ ++ [x]) (ρ ++ [s]) [(v, s')]) (hal : noAlis ρ = true) (hl : σ.length = ρ.length) : En K B G H σ ρ [(v, s')] := by
  obtain ⟨A0, c, n, g⟩ := E.own
  cases c with
  | @cons _ _ A1 _ _ A2 c1 cr =>
    obtain ⟨A', h1, h2⟩ := Cells.unsnoc (show Cells K B G H (σ ++ [x]) (ρ ++ [s]) A2 from cr) hl
    have sub : (A1 ++ A').Sublist (A1 ++ A2) := h2.append_left A1
    exact ⟨E.anc, ⟨A1 ++ A', .cons c1 h1, sub.nodup n, fun a m => g a (sub.subset m)⟩, hl, fun k j p e => absurd e (noAlis_get hal)⟩
theorem insAt_vals : ∀ {as : List Ar} {n : Nat} {ρ ρ' : List Slot}, noSlots as = true → insAt n ρ as = insAt n ρ' as
  | [], _, _, _, _ => by rw [insAt, insAt]
  | .val d :: as, n, ρ, ρ', h => by
    rw [insAt, insAt, insAt_vals (as := as) (ρ := ρ) (ρ' := ρ') h]
theorem goodIn_vals : ∀ {as : List Ar} {ρ : List Slot}, noSlots as = true → goodIn ρ as = true
  | [], _, _ => by rw [goodIn]
  | .val d :: as, ρ, h => by
    rw [goodIn]
    exact goodIn_vals (as := as) h
theorem ArOk.re {σ' : L2.St} : ∀ {vs : List V} {as : List Ar}, ArOk K G σ vs as → noSlots as = true → ArOk K G σ' vs as
  | _, _, .nil, _ => .nil
  | _, _, .val r q, h => .val r (ArOk.re q h)
theorem noAlis_snoc : ∀ {ρ : List Slot} {l : Nat} {o : OT}, noAlis ρ = true → noAlis (ρ ++ [.own l o]) = true
  | [], _, _, _ => rfl
  | s :: ρ, l, o, h => by
    cases s with
    | ali _ _ => simp [noAlis] at h
    | non => exact noAlis_snoc (ρ := ρ) h
    | val _ => exact noAlis_snoc (ρ := ρ) h
    | own _ _ => exact noAlis_snoc (ρ := ρ) h
end
section
variable {X : Cx} {B : Base} {ρ : List Slot} {e0 : Expr} {es : List Expr} {pos : Pos} {CX : CXT} {k : Nat} {f : Addr} {fd : FuncData} {ps : List Str} {EE : XK} {x : Str} {p : Pos}
/-- f(e0, ..): e0 a new owned thing, the others data -/
theorem je_callT {α β γ : Type} {ins : α → List Slot} {mf : α → R β} {sl : β → Slot} {outs : β → List Slot} (F : FnG X.prog X.w X.K X.mg X.base CX k f fd ps (spM X.K ins mf sl outs)) (hr : RoomG k X.A) (hg : Gl X x) (hm : X.mg x = some (.ref f)) (hk : PySem.W.keepIn X.K (.ref f) = true)
    (hb : Binds X.K fd ps []) (hx : Passes CX X EE) {m0 : R γ} {o : γ → OT} {ρa : γ → List Slot} {as : γ → List Ar} (arg : γ → α) (he0 : JE X B ρ e0 m0 (fun c => .own 0 (o c)) ρa) (has : ∀ B' : Base, B'.rs = B.rs → ∀ c, JA X B' (ρa c) es (.ok ()) (fun _ => as c) (fun _ => ρa c)) (hne : ∀ e, ¬ B.rs e)
    (hns : ∀ c, noSlots (as c) = true := by intro _; rfl) (hins : ∀ c, insAt 0 [.own 0 (o c)] (.slot 0 :: as c) = ins (arg c) := by intro _; rfl)
    (ho : ∀ c b, goodOut 0 (.slot 0 :: as c) (outs b) = true := by intro _ _; rfl) (hal : ∀ c, noAlis (ρa c) = true := by intro _; rfl) (hres : ∀ b, resOk (sl b) = true := by intro _; rfl)
    (hdb : (x == ("__debug__" : Str)) = false := by decide) (he : starEach (e0 :: es) X.env = (false, eval e0 X.env) :: starEach es X.env := by rfl) (hpl : (backTo pos (starEach es X.env)).any (·.1) = false := by rfl) :
    JE X B ρ (.Call (.Name x p) (e0 :: es) [] pos) (m0.bind fun c => (mf (arg c)).bind fun b => .ok (c, b)) (fun y => sl y.2) (fun y => ρa y.1) := by
  have has' : PA X es (fun σ H Q => ∃ B' c, B'.rs = B.rs ∧ tJA X.K B' (ρa c) (.ok ()) (fun _ : Unit => as c) (fun _ => ρa c) σ H Q) := ⟨fun ps pins s σ H Q I ⟨B', c, hB, q⟩ => (has B' hB c).run ps pins s σ H Q I q⟩
  refine PE_imp (pe_callG F hr hg hm hk hb hx (pa_cons he0 has' he) hdb he hpl) fun σ H Q ⟨G, E, q⟩ => ⟨G, E, R.post_mono (R.post_bind.mp q) fun c k v G1 H1 x1 E1 => ?_⟩
  obtain ⟨B', hB, E2, back⟩ := E1.aside
  refine ⟨B', c, hB, G1, E2, fun vs G2 H2 x2 E3 ok => ?_⟩
  show spM X.K ins mf sl outs ((v :: vs) ++ []) H2 Q EE
  rw [List.append_nil]
  have E4 := back G2 H2 σ (ρa c) [] x2 E3 (hal c)
  have hl : σ.length = (ρa c).length := E4.len
  have E5 := E4.toSlot (hal c)
  have n0 : (ρa c ++ [Slot.own 0 (o c)])[(ρa c).length]? = some (.own 0 (o c)) := by
    rw [List.getElem?_append_right (Nat.le_refl _), Nat.sub_self]
    rfl
  have s0 : (σ ++ [some v])[(ρa c).length]? = some (some v) := by
    rw [← hl, List.getElem?_append_right (Nat.le_refl _), Nat.sub_self]
    rfl
  have ok5 : ArOk X.K G2 (σ ++ [some v]) (v :: vs) (.slot (ρa c).length :: as c) := .slot s0 (ok.re (hns c))
  refine call_sp (arg c) E5 ok5 ?_ ?_ (fun b => ?_) ?_ hres hne (R.post_mono (R.post_bind.mp k) fun b k v' G3 H3 x3 E6 => k v' G3 H3 (x1.trans (x2.trans x3)) ?_)
  · rw [goodIn, n0, goodIn_vals (hns c)]
    rfl
  · rw [← hins c, insAt, insAt, n0, insAt_vals (hns c) (ρ := (ρa c ++ [Slot.own 0 (o c)]).set (ρa c).length .non) (ρ' := [Slot.own 0 (o c)].set 0 .non)]
    rfl
  · have := ho c b
    rw [← this]
    cases outs b with
    | nil => rfl
    | cons s os => rfl
  · unfold aliOk
    rw [noAlis_snoc (hal c), Bool.or_true]
  · have e2 : ∀ os : List Slot, ∃ s', backAt (ρa c ++ [Slot.own 0 (o c)]) (movedAt (ρa c ++ [Slot.own 0 (o c)]) (.slot (ρa c).length :: as c)) (.slot (ρa c).length :: as c) os = ρa c ++ [s'] := fun os => by
      rw [movedAt, movedAt_noSlots (hns c)]
      have e3 : ∀ t : Slot, (ρa c ++ [Slot.own 0 (o c)]).set (ρa c).length t = ρa c ++ [t] := fun t => by
        rw [List.set_append_right _ _ (Nat.le_refl _), Nat.sub_self]
        rfl
      cases os with
      | nil =>
        rw [backAt, e3]
        · exact ⟨_, rfl⟩
        · exact fun h => nomatch h
      | cons s os =>
        rw [backAt, backAt_noSlots (hns c), e3, List.set_append_right _ _ (Nat.le_refl _), Nat.sub_self]
        exact ⟨_, rfl⟩
    obtain ⟨s', e4⟩ := e2 (outs b)
    rw [e4] at E6
    exact E6.dropSlot (hal c) hl
end
/-- a whole number in a tuple of such -/
theorem inV_int (k : Int) : ∀ ns : List Int, inV (.int k) (ns.map V.int) = hasL k ns
  | [] => rfl
  | n :: ns => by
    have ih := inV_int k ns
    have e1 : inV (V.int k) ((n :: ns).map V.int) = (eqV (V.int n) (V.int k) || inV (V.int k) (ns.map V.int)) := rfl
    have e2 : eqV (V.int n) (V.int k) = decide (n = k) := by
      simp only [eqV]
      exact Bool.beq_eq_decide_eq ..
    rw [e1, e2, ih, Bool.eq_iff_iff, Bool.or_eq_true, decide_eq_true_eq, hasL_iff, hasL_iff, List.mem_cons]
    exact ⟨fun h => h.imp Eq.symm id, fun h => h.imp Eq.symm id⟩
theorem od_inTI {K : PySem.W.Frag} {B : Base} {k : Int} {ns : List Int} : OpD K B (rIn K false) (.int k) (eT D.int ns) (.ok ()) (fun _ => .val (.bool (hasL k ns))) := od_val0 (w := .bl (hasL k ns)) (fun G H vx vy Q e hx hy q => by
  have hx := hx.int_inv
  subst hx
  obtain ⟨a, xs, rfl, hS, hr⟩ := hy.tup_inv
  have hr := hr.ints
  subst hr
  refine ⟨a, _, rfl, .inr (e.t hS), rfl, ints_flat _, ?_⟩
  rw [inV_int]
  exact q) fun _ => .bl _
theorem od_niTI {K : PySem.W.Frag} {B : Base} {k : Int} {ns : List Int} : OpD K B (rIn K true) (.int k) (eT D.int ns) (.ok ()) (fun _ => .val (.bool (!hasL k ns))) := od_val0 (w := .bl (!hasL k ns)) (fun G H vx vy Q e hx hy q => by
  have hx := hx.int_inv
  subst hx
  obtain ⟨a, xs, rfl, hS, hr⟩ := hy.tup_inv
  have hr := hr.ints
  subst hr
  refine ⟨a, _, rfl, .inr (e.t hS), rfl, ints_flat _, ?_⟩
  rw [inV_int]
  exact q) fun _ => .bl _
section
variable {X : Cx} {B : Base} {ρ : List Slot} {pos : Pos} {a : Expr} {β : Type}
theorem je_nameO (i : Nat) {x : Str} {o : OT} (h : ρ[i]? = some (.own 0 o) := by rfl) (hal : noAlis ρ = true := by rfl) (hN : X.N[i]? = some x := by rfl) (hv : Vis X.env.scope x := by first | exact Or.inl rfl | exact Or.inr (Or.inl rfl) | exact Or.inr (Or.inr rfl))
    (hd : (x == ("__debug__" : Str)) = false := by decide) (hcd : (x == ("__classdict__" : Str)) = false := by decide) : JE X B ρ (.Name x pos) (.ok ()) (fun _ => .own 0 o) (fun _ => ρ.set i .non) :=
  PE_imp (pv i hN hv hd hcd) fun σ H Q ⟨G, E, q⟩ => by
    obtain ⟨A, c, n, g⟩ := E.own
    obtain ⟨v, A1, A2, e1, hO, hl, c2, pm⟩ := Cells.take1 (show Cells X.K B G H σ ρ A from c) h
    exact ⟨v, e1, q v G H (Ex.refl _) ⟨E.anc, ⟨A1 ++ A2, .cons (.own hO hl.1 hl.2) c2, pm.nodup_iff.mp n, fun a m => g a (pm.mem_iff.mpr m)⟩, by rw [List.length_set]; exact E.len, fun k j p e => by
      by_cases hk : i = k
      · subst hk
        rw [List.getElem?_set_self (List.getElem?_eq_some_iff.mp h).1] at e
        cases e
      · rw [List.getElem?_set_ne hk] at e
        exact absurd e (noAlis_get hal)⟩⟩
theorem jt_dinK (i : Nat) {x : Str} {px : Pos} {l : Nat} {f : β → D} {kvs : List (Int × β)} {k : Int} (hu : X.A.units + 64 < cLine) (h : ρ[i]? = some (.own l (odK f kvs)) := by rfl) (hk : JP X B ρ a (.int k)) (hal : noAlis ρ = true := by rfl) (hN : X.N[i]? = some x := by rfl)
    (hvi : Vis X.env.scope x := by first | exact Or.inl rfl | exact Or.inr (Or.inl rfl) | exact Or.inr (Or.inr rfl)) (hd : (x == ("__debug__" : Str)) = false := by decide) (hcd : (x == ("__classdict__" : Str)) = false := by decide)
    (hm : behindInMarks .In (.Name x px) = false := by rfl) : TP0 X B ρ (.Compare a [.In] [.Name x px] pos) (hasK k kvs) :=
  PT_imp (pt_cmp (pc_din (by omega) hk (pv (X := X) (pos := px) i hN hvi hd hcd)) hm) fun σ H Q ⟨G, E, q⟩ => by
    refine ⟨G, E, fun w G1 H1 x1 E1 => ?_⟩
    have hy := E1.top.int_inv
    subst hy
    obtain ⟨p, kv, g1, g2, g3, _⟩ := E1.pop.ownDK h hal
    refine ⟨.ref p, g1, p, _, rfl, DGet.k (k := Sum.inl k) g2, _, rfl, ?_⟩
    rw [valV_some, rpe_any g3]
    exact q G1 H1 x1 E1.pop
theorem jt_dniK (i : Nat) {x : Str} {px : Pos} {l : Nat} {f : β → D} {kvs : List (Int × β)} {k : Int} (hu : X.A.units + 64 < cLine) (h : ρ[i]? = some (.own l (odK f kvs)) := by rfl) (hk : JP X B ρ a (.int k)) (hal : noAlis ρ = true := by rfl) (hN : X.N[i]? = some x := by rfl)
    (hvi : Vis X.env.scope x := by first | exact Or.inl rfl | exact Or.inr (Or.inl rfl) | exact Or.inr (Or.inr rfl)) (hd : (x == ("__debug__" : Str)) = false := by decide) (hcd : (x == ("__classdict__" : Str)) = false := by decide)
    (hm : behindInMarks .NotIn (.Name x px) = false := by rfl) : TP0 X B ρ (.Compare a [.NotIn] [.Name x px] pos) (!hasK k kvs) :=
  PT_imp (pt_cmp (pc_dnotin (by omega) hk (pv (X := X) (pos := px) i hN hvi hd hcd)) hm) fun σ H Q ⟨G, E, q⟩ => by
    refine ⟨G, E, fun w G1 H1 x1 E1 => ?_⟩
    have hy := E1.top.int_inv
    subst hy
    obtain ⟨p, kv, g1, g2, g3, _⟩ := E1.pop.ownDK h hal
    refine ⟨.ref p, g1, p, _, rfl, DGet.k (k := Sum.inl k) g2, _, rfl, ?_⟩
    rw [valV_some, rpe_any g3]
    exact q G1 H1 x1 E1.pop
end
end DL

/-! DL32: parts of tuples, tuples joined, tuples turned about -/
namespace HT
open PySem PySem.Spec PyProof.Rows
/-- where t[::-1] and t[:0:-1] begin, how many they take -/
theorem adjust_rev (hi : Option Int) (n j : Nat) (h : (hi = none ∧ j = 0) ∨ (hi = some 0 ∧ j = 1)) : (Builtin.Slice.sliceAdjust none hi (-1) (n : Int)).1 = (n : Int) - 1 ∧ Builtin.Slice.slicePlaces (Builtin.Slice.sliceAdjust none hi (-1) (n : Int)).1 (Builtin.Slice.sliceAdjust none hi (-1) (n : Int)).2 (-1) = n - j := by
  rcases h with ⟨rfl, rfl⟩ | ⟨rfl, rfl⟩
  · refine ⟨rfl, ?_⟩
    show Builtin.Slice.slicePlaces ((n : Int) - 1) (-1) (-1) = n - 0
    unfold Builtin.Slice.slicePlaces
    rw [if_neg (by decide)]
    split
    · rw [show (-(-1) : Int) = 1 by decide, Int.ediv_one]
      omega
    · show Int.toNat 0 = _
      omega
  · refine ⟨rfl, ?_⟩
    show Builtin.Slice.slicePlaces ((n : Int) - 1) (min 0 ((n : Int) - 1)) (-1) = n - 1
    unfold Builtin.Slice.slicePlaces
    rw [if_neg (by decide)]
    split
    · rw [show (-(-1) : Int) = 1 by decide, Int.ediv_one]
      omega
    · show Int.toNat 0 = _
      omega
theorem pick_rev (xs : Array Value) (j : Nat) (hj : j ≤ xs.size) : (List.range (xs.size - j)).filterMap (fun (m : Nat) => xs[((xs.size : Int) - 1 + (m : Int) * (-1)).toNat]?) = (xs.toList.drop j).reverse := by
  have go : ∀ k : Nat, k ≤ xs.size → (List.range k).filterMap (fun (m : Nat) => xs[((xs.size : Int) - 1 + (m : Int) * (-1)).toNat]?) = (xs.toList.drop (xs.size - k)).reverse := by
    intro k
    induction k with
    | zero =>
      intro _
      rw [Nat.sub_zero, List.range_zero, List.filterMap_nil, List.drop_of_length_le (by rw [Array.length_toList]; exact Nat.le_refl _), List.reverse_nil]
    | succ k ih =>
      intro hk
      have h1 : xs.size - (k + 1) < xs.toList.length := by rw [Array.length_toList]; omega
      have e : ((xs.size : Int) - 1 + (k : Int) * (-1)).toNat = xs.size - (k + 1) := by omega
      rw [List.range_succ, List.filterMap_append, ih (by omega)]
      rw [List.drop_eq_getElem_cons h1, show xs.size - (k + 1) + 1 = xs.size - k by omega, List.reverse_cons]
      congr 1
      show List.filterMap _ [k] = _
      rw [List.filterMap_cons, e]
      have h2 : xs[xs.size - (k + 1)]? = some xs.toList[xs.size - (k + 1)] := by
        rw [← Array.getElem?_toList, List.getElem?_eq_getElem h1]
      rw [h2]
      rfl
  have := go (xs.size - j) (by omega)
  rw [show xs.size - (xs.size - j) = j by omega] at this
  exact this
section
variable {prog : Program} {w : World} {A : Around} {E : Value → Shared → Prop} {s : Shared}
theorem sliceApplied_rev {sl : Addr} {vl vu vs : Value} {hi : Option Int} {n j : Nat} {Q : Int × Int × Nat → Shared → Prop} (hs : s.heap.IsSliceOf sl vl vu vs) (pl : IsPart vl none) (pu : IsPart vu hi) (ps : IsPart vs (some (-1)))
    (hj : (hi = none ∧ j = 0) ∨ (hi = some 0 ∧ j = 1)) (h : Q ((n : Int) - 1, -1, n - j) s) : wpAny (model prog w) A (Builtin.Slice.sliceApplied (.ref sl) (pure (n : Int))) Q E s := by
  obtain ⟨os, hos, hcs, hds⟩ := id hs
  unfold Builtin.Slice.sliceApplied Builtin.Slice.sliceFields
  refine wpAny_bind (wpAny_bind (wpAny_field hos hds (x := vl) rfl (wpAny_bind (wpAny_field hos hds (x := vu) rfl (wpAny_bind (wpAny_field hos hds (x := vs) rfl (wpAny_pure ?_)))))))
  refine wpAny_bind (slicePart_ ps ?_)
  show wpAny _ _ (if ((-1 : Int) == 0) = true then _ else _) _ _ s
  rw [if_neg (by decide)]
  refine wpAny_bind (slicePart_ pl (wpAny_bind (slicePart_ pu (wpAny_bind (wpAny_pure ?_)))))
  show wpAny _ _ (match Builtin.Slice.sliceAdjust none hi (-1) (n : Int) with | (lo, hi) => pure (lo, (-1 : Int), Builtin.Slice.slicePlaces lo hi (-1))) _ _ s
  obtain ⟨h1, h2⟩ := adjust_rev hi n j hj
  show wpAny _ _ (pure ((Builtin.Slice.sliceAdjust none hi (-1) (n : Int)).1, (-1 : Int), Builtin.Slice.slicePlaces (Builtin.Slice.sliceAdjust none hi (-1) (n : Int)).1 (Builtin.Slice.sliceAdjust none hi (-1) (n : Int)).2 (-1))) _ _ s
  rw [h2, h1]
  exact wpAny_pure h
theorem getItem_tuple_rev {t sl : Addr} {items : Array Value} {vl vu vs : Value} {hi : Option Int} {j : Nat} {Q : Value → Shared → Prop} (ht : IsTup s.heap t items) (hs : s.heap.IsSliceOf sl vl vu vs) (pl : IsPart vl none) (pu : IsPart vu hi) (ps : IsPart vs (some (-1)))
    (hj : (hi = none ∧ j = 0) ∨ (hi = some 0 ∧ j = 1)) (hn : j ≤ items.size)
    (h : Q (.ref s.heap.objs.size) { s with heap := s.heap.push { cls := .type "tuple", data := .seq (items.toList.drop j).reverse.toArray } })
    (hsz : items.size ≤ sizeLine) : wpAny (model prog w) A (getItem (.ref t) (.ref sl)) Q E s := by
  have htake : sizeOk (.seq (items.toList.drop j).reverse.toArray) := by
    show (items.toList.drop j).reverse.toArray.size ≤ sizeLine
    rw [List.size_toArray, List.length_reverse, List.length_drop, Array.length_toList]
    omega
  obtain ⟨os, hos, hcs, hds⟩ := id hs
  have hTs : s.TypeIs (.ref sl) "slice" := ⟨os, hos, hcs⟩
  unfold getItem
  try with_reducible refine wpAny_holding ?_
  first | refine wpAny_bind (wpAny_pure ?_) | skip
  refine wpAny_bind (wpAny_sequenceKey ht.typeIs (by decide) ?_)
  refine wpAny_bind (wpAny_callSpecial?_slot (name := Str.ofString "__getitem__") ht.typeIs PyProof.Rows.slot_tuple_getitem
    (wpAny_call_entry PyProof.Rows.slot_tuple_getitem ht.typeIs entry_tuple_getitem ?_ (args_tuple_getitem _ _)))
  show wpAny _ _ (Builtin.Tuple.tupleItemsOf (.ref t) >>= _) _ _ s
  refine wpAny_bind (tupleItemsOf_ ht ?_)
  refine wpAny_bind (wpAny_typeOf hTs ?_)
  rw [if_pos (by decide)]
  refine wpAny_bind (sliceApplied_rev (j := j) hs pl pu ps hj ?_)
  have hno : ¬ ((((items.size : Int) - 1) == 0 && (-1 : Int) == 1 && (items.size - j) == items.size) = true) := by
    intro q
    rw [Bool.and_eq_true, Bool.and_eq_true] at q
    exact absurd q.1.2 (by decide)
  show wpAny _ _ (if (((items.size : Int) - 1) == 0 && (-1 : Int) == 1 && (items.size - j) == items.size) = true then _ else _) _ _ s
  rw [if_neg hno]
  have hp := congrArg List.toArray (pick_rev items j hn)
  rw [hp]
  first
    | exact wpAny_bind (m := Builtin.Tuple.tupleExact _) (wpAny_newObj_type (wpAny_pure ⟨_, rfl, wpAny_pure h⟩) htake)
    | exact wpAny_bind (m := Builtin.Tuple.tupleExact _) (wpAny_newObj_type (wpAny_bind (wpAny_pure (wpAny_pure ⟨_, rfl, wpAny_pure h⟩))) htake)
    | exact wpAny_bind (wpAny_bind (m := Builtin.Tuple.tupleExact _) (wpAny_newObj_type (wpAny_pure (wpAny_pure ⟨_, rfl, wpAny_pure h⟩)) htake))
    | exact wpAny_bind (wpAny_bind (m := Builtin.Tuple.tupleExact _) (wpAny_newObj_type (wpAny_pure ⟨_, rfl, wpAny_pure h⟩) htake))
end
end HT
namespace L2
open PySem PySem.Spec PyProof.Rows
section
variable {X : Cx}
def tRevT (K : PySem.W.Frag) (j : Nat) (te : TE) : TE := fun σ H Q => te σ H fun x H1 => ∃ a xs, x = .ref a ∧ SqT K H1 a xs ∧ j ≤ xs.length ∧ ∀ p, H1 p = none → Q (.ref p) (upd H1 p (.tup (xs.drop j).reverse))
/-- t[:hi:-1], hi none or nought -/
theorem pe_revT {e : Expr} {te : TE} {k j : Nat} {o2 : Option Expr} {hi : Option Int} {p1 p2 p3 pos : Pos} (he : PE X e te) (hh : PO X o2 (fun _ H Q => Q hi H)) (hj : (hi = none ∧ j = 0) ∨ (hi = some 0 ∧ j = 1))
    (hsub : ∀ a r : Addr, subscripted (.Slice none o2 (some (.UnaryOp .USub (.Constant (.int 1) k p1) p2)) p3) false (.ref a) (.ref r) = operate [.ref a, .ref r] (getItem (.ref a) (.ref r)) := by intro _ _; with_unfolding_all rfl) :
    PE X (.Subscript e (.Slice none o2 (some (.UnaryOp .USub (.Constant (.int 1) k p1) p2)) p3) pos) (tRevT X.K j te) := by
  refine ⟨fun pins s σ H Q I h => ?_⟩
  refine Subscript_ (thn (he.run pins s σ H _ I h) fun v s1 ⟨x, H1, I1, r1, q1⟩ => ?_)
  obtain ⟨a, xs, ex, hx, hjx, q⟩ := q1
  subst ex
  cases r1
  have hst : PO X (some (.UnaryOp .USub (.Constant (.int 1) k p1) p2)) (tPart (tUn (rU fun i => .int (-i)) (tC (.int 1)))) := po_some (pe_un un_neg pe_int)
  refine wpAny_Slice (thn (po_none.run pins s1 σ H1 (fun o H2 => o = none ∧ H2 = H1) I1 ⟨rfl, rfl⟩) fun vl s2 ⟨l, H2, I2, pl, el, e2⟩ => ?_)
  subst el e2
  refine thn (hh.run pins s2 σ H2 (fun o H3 => o = hi ∧ H3 = H2) I2 ⟨rfl, rfl⟩) fun vu s3 ⟨u, H3, I3, pu, eu, e3⟩ => ?_
  subst eu e3
  refine thn (hst.run pins s3 σ H3 (fun o H4 => o = some (-1) ∧ H4 = H3) I3 ⟨1, rfl, -1, rfl, rfl, rfl⟩) fun vs s4 ⟨o, H4, I4, ps, eo, e4⟩ => ?_
  subst eo e4
  have I5 : Inv X pins σ H4 { s4 with heap := s4.heap.push { cls := .type "slice", data := .fields #[vl, vu, vs] } } := I4.kept (t' := s4.toks) fun b ob q => Heap.get?_push_of_some _ q
  obtain ⟨its, r, ht, hz⟩ := I5.tuple hx
  have hlen := r.length
  show wpAny (model X.prog X.w) X.A (subscriptTail e (.Slice none o2 (some (.UnaryOp .USub (.Constant (.int 1) k p1) p2)) p3) (.ref a) (.ref s4.heap.objs.size)) (EP X pins σ Q) X.xe { s4 with heap := s4.heap.push { cls := .type "slice", data := .fields #[vl, vu, vs] } }
  refine tail_any (ops := [.ref a, .ref s4.heap.objs.size]) ht.typeIs PyProof.Rows.slot_tuple_getitem.lookup ?_ (hsub _ _)
  refine HT.getItem_tuple_rev (j := j) ht (Heap.IsSliceOf.new _ vl vu vs) pl pu ps hj (by rw [List.size_toArray, ← hlen]; exact hjx) ?_ (by rw [List.size_toArray, ← hlen]; exact hz)
  refine ⟨.ref _, _, I5.laid (t' := s4.toks) (o := .tup (xs.drop j).reverse) (fun b ob q => Heap.get?_push_of_some _ q) (Nat.le_refl _) ?_, rfl, q _ (I5.hok.fresh (Nat.le_refl _))⟩
  exact ⟨by rw [List.length_reverse, List.length_drop]; omega, _, (r.drop j).reverse, IsTup.new _ _⟩
end
end L2
namespace DL
open PySem PySem.Spec L2
section
variable {X : Cx} {B : Base} {ρ : List Slot} {pos : Pos} {a : Expr} {β α : Type} {K : PySem.W.Frag}
theorem cut_whole {xs : List α} {lo hi : Option Int} (h : HT.sIx xs.length 0 lo = 0 ∧ HT.sIx xs.length xs.length hi = xs.length) : cut xs lo hi = xs := by
  unfold cut
  rw [h.1, h.2, List.drop_zero, Nat.sub_zero, List.take_length]
theorem je_slT {o1 o2 : Option Expr} {p2 : Pos} {lo hi : Option Int} {m : R β} {ds : β → List D} {ρ' : β → List Slot} (h : JE X B ρ a m (fun b => .val (.tuple (ds b))) ρ') (h1 : ∀ b, JO X B (ρ' b) o1 lo) (h2 : ∀ b, JO X B (ρ' b) o2 hi) :
    JE X B ρ (.Subscript a (.Slice o1 o2 none p2) pos) m (fun b => .val (.tuple (cut (ds b) lo hi))) ρ' := by
  have h1' : PO X o1 (fun σ H Q => ∃ b, tJO X.K B (ρ' b) lo σ H Q) := ⟨fun pins s σ H Q I ⟨b, q⟩ => (h1 b).run pins s σ H Q I q⟩
  have h2' : PO X o2 (fun σ H Q => ∃ b, tJO X.K B (ρ' b) hi σ H Q) := ⟨fun pins s σ H Q I ⟨b, q⟩ => (h2 b).run pins s σ H Q I q⟩
  refine PE_imp (pe_slice sl_tupA h h1' h2') fun σ H Q ⟨G, E, q⟩ => ⟨G, E, R.post_mono q fun b k v G1 H1 x1 E1 => ⟨b, G1, E1.pop, fun G2 H2 x2 E2 => ⟨b, G2, E2, fun G3 H3 x3 E3 => ?_⟩⟩⟩
  obtain ⟨p, xs, rfl, hS, hr⟩ := E1.top.tup_inv
  have x13 := x2.trans x3
  have hr' := RpAll.ex x13 hr
  refine ⟨p, xs, rfl, E3.sub.t (x13.t hS), fun hw => ?_, fun hw q' hq => ?_⟩
  · rw [hr'.len] at hw
    refine k _ G3 _ (x1.trans x13) (E3.push ?_)
    rw [cut_whole hw]
    exact .tup (x13.t hS) hr'
  · have e := Ex.new (o := HO.tup (cutV xs lo hi)) (E3.sub.back hq)
    exact k _ _ _ ((x1.trans x13).trans e) ((E3.new hq _).push (.tup (.inl (.inl upd_same)) (RpAll.ex e (cut_rp hr'))))
theorem je_slTm {o1 o2 : Option Expr} {p2 : Pos} {lo hi : Option Int} {m : R β} {f : α → D} {xs : β → List α} {ρ' : β → List Slot} (h : JE X B ρ a m (fun b => .val (eT f (xs b))) ρ') (h1 : ∀ b, JO X B (ρ' b) o1 lo) (h2 : ∀ b, JO X B (ρ' b) o2 hi) :
    JE X B ρ (.Subscript a (.Slice o1 o2 none p2) pos) m (fun b => .val (eT f (cut (xs b) lo hi))) ρ' := by
  have := je_slT (pos := pos) (p2 := p2) h h1 h2
  simp only [cut_map] at this
  exact this
theorem od_catA {ds es : List D} : OpD K B (rCatA K) (.tuple ds) (.tuple es) (R.guard (ds.length + es.length ≤ sizeLine)) (fun _ => .val (.tuple (ds ++ es))) := fun G H σ ρ vx vy Q E hx hy q => by
  obtain ⟨hc, q⟩ := R.post_guard q
  obtain ⟨a, xs, rfl, hS, hr⟩ := hx.tup_inv
  obtain ⟨b, ys, rfl, hS2, hr2⟩ := hy.tup_inv
  have l1 := hr.len
  have l2 := hr2.len
  refine ⟨a, b, xs, ys, rfl, rfl, E.sub.t hS, E.sub.t hS2, by rw [l1, l2]; exact hc, fun z => ?_, fun z z2 => ?_, fun _ _ p hp => ?_⟩
  · subst z
    have : ds = [] := List.length_eq_zero_iff.mp l1.symm
    subst this
    exact q _ G _ (Ex.refl G) (E.push (.tup hS2 hr2))
  · subst z2
    have : es = [] := List.length_eq_zero_iff.mp l2.symm
    subst this
    refine q _ G _ (Ex.refl G) (E.push ?_)
    rw [List.append_nil]
    exact .tup hS hr
  · have e := Ex.new (o := HO.tup (xs ++ ys)) (E.sub.back hp)
    exact q _ _ _ e ((E.new hp _).push (.tup (.inl (.inl upd_same)) (RpAll.ex e (hr.append hr2))))
theorem od_catAm {f : α → D} {xs ys : List α} : OpD K B (rCatA K) (eT f xs) (eT f ys) (R.guard (xs.length + ys.length ≤ sizeLine)) (fun _ => .val (eT f (xs ++ ys))) := by
  have := od_catA (K := K) (B := B) (ds := xs.map f) (es := ys.map f)
  simp only [List.length_map] at this
  rw [← List.map_append] at this
  exact this
theorem RpAll.revs {K : PySem.W.Frag} {G : Hp} {vs : List V} {ds : List D} (h : RpAll K G vs ds) : RpAll K G vs.reverse ds.reverse := by
  have go : ∀ {vs : List V} {ds : List D} {us : List V} {es : List D}, RpAll K G vs ds → RpAll K G us es → RpAll K G (vs.reverse ++ us) (ds.reverse ++ es) := by
    intro vs
    induction vs with
    | nil => intro ds us es h h2; cases h; exact h2
    | cons v vs ih =>
      intro ds us es h h2
      cases h with
      | cons r t =>
        rw [List.reverse_cons, List.reverse_cons, List.append_assoc, List.append_assoc]
        exact ih t (.cons r h2)
  have := go h RpAll.nil
  rwa [List.append_nil, List.append_nil] at this
theorem po_zero {k : Nat} {p : Pos} : PO X (some (.Constant (.int 0) k p)) (fun _ H Q => Q (some 0) H) := PO_imp (po_some pe_int) fun σ H Q q => ⟨0, rfl, q⟩
/-- t[::-1], t[:0:-1] -/
theorem je_revT {k j : Nat} {o2 : Option Expr} {hi : Option Int} {p1 p2 p3 : Pos} {m : R β} {f : α → D} {xs : β → List α} {ρ' : β → List Slot} (h : JE X B ρ a m (fun b => .val (eT f (xs b))) ρ') (hh : PO X o2 (fun _ H Q => Q hi H)) (hj : (hi = none ∧ j = 0) ∨ (hi = some 0 ∧ j = 1))
    (hsub : ∀ a r : Addr, subscripted (.Slice none o2 (some (.UnaryOp .USub (.Constant (.int 1) k p1) p2)) p3) false (.ref a) (.ref r) = operate [.ref a, .ref r] (getItem (.ref a) (.ref r)) := by intro _ _; with_unfolding_all rfl) :
    JE X B ρ (.Subscript a (.Slice none o2 (some (.UnaryOp .USub (.Constant (.int 1) k p1) p2)) p3) pos) (m.bind fun b => (R.guard (j ≤ (xs b).length)).bind fun _ => .ok b) (fun b => .val (eT f ((xs b).drop j).reverse)) ρ' := by
  refine PE_imp (pe_revT h hh hj hsub) fun σ H Q ⟨G, E, q⟩ => ⟨G, E, R.post_mono (R.post_bind.mp q) fun b k v G1 H1 x1 E1 => ?_⟩
  obtain ⟨p, ys, rfl, hS, hr⟩ := E1.top.tup_inv
  obtain ⟨hc, k⟩ := R.post_guard (R.post_bind.mp k)
  have hl := hr.len
  rw [List.length_map] at hl
  refine ⟨p, ys, rfl, E1.sub.t hS, by rw [hl]; exact hc, fun q' hq => ?_⟩
  have e := Ex.new (o := HO.tup (ys.drop j).reverse) (E1.sub.back hq)
  refine k _ _ _ (x1.trans e) ((E1.pop.new hq _).push (.tup (.inl (.inl upd_same)) (RpAll.ex e ?_)))
  rw [List.map_reverse, List.map_drop]
  exact (hr.drop j).revs
end
end DL

/-! DL33: len(set(t)), t a tuple of whole numbers; x is True -/
namespace DL
/-- without what came before -/
def nub : List Int → List Int
  | [] => []
  | x :: l => if x ∈ l then nub l else x :: nub l
theorem nub_mem {x : Int} : ∀ {l : List Int}, x ∈ nub l ↔ x ∈ l
  | [] => Iff.rfl
  | y :: l => by
    rw [nub]
    split
    · rename_i h
      rw [nub_mem, List.mem_cons]
      exact ⟨.inr, fun z => z.elim (fun e => e ▸ h) id⟩
    · rw [List.mem_cons, List.mem_cons, nub_mem]
theorem nub_nodup : ∀ l : List Int, (nub l).Nodup
  | [] => List.nodup_nil
  | y :: l => by
    rw [nub]
    split
    · exact nub_nodup l
    · rename_i h
      exact List.nodup_cons.mpr ⟨fun z => h (nub_mem.mp z), nub_nodup l⟩
theorem nub_of : ∀ {l : List Int}, l.Nodup → nub l = l
  | [], _ => rfl
  | y :: l, h => by
    obtain ⟨h1, h2⟩ := List.nodup_cons.mp h
    rw [nub, if_neg h1, nub_of h2]
theorem nodup_le : ∀ {l m : List Int}, l.Nodup → (∀ x ∈ l, x ∈ m) → l.length ≤ m.length
  | [], _, _, _ => Nat.zero_le _
  | x :: l, m, nd, h => by
    obtain ⟨h1, h2⟩ := List.nodup_cons.mp nd
    have hx := h x List.mem_cons_self
    have := nodup_le (l := l) (m := m.erase x) h2 fun y hy => (List.mem_erase_of_ne (fun (e : y = x) => h1 (e ▸ hy))).mpr (h y (List.mem_cons_of_mem _ hy))
    rw [List.length_erase_of_mem hx] at this
    have := List.length_pos_of_mem hx
    rw [List.length_cons]
    omega
end DL
namespace L2
open PySem PySem.Spec PyProof.Rows
section
variable {X : Cx}
/-- set(t), t a tuple of ints -/
def rSetTI (K : PySem.W.Frag) : List V → Hp → VK → Prop := fun xs H Q => ∃ (a : Addr) (ns : List Int), xs = [V.ref a] ∧ SqT K H a (ns.map V.int) ∧ ns.length ≤ 1000 ∧
  ∀ p S, H p = none → Q (.ref p) (upd H p (.set S (DL.nub ns).length))
theorem cr_setTI (hc : X.calm = true) : CallR X (.type "set") (rSetTI X.K) := by
  intro pins s σ H xs us Q I r h
  obtain ⟨a, ns, rfl, hq, hl, q⟩ := h
  rw [Vals.ref1 r]
  obtain ⟨its, rv, pt, hz⟩ := I.tuple hq
  have hi : IntsAre its.toArray.toList ns := ints_of_vals rv
  have hn : H s.heap.objs.size = none := I.hok.fresh (Nat.le_refl _)
  refine call_set_tupI ns (I.ok.hd hc) (show s.heap.IsTuple a its.toArray from pt) hi (by unfold scanBound; omega) fun h' tk c R1 hcn k => ?_
  have hcc : c = (DL.nub ns).length := by
    obtain ⟨o, es, ep, t, ho, hex, hdt, g, nd, hm2, hb, hf, hn', hr, hl2⟩ := id R1
    have e1 : ∀ x, x ∈ es.toList.map keyOf ↔ x ∈ ns := fun x => by
      rw [← hm2]
      exact decide_eq_true_iff
    have l1 := DL.nodup_le nd fun x hx => DL.nub_mem.mpr ((e1 x).mp hx)
    have l2 := DL.nodup_le (DL.nub_nodup ns) fun x hx => (e1 x).mpr (DL.nub_mem.mp hx)
    have e3 : es.toList.length = es.size := Array.length_toList
    rw [List.length_map] at l1 l2
    omega
  refine ⟨.ref s.heap.objs.size, upd H s.heap.objs.size (.set (fun j => decide (j ∈ ns)) c), I.laid (t' := tk) k (Nat.le_refl _) R1.setOf, rfl, ?_⟩
  rw [hcc]
  exact q _ _ hn
def rLenSet : List V → Hp → VK → Prop := fun xs H Q => ∃ (p : Addr) (S : Int → Bool) (n : Nat), xs = [V.ref p] ∧ H p = some (.set S n) ∧ Q (.int n) H
theorem cr_lenSet : CallR X (.builtin "len") rLenSet := by
  intro pins s σ H xs us Q I r h
  obtain ⟨p, S, n, rfl, hp, q⟩ := h
  rw [Vals.ref1 r]
  obtain ⟨o, es, ep, t, ho, hex, hd, _, _, hb, hf, hn⟩ : s.heap.SetOf (intKind X.prog X.w) p S n := I.hok p _ hp
  refine PySem.call_len_set ho hex hd hf (by unfold scanBound at hb; omega) ⟨.int n, H, I.tok _, ⟨_, by rw [hn]⟩, q⟩
end
end L2
namespace DL
open PySem PySem.Spec L2
section
variable {X : Cx} {B : Base} {ρ : List Slot} {pos : Pos} {a : Expr}
theorem je_lenSet {p p2 pos2 : Pos} {xs : List Int} (hc : X.calm = true) (hm : X.mg "len" = none) (hm2 : X.mg "set" = none) (ha : JP X B ρ a (eT D.int xs)) (hg : Gl X "len" := by rfl) (hg2 : Gl X "set" := by rfl)
    (na : starEach [a] X.env = (false, eval a X.env) :: starEach [] X.env := by rfl) (nb : starEach [.Call (.Name "set" p2) [a] [] pos2] X.env = (false, eval (.Call (.Name "set" p2) [a] [] pos2) X.env) :: starEach [] X.env := by rfl) :
    JE X B ρ (.Call (.Name "len" p) [.Call (.Name "set" p2) [a] [] pos2] [] pos) (R.guard (xs.length ≤ 1000)) (fun _ => .val (.int ((nub xs).length : Nat))) (fun _ => ρ) := by
  have h1 := pe_callTy (pos := pos2) (p := p2) (cr_setTI hc) hg2 hm2 PyProof.Rows.boot_set (pa_cons ha pa_nil na) (by decide) (by decide) na (by rfl)
  have h2 := pe_callB (pos := pos) (p := p) cr_lenSet hg hm (by decide +kernel) (pa_cons h1 pa_nil nb) (by decide) (by decide) nb (by rfl)
  refine PE_imp h2 fun σ H Q ⟨G, E, q⟩ => ?_
  obtain ⟨hk, q⟩ := R.post_guard q
  refine ⟨G, E, fun v G1 H1 x1 E1 => ?_⟩
  obtain ⟨p, vs, rfl, hS, hr⟩ := E1.top.tup_inv
  have hv : vs = xs.map V.int := hr.ints
  subst hv
  refine ⟨p, xs, rfl, E1.sub.t hS, hk, fun p' S hp => ?_⟩
  have e := Ex.new (o := HO.set S (nub xs).length) (E1.sub.back hp)
  exact ⟨p', S, _, rfl, upd_same, q _ _ _ (x1.trans e) ((E1.pop.new hp _).push (.int _))⟩
end
end DL
namespace DL
open PySem PySem.Spec L2
section
variable {K : PySem.W.Frag} {B : Base}
theorem od_isBl {a b : Bool} : OpD K B rIsB (.bool a) (.bool b) (.ok ()) (fun _ => .val (.bool (decide (a = b)))) := fun G H σ ρ vx vy Q E hx hy q => ⟨a, b, hx.bl_inv, hy.bl_inv, q _ G H (Ex.refl G) (E.push (.bl _))⟩
theorem od_notBl {a b : Bool} : OpD K B rNotB (.bool a) (.bool b) (.ok ()) (fun _ => .val (.bool (!decide (a = b)))) := fun G H σ ρ vx vy Q E hx hy q => ⟨a, b, hx.bl_inv, hy.bl_inv, q _ G H (Ex.refl G) (E.push (.bl _))⟩
end
section
variable {X : Cx} {B : Base} {ρ : List Slot} {a b c e : Expr}
/-- a op b op' c, nothing of it with effects -/
theorem jp_chain {r r' : R2} {x y z : D} {k1 k2 : Bool} (ht : ∀ ta tb tc, PE X a ta → PE X b tb → PE X c tc → PE X e (tChain r r' ta tb tc)) (ha : JP X B ρ a x) (hb : JP X B ρ b y) (hc : JP X B ρ c z)
    (h1 : OpD X.K B r x y (.ok ()) (fun _ => .val (.bool k1))) (h2 : OpD X.K B r' y z (.ok ()) (fun _ => .val (.bool k2))) : JP X B ρ e (.bool (k1 && k2)) := by
  refine PE_imp (ht _ _ _ ha hb hc) fun σ H Q ⟨G, E, q⟩ => ?_
  refine ⟨G, E, fun vx G1 H1 x1 E1 => ?_⟩
  refine ⟨G1, E1.pop, fun vy G2 H2 x2 E2 => ?_⟩
  refine h1 G2 H2 σ ρ vx vy _ E2.pop (E1.top.ex x2) E2.top fun v G3 H3 x3 E3 => ⟨k1, E3.top.bl_inv, ?_⟩
  have x13 := x1.trans (x2.trans x3)
  cases k1 with
  | false => exact q _ G3 H3 x13 (E3.pop.push (.bl _))
  | true =>
    refine ⟨G3, E3.pop, fun vz G4 H4 x4 E4 => ?_⟩
    exact h2 G4 H4 σ ρ vy vz _ E4.pop (E2.top.ex (x3.trans x4)) E4.top fun v' G5 H5 x5 E5 => q v' G5 H5 (x13.trans (x4.trans x5)) E5
end
end DL

/-! DL34: min(t), t a tuple of whole numbers -/
namespace L2
open PySem PySem.Spec PyProof.Rows
section
variable {X : Cx}
theorem minOf_le (x : Int) (xs : List Int) : PySem.W.minOf x xs ∈ x :: xs ∧ ∀ y ∈ x :: xs, PySem.W.minOf x xs ≤ y := by
  unfold PySem.W.minOf
  induction xs generalizing x with
  | nil => exact ⟨List.mem_cons_self, fun y m => by rw [List.mem_singleton.mp m]; exact Int.le_refl _⟩
  | cons z xs ih =>
    rw [List.foldl_cons]
    obtain ⟨h1, h2⟩ := ih (if PySem.W.DatumOrd.lt z x = true then z else x)
    generalize hm : (if PySem.W.DatumOrd.lt z x = true then z else x) = m at *
    have hlt : PySem.W.DatumOrd.lt z x = decide (z < x) := rfl
    have hmz : m ≤ z ∧ m ≤ x ∧ (m = z ∨ m = x) := by
      rw [hlt] at hm
      by_cases h : z < x
      · rw [if_pos (decide_eq_true h)] at hm
        omega
      · rw [if_neg (by simpa using h)] at hm
        omega
    refine ⟨?_, fun y hy => ?_⟩
    · rcases List.mem_cons.mp h1 with e | e
      · rw [e]
        rcases hmz.2.2 with e' | e'
        · rw [e']; exact List.mem_cons_of_mem _ List.mem_cons_self
        · rw [e']; exact List.mem_cons_self
      · exact List.mem_cons_of_mem _ (List.mem_cons_of_mem _ e)
    · have hm' := h2 m List.mem_cons_self
      rcases List.mem_cons.mp hy with e | hy
      · rw [e]; omega
      · rcases List.mem_cons.mp hy with e | hy
        · rw [e]; omega
        · exact h2 y (List.mem_cons_of_mem _ hy)
def rMinTI (K : PySem.W.Frag) : List V → Hp → VK → Prop := fun vs H Q => ∃ (a : Addr) (ns : List Int), vs = [V.ref a] ∧ SqT K H a (ns.map V.int) ∧ ns ≠ [] ∧ ∀ m, m ∈ ns → (∀ y, y ∈ ns → m ≤ y) → Q (.int m) H
theorem cr_minTI (hc : X.calm = true) (hu : X.A.units + 64 < cLine) : CallR X (.builtin "min") (rMinTI X.K) := by
  intro pins s σ H vs us Q I r h
  obtain ⟨a, ns, rfl, hs, hne, q⟩ := h
  rw [Vals.ref1 r]
  obtain ⟨its, rv, pt, hz⟩ := I.tuple hs
  cases ns with
  | nil => exact absurd rfl hne
  | cons n ns =>
    have hh : PySem.W.HoldAll s.heap its.toArray.toList (n :: ns) := PySem.W.HoldAll.of_ints (ints_of_vals rv)
    refine PySem.W.min_tuple_datum (x := n) (xs := ns) (I.ok.hd hc) (show s.heap.IsTuple a its.toArray from pt) hh (by show X.A.units + 1 + 0 < cLine; omega) fun i v h' tk hi hv k => ?_
    obtain ⟨h1, h2⟩ := minOf_le n ns
    obtain ⟨t, rfl⟩ : ∃ t, v = .int (PySem.W.minOf n ns) t := by
      have : IntsAre [v] [PySem.W.minOf n ns] := PySem.W.HoldAll.toInts (PySem.W.HoldAll.cons hv PySem.W.HoldAll.nil)
      cases this with
      | cons n t _ => exact ⟨t, rfl⟩
    exact ⟨.int _, H, I.kept k, ⟨_, rfl⟩, q _ h1 h2⟩
end
end L2
namespace DL
open PySem PySem.Spec L2
section
variable {K : PySem.W.Frag} {B : Base} {ρ : List Slot}
theorem cb_minTI {ns : List Int} : CbD K B ρ (rMinTI K) [.val (eT D.int ns)] (R.guard (ns ≠ [])) (fun _ => .val (.int (minL ns))) :=
  cb_val (w := .int (minL ns)) (fun hc G H σ vs Q e ok q => by
    obtain ⟨v, rfl, r⟩ := ok.one
    obtain ⟨a, xs, rfl, hS, hr⟩ := r.tup_inv
    have hx := hr.ints
    subst hx
    refine ⟨a, ns, rfl, e.t hS, hc, fun m hm hle => ?_⟩
    obtain ⟨h1, h2⟩ := minL_is hc
    rw [show m = minL ns from Int.le_antisymm (hle _ h1) (h2 m hm)]
    exact q) fun _ => .int _
end
end DL

/-! DL35: pairs of whole numbers as keys; dicts of one's own, by such pairs -/
namespace DL
open PySem PySem.Spec L2
@[reducible] def eK2 (p : Int × Int) : D := .key [p.1, p.2]
def kyP (p : Int × Int) : List Key := [Sum.inl p.1, Sum.inl p.2]
theorem kyP_inj {p q : Int × Int} (h : kyP p = kyP q) : p = q := by
  unfold kyP at h
  injection h with h1 h2
  injection h2 with h2 _
  exact Prod.ext (Sum.inl.inj h1) (Sum.inl.inj h2)
theorem kyP_kV (p : Int × Int) : (kyP p).map kV = [p.1, p.2].map V.int := rfl
theorem wk_K2 (p : Int × Int) : Wk (eK2 p) (eP2 D.int D.int p) := fun K G v h => by
  cases h with
  | key h => exact .tup (.inl (.inl h)) (.cons (.int _) (.cons (.int _) .nil))
theorem Rp.key_inv {K : PySem.W.Frag} {G : Hp} {v : V} {p : Int × Int} (h : Rp K G v (eK2 p)) : ∃ a, v = .ref a ∧ G a = some (.tup ((kyP p).map kV)) := by
  cases h with
  | key h => exact ⟨_, rfl, h⟩
theorem fl_K2 (p : Int × Int) : Flat (eK2 p) := by
  rw [eK2, Flat]
  trivial
section
variable {β : Type}
@[reducible] def odT (f : β → D) (kvs : List ((Int × Int) × β)) : OT := .dt (kvs.map fun p => (kyP p.1, f p.2))
def hasT (k : Int × Int) (kvs : List ((Int × Int) × β)) : Bool := kvs.any fun p => decide (p.1 = k)
def putT (kvs : List ((Int × Int) × β)) (k : Int × Int) (v : β) : List ((Int × Int) × β) := if hasT k kvs = true then kvs.map (fun p => if p.1 = k then (p.1, v) else p) else kvs ++ [(k, v)]
def mergeT (kvs more : List ((Int × Int) × β)) : List ((Int × Int) × β) := more.foldl (fun acc p => putT acc p.1 p.2) kvs
end
section
variable {K : PySem.W.Frag} {G : Hp} {β : Type} {f : β → D}
theorem kyP_dec (a k : Int × Int) : decide (kyP a = kyP k) = decide (a = k) := decide_eq_decide.mpr ⟨kyP_inj, fun h => by rw [h]⟩
theorem rpt_any {kvs : List (List Key × V)} {ds : List ((Int × Int) × β)} (h : RpE K G kvs (ds.map fun p => (kyP p.1, f p.2))) (k : Int × Int) : (kvs.any fun kv => decide (kv.1 = kyP k)) = hasT k ds := by
  unfold hasT
  induction ds generalizing kvs with
  | nil =>
    cases h
    rfl
  | cons x ds ih =>
    cases h with
    | @cons _ v _ r _ h1 h2 =>
      rw [List.any_cons, List.any_cons, ih h2, kyP_dec]
theorem rpt_len {kvs : List (List Key × V)} {ds : List (List Key × D)} (h : RpE K G kvs ds) : kvs.length = ds.length := by
  induction h with
  | nil => rfl
  | cons _ _ ih => rw [List.length_cons, List.length_cons, ih]
theorem rpt_append {kvs kws : List (List Key × V)} {ds es : List (List Key × D)} (h : RpE K G kvs ds) (h2 : RpE K G kws es) : RpE K G (kvs ++ kws) (ds ++ es) := by
  induction h with
  | nil => exact h2
  | cons h _ ih => exact .cons h ih
theorem rpt_put {kvs : List (List Key × V)} {ds : List ((Int × Int) × β)} (h : RpE K G kvs (ds.map fun p => (kyP p.1, f p.2))) {k : Int × Int} {v : V} {d : β} (r : Rp K G v (f d)) : RpE K G (putK kvs (kyP k) v) ((putT ds k d).map fun p => (kyP p.1, f p.2)) := by
  unfold putK putT
  rw [rpt_any h k]
  by_cases e : hasT k ds = true
  · rw [if_pos e, if_pos e]
    clear e
    induction ds generalizing kvs with
    | nil =>
      cases h
      exact .nil
    | cons x ds ih =>
      cases h with
      | @cons _ w _ t _ h1 h2 =>
        rw [List.map_cons, List.map_cons, List.map_cons]
        by_cases e : x.1 = k
        · rw [if_pos (show kyP x.1 = kyP k by rw [e]), if_pos e]
          exact .cons r (ih h2)
        · rw [if_neg (show ¬ kyP x.1 = kyP k from fun z => e (kyP_inj z)), if_neg e]
          exact .cons h1 (ih h2)
  · rw [if_neg e, if_neg e, List.map_append]
    exact rpt_append h (.cons r .nil)
theorem valV_any' (k : List Key) (kvs : List (List Key × V)) : (valV kvs k).isSome = kvs.any fun kv => decide (kv.1 = k) := (valV_any k kvs).symm
end
section
variable {K : PySem.W.Frag} {B : Base} {G H : Hp} {σ : L2.St} {ρ : List Slot} {ex : List (V × Slot)}
/-- a new dict, owned -/
theorem En.newDT (E : En K B G H σ ρ ex) {p : Addr} (hp : H p = none) {kvs : List (List Key × V)} {ds : List (List Key × D)} (r : RpE K G kvs ds) : En K B G (upd H p (.dT kvs)) σ ρ ((.ref p, .own 0 (.dt ds)) :: ex) := by
  obtain ⟨A, c, n, f⟩ := E.own
  have hG := E.sub.back hp
  have h0 := E.fresh hp
  have hn : p ∉ A := fun m => by
    obtain ⟨u, hu⟩ := c.there p m
    rw [hu] at hp
    cases hp
  refine ⟨E.anc.put hG (.inr h0) _, ⟨p :: ([] ++ A), .cons (A := [p]) (.own (.dt upd_same r) (fun a m => by
      rw [List.mem_singleton.mp m]
      exact .inr h0) (.inl rfl)) (c.ex (Ex.refl G) fun a m u e => by
      rw [upd_ne (ne_of_none e hp)]
      exact e), ?_, fun a m => ?_⟩, E.len, fun i j q e => ?_⟩
  · exact List.nodup_cons.mpr ⟨hn, n⟩
  · rcases List.mem_cons.mp m with rfl | m
    · exact hG
    · exact f a m
  · obtain ⟨v, w, h1, h2, h3⟩ := E.ali i j q e
    exact ⟨v, w, h1, h2, h3.ex (Ex.new hp)⟩
theorem En.ownDT (E : En K B G H σ ρ ex) {i l : Nat} {ds : List (List Key × D)} (h : ρ[i]? = some (.own l (.dt ds))) (hal : noAlis ρ = true) : ∃ p kvs, σ[i]? = some (some (.ref p)) ∧ H p = some (.dT kvs) ∧ RpE K G kvs ds ∧
    ∀ kvs' ds', RpE K G kvs' ds' → En K B G (upd H p (.dT kvs')) σ (ρ.set i (.own l (.dt ds'))) ex := by
  obtain ⟨A0, c, n, g⟩ := E.own
  have hi : i < ρ.length := (List.getElem?_eq_some_iff.mp h).1
  have h' : (ex.map (·.2) ++ ρ)[ex.length + i]? = some (.own l (.dt ds)) := by
    rw [List.getElem?_append_right (by simp), List.length_map]
    simpa using h
  obtain ⟨v, A, A2, e1, hO, ⟨hl, hp⟩, c2, pm⟩ := c.take1 h'
  rw [List.getElem?_append_right (by simp), List.length_map] at e1
  have e1 : σ[i]? = some (some v) := by simpa using e1
  have nn := pm.nodup_iff.mp n
  have n1 := List.nodup_append.mp nn
  cases hO with
  | @dt a kvs _ ha hr =>
    refine ⟨a, kvs, e1, ha, hr, fun kvs' ds' r' => ?_⟩
    have hG : G a = none := g a (pm.mem_iff.mpr (List.mem_append_left _ List.mem_cons_self))
    have c3 : Cells K B G (upd H a (.dT kvs')) (ex.map (fun p => some p.1) ++ σ) ((ex.map (·.2) ++ ρ).set (ex.length + i) .non) A2 := c2.ex (Ex.refl G) fun b m u e => by
      rw [upd_ne (fun z => by
        subst z
        exact n1.2.2 b List.mem_cons_self b m rfl)]
      exact e
    obtain ⟨A8, c8, p8⟩ := c3.put1 (i := ex.length + i) (l := l) (o := .dt ds') (v := .ref a) (A1 := [a]) (by
      rw [List.getElem?_set_self]
      rw [List.length_append, List.length_map]
      omega) (by
      rw [List.getElem?_append_right (by simp), List.length_map]
      simpa using e1) (.dt upd_same r') ⟨hl, hp⟩
    rw [List.set_set, List.set_append_right _ _ (by simp), List.length_map, Nat.add_sub_cancel_left] at c8
    refine ⟨E.anc.put hG ((hl a List.mem_cons_self).elim (fun z => .inl ⟨l, z⟩) .inr) _, ⟨A8, c8, p8.nodup_iff.mpr nn, fun b m => g b (pm.mem_iff.mpr (p8.mem_iff.mp m))⟩, by rw [List.length_set]; exact E.len, fun k j q e => ?_⟩
    by_cases hk : i = k
    · subst hk
      rw [List.getElem?_set_self hi] at e
      cases e
    · rw [List.getElem?_set_ne hk] at e
      exact absurd e (noAlis_get hal)
end
section
variable {X : Cx} {B : Base} {ρ : List Slot} {e a b o2 val : Expr} {es : List Expr} {pos pos' : Pos} {β γ : Type}
/-- {} -/
theorem je_newT {f : β → D} : JE X B ρ (.Dict [] [] pos) (.ok ()) (fun _ => .own 0 (odT f ([] : List ((Int × Int) × β)))) (fun _ => ρ) :=
  PE_imp pe_dnewT fun σ H Q ⟨G, E, q⟩ p hp => q _ G _ (Ex.refl G) (E.newDT hp .nil)
/-- (a, b) as a key -/
theorem je_tupK {x1 : Nat} {m : R γ} {as : γ → List Ar} {ρ' : γ → List Slot} {p : γ → Int × Int} (h : JA X B ρ es m as ρ') (hp : ∀ b, arDs (as b) = [D.int (p b).1, D.int (p b).2] := by intro _; rfl) (hs : ∀ b, noSlots (as b) = true := by intro _; rfl) : JE X B ρ (.Tuple es x1 pos) m (fun b => .val (eK2 (p b))) ρ' :=
  PE_imp (pe_tup h) fun σ H Q ⟨G, E, q⟩ => ⟨G, E, R.post_mono q fun b k vs G1 H1 x1 E1 ok => by
    have r := ok.ds (hs b)
    rw [hp b] at r
    have hv : vs = [(p b).1, (p b).2].map V.int := r.ints (ns := [(p b).1, (p b).2])
    subst hv
    refine ⟨?_, fun q hq => k _ (upd G1 q _) _ (x1.trans (Ex.new (E1.sub.back hq))) ((E1.new hq _).push (.key upd_same))⟩
    exact Nat.le_of_lt (small1000 (show 2 ≤ 1000 by decide))⟩
/-- d[k] = v -/
theorem j1_dputT (i : Nat) {x : Str} {px : Pos} {l : Nat} {f : β → D} {kvs : List ((Int × Int) × β)} {k : Int × Int} {v : β} (hu : X.A.units + 64 < cLine) (h : ρ[i]? = some (.own l (odT f kvs)) := by rfl) (hk : JP X B ρ o2 (eK2 k)) (hv : JP X B ρ val (f v)) (hal : noAlis ρ = true := by rfl) (hN : X.N[i]? = some x := by rfl)
    (hvi : Vis X.env.scope x := by first | exact Or.inl rfl | exact Or.inr (Or.inl rfl) | exact Or.inr (Or.inr rfl)) (hd : (x == ("__debug__" : Str)) = false := by decide) (hcd : (x == ("__classdict__" : Str)) = false := by decide)
    (hs : swapsWith val (some (.Subscript (.Name x px) o2 pos')) pos.line X.env = pure false := by rfl) :
    J1 X B ρ (.Assign [.Subscript (.Name x px) o2 pos'] val pos) (R.guard (kvs.length < sizeLine)) (fun _ => ρ.set i (.own l (odT f (putT kvs k v)))) :=
  PS_imp (ps_dput (by omega) (pv (X := X) (pos := px) i hN hvi hd hcd) hk hv hs) fun Dn σ H ⟨G, E, q⟩ => by
    obtain ⟨hc, q⟩ := R.post_guard q
    refine ⟨G, E, fun w G1 H1 x1 E1 => ?_⟩
    obtain ⟨p, kv, g1, g2, g3, _⟩ := E1.pop.ownDT h hal
    refine ⟨.ref p, g1, G1, E1.pop, fun y G2 H2 x2 E2 => ?_⟩
    obtain ⟨kb, hy, hkb⟩ := E2.top.key_inv
    subst hy
    obtain ⟨p', kv', f1, f2, f3, f4⟩ := E2.pop.ownDT h hal
    have ep : p' = p := by
      have z := f1.symm.trans g1
      injection z with z
      injection z with z
      injection z
    subst ep
    have hl : kv'.length < sizeLine := by
      rw [rpt_len f3, List.length_map]
      exact hc
    exact ⟨p', _, rfl, DPut.t (k := kyP k) (v := w) f2 (E2.sub _ _ hkb) hl, q σ G2 _ (x1.trans x2) (f4 _ _ (rpt_put f3 (E1.top.ex x2)))⟩
/-- k in d, k not in d -/
theorem je_dinT (i : Nat) {x : Str} {px : Pos} {l : Nat} {f : β → D} {kvs : List ((Int × Int) × β)} {k : Int × Int} (hu : X.A.units + 64 < cLine) (h : ρ[i]? = some (.own l (odT f kvs)) := by rfl) (hk : JP X B ρ a (eK2 k)) (hal : noAlis ρ = true := by rfl) (hN : X.N[i]? = some x := by rfl)
    (hvi : Vis X.env.scope x := by first | exact Or.inl rfl | exact Or.inr (Or.inl rfl) | exact Or.inr (Or.inr rfl)) (hd : (x == ("__debug__" : Str)) = false := by decide) (hcd : (x == ("__classdict__" : Str)) = false := by decide)
    (hm : behindInMarks .In (.Name x px) = false := by rfl) :
    JP X B ρ (.Compare a [.In] [.Name x px] pos) (.bool (hasT k kvs)) :=
  PE_imp (pe_cmp (pc_din (by omega) hk (pv (X := X) (pos := px) i hN hvi hd hcd)) hm) fun σ H Q ⟨G, E, q⟩ => by
    refine ⟨G, E, fun w G1 H1 x1 E1 => ?_⟩
    obtain ⟨kb, hy, hkb⟩ := E1.top.key_inv
    subst hy
    obtain ⟨p, kv, g1, g2, g3, _⟩ := E1.pop.ownDT h hal
    refine ⟨.ref p, g1, p, _, rfl, DGet.t (k := kyP k) g2 (E1.sub _ _ hkb), ?_⟩
    rw [valV_any', rpt_any g3]
    exact q _ G1 H1 x1 (E1.pop.push (.bl _))
theorem je_dniT (i : Nat) {x : Str} {px : Pos} {l : Nat} {f : β → D} {kvs : List ((Int × Int) × β)} {k : Int × Int} (hu : X.A.units + 64 < cLine) (h : ρ[i]? = some (.own l (odT f kvs)) := by rfl) (hk : JP X B ρ a (eK2 k)) (hal : noAlis ρ = true := by rfl) (hN : X.N[i]? = some x := by rfl)
    (hvi : Vis X.env.scope x := by first | exact Or.inl rfl | exact Or.inr (Or.inl rfl) | exact Or.inr (Or.inr rfl)) (hd : (x == ("__debug__" : Str)) = false := by decide) (hcd : (x == ("__classdict__" : Str)) = false := by decide)
    (hm : behindInMarks .NotIn (.Name x px) = false := by rfl) :
    JP X B ρ (.Compare a [.NotIn] [.Name x px] pos) (.bool (!hasT k kvs)) :=
  PE_imp (pe_cmp (pc_dnotin (by omega) hk (pv (X := X) (pos := px) i hN hvi hd hcd)) hm) fun σ H Q ⟨G, E, q⟩ => by
    refine ⟨G, E, fun w G1 H1 x1 E1 => ?_⟩
    obtain ⟨kb, hy, hkb⟩ := E1.top.key_inv
    subst hy
    obtain ⟨p, kv, g1, g2, g3, _⟩ := E1.pop.ownDT h hal
    refine ⟨.ref p, g1, p, _, rfl, DGet.t (k := kyP k) g2 (E1.sub _ _ hkb), ?_⟩
    rw [valV_any', rpt_any g3]
    exact q _ G1 H1 x1 (E1.pop.push (.bl _))
end
end DL

/-! DL36: dict(list of (key, value)), update: keys that are tuples -/
namespace L2
open PySem PySem.Spec PyProof.Rows
def mergeL (kvs more : List (List Key × V)) : List (List Key × V) := more.foldl (fun acc kv => putK acc kv.1 kv.2) kvs
theorem KT.merge {H : Hp} : ∀ {kws : List (List Key × V)} {xs : List (List Key × Addr × Value)} {kvs : List (List Key × V)} {ys : List (List Key × Addr × Value)}, KT H kws xs → KT H kvs ys → KT H (mergeL kvs kws) (storedAllH ys xs)
  | [], [], _, _, .nil, h => h
  | kv :: kws, x :: xs, _, _, .cons h t, r => by
    obtain ⟨h1, h2, h3⟩ := h
    have := KT.put r kv.1 (b := x.2.1) (u := x.2.2) (by exact h2) h3
    rw [h1] at this
    show KT H (mergeL (putK _ kv.1 kv.2) kws) (storedAllH (storedH _ x.1 x.2.1 x.2.2) xs)
    rw [h1]
    exact KT.merge t this
theorem length_mergeL : ∀ (more kvs : List (List Key × V)), (mergeL kvs more).length ≤ kvs.length + more.length
  | [], kvs => Nat.le_refl _
  | m :: more, kvs => by
    refine Nat.le_trans (length_mergeL more (putK kvs m.1 m.2)) ?_
    have : (putK kvs m.1 m.2).length ≤ kvs.length + 1 := by
      unfold putK
      split
      · rw [List.length_map]; omega
      · rw [List.length_append, List.length_singleton]; exact Nat.le_refl _
    rw [List.length_cons]
    omega
section
variable {X : Cx}
def rDictT (K : PySem.W.Frag) : List V → Hp → VK → Prop := fun xs H Q => ∃ (a : Addr) (ps : List Addr) (kvs : List (List Key × V)), xs = [.ref a] ∧ SqL K H a (ps.map V.ref) ∧
  Paired (fun p (kv : List Key × V) => ∃ b, SqT K H p [.ref b, kv.2] ∧ H b = some (.tup (kv.1.map kV))) ps kvs ∧ ∀ p, H p = none → Q (.ref p) (upd H p (.dT (mergeL [] kvs)))
theorem pairs_ofT {pins : List (Addr × Obj)} {σ : St} {H : Hp} {s : Shared} (I : Inv X pins σ H s) : ∀ {ps : List Addr} {kvs : List (List Key × V)}, Paired (fun p (kv : List Key × V) => ∃ b, SqT X.K H p [.ref b, kv.2] ∧ H b = some (.tup (kv.1.map kV))) ps kvs →
    ∃ prs : List (List Key × Addr × Value), KT H kvs prs ∧ prs.length = ps.length ∧ ∀ (j : Nat) q, prs[j]? = some q → ∃ b, ps[j]? = some b ∧ IsTup s.heap b #[.ref q.2.1, q.2.2]
  | _, _, .nil => ⟨[], .nil, rfl, fun j q e => by simp at e⟩
  | _, _, .cons (a := p) (b := kv) h t => by
    obtain ⟨prs, r, hl, hp⟩ := pairs_ofT I t
    obtain ⟨b, hS, hb⟩ := h
    obtain ⟨its, rv, ht, _⟩ := I.tuple hS
    obtain ⟨u, y, ei, ru, ry⟩ := vals2 rv
    subst ei
    cases (show u = Value.ref b from ru)
    refine ⟨(kv.1, b, y) :: prs, .cons ⟨rfl, hb, ry⟩ r, by rw [List.length_cons, List.length_cons, hl], fun j q e => ?_⟩
    cases j with
    | zero =>
      have e' : (kv.1, b, y) = q := Option.some.inj e
      subst e'
      exact ⟨p, rfl, ht⟩
    | succ j =>
      obtain ⟨b', e1, e2⟩ := hp j q (by simpa using e)
      exact ⟨b', by simpa using e1, e2⟩
theorem keys_stay {pins : List (Addr × Obj)} {σ : St} {H : Hp} {s : Shared} (I : Inv X pins σ H s) {kvs : List (List Key × V)} {prs : List (List Key × Addr × Value)} (r : KT H kvs prs) {h' : Heap} {d : Addr} (hd : s.heap.objs.size ≤ d) (k : ∀ b o, b ≠ d → s.heap.get? b = some o → h'.get? b = some o) : ∀ x ∈ prs, (tupleKind (mixKind X.prog X.w)).is h' x.1 x.2.1 := by
  induction r with
  | nil => intro x hx; exact nomatch hx
  | @cons p q ps qs hq t ih =>
    intro x hx
    rcases List.mem_cons.mp hx with e | hx
    · subst e
      obtain ⟨h1, h2, _⟩ := hq
      rw [h1] at h2
      obtain ⟨o, its, n, g1, g2⟩ := key_of I.hok h2
      exact ⟨o, its, n, k _ _ (Nat.ne_of_lt (Nat.lt_of_lt_of_le (Heap.lt_size g1) hd)) g1, g2⟩
    · exact ih x hx
theorem cr_dictT (hcalm : X.calm = true) (hu : X.A.units + 64 < cLine) : CallR X (.type "dict") (rDictT X.K) := by
  intro pins s σ H xs us Q I r q
  obtain ⟨a, ps, kvs, ex, hq, hp, q⟩ := q
  subst ex
  rw [Vals.ref1 r]
  obtain ⟨its, rv, pl, hz⟩ := I.list hq
  have ei := refs_at rv
  subst ei
  rw [List.length_map] at hz
  obtain ⟨prs, rel, hl, hpr⟩ := pairs_ofT I hp
  obtain ⟨o, n, ho, hc, hd, hdat⟩ := pl
  have P := PairArg.list (prog := X.prog) (w := X.w) a (ps.map Value.ref).toArray (fun j => (ps[j]?).getD 0) (prs.map fun q => (Value.ref q.2.1, q.2.2))
  refine call_dict_pairsH (knd := tupleKind (mixKind X.prog X.w)) (ps := prs) P (I.ok.hd hcalm) (tupleKind_room_in1 (show X.A.units + 1 + 1 < cLine by omega)) ⟨⟨o, n, ho, hc, hd, hdat⟩, by simp [hl], fun j k v e => ?_⟩ ⟨by rw [List.length_map], fun i key v e => ?_⟩ (fun h' k => keys_stay I rel (Nat.le_refl _) fun b ob hb e => k b ob hb (fun z => nomatch z) e) (by rw [List.length_map, hl]; exact hz) fun h' tk hd' k => ?_
  · rw [List.getElem?_map] at e
    obtain ⟨q', e1, e2⟩ := Option.map_eq_some_iff.mp e
    obtain ⟨b, e3, e4⟩ := hpr j q' e1
    injection e2 with e5 e6
    subst e5 e6
    refine ⟨by simp [e3], .inl ?_⟩
    show s.heap.IsTuple ((ps[j]?).getD 0) _
    rw [e3]
    exact e4
  · have e : (prs.map fun q => (Value.ref q.2.1, q.2.2))[i]? = some (key, v) := e
    rw [List.getElem?_map] at e
    obtain ⟨q', e1, e2⟩ := Option.map_eq_some_iff.mp e
    injection e2 with e5 e6
    subst e5 e6
    exact ⟨q'.1, q'.2.1, e1, rfl⟩
  · have hm : (s.heap.objs.size == sysModules) = false := beq_eq_false_iff_ne.mpr (Nat.ne_of_gt I.big)
    have hlen : (mergeL [] kvs).length ≤ sizeLine := by
      refine Nat.le_trans (length_mergeL kvs []) ?_
      rw [List.length_nil, Nat.zero_add, rel.length, hl]
      exact hz
    have hn : H s.heap.objs.size = none := I.hok.fresh (Nat.le_refl _)
    have kt : KT (upd H s.heap.objs.size (.dT (mergeL [] kvs))) (mergeL [] kvs) (storedAllH [] prs) := (KT.merge rel .nil).keeps fun b ys e => by
      rw [upd_ne (fun z => by rw [z, hn] at e; cases e)]
      exact e
    obtain ⟨o', es, ep, g1, g2, g3, g4, g5, g6⟩ := hd'
    exact ⟨.ref s.heap.objs.size, upd H s.heap.objs.size (.dT (mergeL [] kvs)), I.laid (t' := tk) (fun b ob e => k b ob (fun z => nomatch z) e) (Nat.le_refl _) (show ObjOk X.prog X.w _ _ _ (.dT (mergeL [] kvs)) from ⟨hlen, hm, _, kt, o', es, ep, g1, g2, g3, g4, g6⟩), rfl, q _ hn⟩
end
end L2

/-! DL37: d.update(e), keys that are tuples -/
namespace L2
open PySem PySem.Spec PyProof.Rows
section
variable {X : Cx}
def rUpdT (P : Program) (w : World) : V → List V → Hp → VK → Prop := fun x xs H Q => ∃ (a b : Addr) (kvs kws : List (List Key × V)), x = .ref a ∧ xs = [.ref b] ∧ a ≠ b ∧ H a = some (.dT kvs) ∧ H b = some (.dT kws) ∧
  (kvs ≠ [] ∨ (kws.map fun p => (tupleKind (mixKind P w)).hash p.1).Nodup) ∧ kvs.length + kws.length ≤ sizeLine ∧ Q .non (upd H a (.dT (mergeL kvs kws)))
theorem KT.keys {H : Hp} {kvs : List (List Key × V)} {xs : List (List Key × Addr × Value)} (r : KT H kvs xs) : xs.map (·.1) = kvs.map (·.1) ∧ ∀ x ∈ xs, H x.2.1 = some (.tup (x.1.map kV)) := by
  induction r with
  | nil => exact ⟨rfl, fun x h => nomatch h⟩
  | @cons p q ps qs h t ih =>
    obtain ⟨h1, h2, _⟩ := h
    refine ⟨by rw [List.map_cons, List.map_cons, ih.1, h1], fun x hx => ?_⟩
    rcases List.mem_cons.mp hx with e | hx
    · rw [e, ← h1]; exact h2
    · exact ih.2 x hx
theorem mt_updT (hu : X.A.units + 64 < cLine) : MtR X "dict.update" (rUpdT X.prog X.w) := by
  intro pins s σ H x xs v us Q I rx rxs h
  obtain ⟨a, b, kvs, kws, rfl, rfl, ne, ha, hb, hap, hz, q⟩ := h
  cases rx
  obtain ⟨u, rfl, ru⟩ := rxs.one
  cases ru
  obtain ⟨z1, d1, xs1, r1, dd1⟩ := dt_of I.hok ha
  obtain ⟨z2, d2, xs2, r2, dd2⟩ := dt_of I.hok hb
  have l1 := Paired.length r1
  have l2 := Paired.length r2
  obtain ⟨k1, k2⟩ := r2.keys
  have hap' : xs1 ≠ [] ∨ ((∀ x ∈ xs2, s.TypeIs (.ref x.2.1) "tuple") ∧ (xs2.map fun x => (tupleKind (mixKind X.prog X.w)).hash x.1).Nodup) := by
    rcases hap with h | h
    · refine .inl fun e => h ?_
      rw [e] at l1
      exact List.length_eq_zero_iff.mp l1
    · refine .inr ⟨fun x hx => ?_, ?_⟩
      · obtain ⟨its, _, pt, _⟩ := I.tuple (.inl (.inl (k2 x hx)))
        exact pt.typeIs
      · have e : (xs2.map fun x => (tupleKind (mixKind X.prog X.w)).hash x.1) = (xs2.map (·.1)).map (tupleKind (mixKind X.prog X.w)).hash := by rw [List.map_map]; rfl
        have e2 : (kws.map fun p => (tupleKind (mixKind X.prog X.w)).hash p.1) = (kws.map (·.1)).map (tupleKind (mixKind X.prog X.w)).hash := by rw [List.map_map]; rfl
        rw [e, k1, ← e2]
        exact h
  refine PySem.call_update_dictH (knd := tupleKind (mixKind X.prog X.w)) (tupleKind_room_in1 (by omega)) ne d2 dd1 dd2 hap' (by omega) fun h' da db sb => ?_
  have hl : (mergeL kvs kws).length ≤ sizeLine := Nat.le_trans (length_mergeL kws kvs) hz
  obtain ⟨q', es, ep, hq, h2, h3, h4, _, h5⟩ := da
  refine ⟨.non, upd H a (.dT (mergeL kvs kws)), d_write I (by rw [ha]; exact True.intro) sb ⟨q', hq⟩ ⟨hl, d1, _, (KT.merge r2 r1).keeps fun c ys ec => ?_, q', es, ep, hq, h2, h3, h4, h5⟩, rfl, q⟩
  rw [upd_ne (ne_of ec ha (fun z => nomatch z))]
  exact ec
end
end L2

/-! DL38: dict(list of (key, value)), d.update(e) in the data layer -/
namespace DL
open PySem PySem.Spec L2
/-- a key's hash -/
def khash (p : Int × Int) : Int := reduceHash (Builtin.Tuple.tupleHashOf [hashInt p.1, hashInt p.2])
theorem khash_is {P : Program} {w : World} (p : Int × Int) : (tupleKind (mixKind P w)).hash (kyP p) = khash p := rfl
section
variable {K : PySem.W.Frag} {B : Base} {ρ : List Slot} {β : Type} {f : β → D}
theorem rpt_merge {G : Hp} : ∀ {more : List ((Int × Int) × β)} {kws : List (List Key × V)} {kvs : List (List Key × V)} {ds : List ((Int × Int) × β)}, RpE K G kws (more.map fun p => (kyP p.1, f p.2)) → RpE K G kvs (ds.map fun p => (kyP p.1, f p.2)) → RpE K G (mergeL kvs kws) ((mergeT ds more).map fun p => (kyP p.1, f p.2))
  | [], _, _, _, .nil, h => h
  | m :: more, kws, kvs, ds, h0, h => by
    cases h0 with
    | @cons _ w _ r _ h1 h2 => exact rpt_merge (more := more) (kws := r) (ds := putT ds m.1 m.2) h2 (rpt_put h h1)
theorem rpt_keys {G : Hp} {kvs : List (List Key × V)} {ds : List ((Int × Int) × β)} (h : RpE K G kvs (ds.map fun p => (kyP p.1, f p.2))) : kvs.map (·.1) = ds.map fun p => kyP p.1 := by
  induction ds generalizing kvs with
  | nil => cases h; rfl
  | cons x ds ih =>
    cases h with
    | cons h1 h2 => rw [List.map_cons, List.map_cons, ih h2]
theorem pairsT_rp {G : Hp} : ∀ {xs : List ((Int × Int) × β)} {vs : List V}, RpAll K G vs (xs.map (eP2 eK2 f)) → ∃ (ps : List Addr) (kvs : List (List Key × V)), vs = ps.map V.ref ∧ Paired (fun p (kv : List Key × V) => ∃ b, SqT K G p [.ref b, kv.2] ∧ G b = some (.tup (kv.1.map kV))) ps kvs ∧ RpE K G kvs (xs.map fun p => (kyP p.1, f p.2))
  | [], _, .nil => ⟨[], [], rfl, .nil, .nil⟩
  | x :: xs, _, .cons h r => by
    obtain ⟨ps, kvs, e1, e2, e3⟩ := pairsT_rp r
    obtain ⟨p, ws, e4, hS, hr⟩ := h.tup_inv
    obtain ⟨v, w, rfl, h1, h2⟩ := rp2 hr
    obtain ⟨b, e5, hb⟩ := h1.key_inv
    subst e5 e1 e4
    exact ⟨p :: ps, (kyP x.1, w) :: kvs, rfl, .cons ⟨b, hS, hb⟩ e2, .cons h2 e3⟩
theorem pairedT_ex {G H : Hp} (e : Ex G H) : ∀ {ps : List Addr} {kvs : List (List Key × V)}, Paired (fun p (kv : List Key × V) => ∃ b, SqT K G p [.ref b, kv.2] ∧ G b = some (.tup (kv.1.map kV))) ps kvs → Paired (fun p (kv : List Key × V) => ∃ b, SqT K H p [.ref b, kv.2] ∧ H b = some (.tup (kv.1.map kV))) ps kvs
  | _, _, .nil => .nil
  | _, _, .cons ⟨b, h, hb⟩ r => .cons ⟨b, e.t h, e _ _ hb⟩ (pairedT_ex e r)
theorem cb_dictT {xs : List ((Int × Int) × β)} : CbD K B ρ (rDictT K) [.val (eL (eP2 eK2 f) xs)] (.ok ()) (fun _ => .own 0 (odT f (mergeT [] xs))) := fun G H σ vs Q E ok q => by
  obtain ⟨v, rfl, r⟩ := ok.one
  obtain ⟨p, ws, rfl, hS, hr⟩ := r.lst_inv
  obtain ⟨ps, kvs, rfl, e2, e3⟩ := pairsT_rp hr
  refine ⟨p, ps, kvs, rfl, .inl (E.sub.rd hS), pairedT_ex E.sub e2, fun p' hp => q _ G _ (Ex.refl G) (E.newDT hp (rpt_merge (ds := ([] : List ((Int × Int) × β))) e3 .nil))⟩
end
section
variable {X : Cx} {B : Base} {ρ : List Slot} {pos : Pos} {e : Expr}
/-- two owned dicts lie apart -/
theorem En.apartT {K : PySem.W.Frag} {B : Base} {G H : Hp} {σ : L2.St} {ρ : List Slot} {v : V} {ex : List (V × Slot)} {i l l' : Nat} {ds es : List (List Key × D)} (E : En K B G H σ ρ ((v, .own l' (.dt es)) :: ex)) (h : ρ[i]? = some (.own l (.dt ds))) :
    ∃ p q kvs kws, σ[i]? = some (some (.ref p)) ∧ v = .ref q ∧ p ≠ q ∧ H p = some (.dT kvs) ∧ H q = some (.dT kws) ∧ RpE K G kvs ds ∧ RpE K G kws es := by
  obtain ⟨A0, c, n, g⟩ := E.own
  have c' : Cells K B G H (some v :: (ex.map (fun p => some p.1) ++ σ)) (.own l' (.dt es) :: (ex.map (·.2) ++ ρ)) A0 := c
  cases c' with
  | @cons _ _ A1 _ _ A2 c1 c2 =>
    cases c1 with
    | own hO hl hp =>
      cases hO with
      | @dt q kws _ hq hr =>
        obtain ⟨w, A3, A4, e1, hO2, _, _, pm⟩ := c2.take1 (i := ex.length + i) (by
          rw [List.getElem?_append_right (by simp), List.length_map]
          simpa using h)
        rw [List.getElem?_append_right (by simp), List.length_map] at e1
        have e1 : σ[i]? = some (some w) := by simpa using e1
        cases hO2 with
        | @dt p kvs _ hp' hr' =>
          refine ⟨p, q, kvs, kws, e1, rfl, fun z => ?_, hp', hq, hr', hr⟩
          have := (List.nodup_append.mp n).2.2 q List.mem_cons_self p (pm.mem_iff.mpr (List.mem_append_left _ List.mem_cons_self))
          exact this z.symm
/-- d.update(e), e a new dict -/
theorem je_updT (i : Nat) {x : Str} {px ap : Pos} {l l0 : Nat} {ds0 : List (List Key × D)} {β α : Type} {f : α → D} {m : R β} {y : β → List ((Int × Int) × α)} {ρ' : β → List Slot} (xs : β → List ((Int × Int) × α)) (hu : X.A.units + 64 < cLine) (he : JE X B ρ e m (fun b => .own 0 (odT f (y b))) ρ') (h : ∀ b, (ρ' b)[i]? = some (.own l (odT f (xs b))) := by intro _; rfl) (hal : ∀ b, noAlis (ρ' b) = true := by intro _; rfl)
    (h0 : ρ[i]? = some (.own l0 (.dt ds0)) := by rfl) (hN : X.N[i]? = some x := by rfl) (hv : Vis X.env.scope x := by first | exact Or.inl rfl | exact Or.inr (Or.inl rfl) | exact Or.inr (Or.inr rfl))
    (hd : (x == ("__debug__" : Str)) = false := by decide) (hcd : (x == ("__classdict__" : Str)) = false := by decide) (hst : starEach [e] X.env = (false, eval e X.env) :: starEach [] X.env := by rfl)
    (hbase : attributeBase (.Name x px) "update" X.env (eval (.Name x px) X.env) = eval (.Name x px) X.env := by rfl)
    (hone : ((backTo pos (starEach [e] X.env)).all (fun x => !x.1) && (backToKw pos (keywordEach [] X.env)).all (fun x => x.1.isSome) && decide ([e].length + ([] : List Keyword).length + (if ([] : List Keyword).isEmpty then 0 else 1) < 30)) = true := by rfl)
    (hline : (ap.endLine == pos.line) = true := by rfl) (hnil : (backTo pos (starEach [] X.env)).any (·.1) = false := by rfl) :
    JE X B ρ (.Call (.Attribute (.Name x px) "update" ap) [e] [] pos) (m.bind fun b => (R.guard ((xs b ≠ [] ∨ ((y b).map fun p => khash p.1).Nodup) ∧ (xs b).length + (y b).length ≤ sizeLine)).bind fun _ => .ok b) (fun _ => .val .none) (fun b => (ρ' b).set i (.own l (odT f (mergeT (xs b) (y b))))) :=
  PE_imp (pe_bm PySem.F.plainAttrs_dict PySem.F.slot_dict_update PySem.F.type_dict_update (mt_updT hu) (pv (X := X) (pos := px) i hN hv hd hcd) (pa_cons he pa_nil hst) hbase hone hline hst hnil) fun σ H Q ⟨G, E, q⟩ => by
    obtain ⟨A, c, n, g⟩ := E.own
    obtain ⟨v, A1, A2, e1, hO, hl, c2, pm⟩ := Cells.take1 (show Cells X.K B G H σ ρ A from c) h0
    cases hO with
    | @dt a kvs0 _ ha hr0 =>
      refine ⟨.ref a, e1, .inr (.inr (.inl ⟨rfl, .inr ⟨_, ha⟩⟩)), G, E, R.post_mono (R.post_bind.mp q) fun b q w G1 H1 x1 E1 => ?_⟩
      obtain ⟨⟨hc, hz⟩, q⟩ := R.post_guard (R.post_bind.mp q)
      obtain ⟨p, p2, kvs, kws, g1, g2, ne, g3, g4, g5, g6⟩ := E1.apartT (h b)
      subst g2
      have ep : p = a := by
        have z := g1.symm.trans e1
        injection z with z
        injection z with z
        injection z
      subst ep
      obtain ⟨p', kv', f1, f2, f3, f4⟩ := E1.pop.ownDT (h b) (hal b)
      have ep : p' = p := by
        have z := f1.symm.trans g1
        injection z with z
        injection z with z
        injection z
      subst ep
      have ek : kvs = kv' := by
        have z := g3.symm.trans f2
        injection z with z
        injection z
      subst ek
      refine ⟨p', p2, kvs, kws, rfl, rfl, ne, g3, g4, ?_, ?_, q _ G1 _ x1 ((f4 _ _ (rpt_merge g6 f3)).push .non)⟩
      · rcases hc with hc | hc
        · refine .inl fun z => hc ?_
          have := rpt_len f3
          rw [z, List.length_map] at this
          exact List.length_eq_zero_iff.mp this.symm
        · refine .inr ?_
          have e1 : (kws.map fun p => (tupleKind (mixKind X.prog X.w)).hash p.1) = (kws.map (·.1)).map (tupleKind (mixKind X.prog X.w)).hash := by rw [List.map_map]; rfl
          rw [e1, rpt_keys g6, List.map_map]
          exact hc
      · have h1 := rpt_len f3
        have h2 := rpt_len g6
        rw [List.length_map] at h1 h2
        omega
end
end DL

/-! DL39: sorted(l), l any data; min(l), l keys -/
namespace DL
open PySem PySem.Spec L2 PySem.W PyProof.Rows
/-- sorted as the language sorts -/
noncomputable def srtD {α : Type} (f : α → D) (xs : List α) : List α := xs.mergeSort (dataLe false fun x => pdOf (f x))
/-- it can be sorted -/
def SortOk {α : Type} (f : α → D) (xs : List α) : Prop := (∀ x ∈ xs, plainD (f x) = true) ∧ AllAlike (xs.map fun x => pdOf (f x)) ∧ Sortable (xs.map fun x => pdOf (f x)) ∧ ∀ x ∈ xs, (pdOf (f x)).depth ≤ 50
section
variable {X : Cx} {pins : List (Addr × Obj)} {σ : L2.St} {G H : Hp} {s : Shared} {α : Type} {f : α → D}
def VR (K : PySem.W.Frag) (G : Hp) (f : α → D) (v : Value) (b : α) : Prop := ∃ x, RelV x v ∧ Rp K G x (f b)
theorem each_of {K : PySem.W.Frag} {G : Hp} : ∀ {ys : List V} {its : List Value} {xs : List α}, Vals ys its → RpAll K G ys (xs.map f) → EachIs (VR K G f) its xs
  | _, _, [], .nil, .nil => .nil
  | _, _, _ :: _, .cons r t, .cons h q => .cons ⟨_, r, h⟩ (each_of t q)
theorem each_back {K : PySem.W.Frag} {G : Hp} : ∀ {its : List Value} {xs : List α}, EachIs (VR K G f) its xs → ∃ ys, Vals ys its ∧ RpAll K G ys (xs.map f)
  | _, _, .nil => ⟨[], .nil, .nil⟩
  | _, _, .cons ⟨x, r, h⟩ t => by
    obtain ⟨ys, a, b⟩ := each_back t
    exact ⟨x :: ys, .cons r a, .cons h b⟩
theorem each_reads (I : Inv X pins σ H s) (e : Ex G H) : ∀ {its : List Value} {xs : List α}, EachIs (VR X.K G f) its xs → (∀ x ∈ xs, plainD (f x) = true) → EachIs (fun v b => ∃ as, Reads s.heap v (pdOf (f b)) as) its xs
  | _, _, .nil, _ => .nil
  | _, _, .cons ⟨x, r, h⟩ t, p => .cons (Rp.reads I e h r (p _ List.mem_cons_self)) (each_reads I e t fun y m => p y (List.mem_cons_of_mem _ m))
def rSortD (K : PySem.W.Frag) (f : α → D) (xs : List α) : List V → Hp → VK → Prop := fun vs H Q => ∃ (a : Addr) (G : Hp) (ys : List V), vs = [V.ref a] ∧ Ex G H ∧ Rd G a (.lst ys) ∧ RpAll K G ys (xs.map f) ∧ SortOk f xs ∧
  ∀ (zs : List V) (p : Addr), RpAll K G zs ((srtD f xs).map f) → H p = none → Q (.ref p) (upd H p (.lst zs))
theorem cr_sortD (f : α → D) (xs : List α) (hu : X.A.units + 64 < cLine) : CallR X (.builtin "sorted") (rSortD X.K f xs) := by
  intro pins s σ H vs us Q I r h
  obtain ⟨a, G, ys, rfl, e, hS, hr, ⟨p1, p2, p3, p4⟩, q⟩ := h
  rw [Vals.ref1 r]
  obtain ⟨its, rv, pl, hz⟩ := I.list (.inl (e.rd hS))
  have ee := each_of rv hr
  have hl := hr.len
  rw [List.length_map] at hl
  refine sorted_data (enc := fun x => pdOf (f x)) pl.isList ee (each_reads I e ee p1) p2 p3 (by rw [← hl]; exact hz) (fun b m => by have := p4 b m; omega) fun out hlo eo => ?_
  obtain ⟨zs, a1, a2⟩ := each_back eo
  obtain ⟨ep, he'⟩ := PyProof.Rows.sortedAll_at s.heap its out.toArray
  have hlz : zs.length ≤ sizeLine := by rw [a1.length, hlo, ← hl]; exact hz
  exact ⟨.ref _, upd H (s.heap.objs.size + 1) (.lst zs), I.laid (t' := s.toks) (fun _ _ => PyProof.Rows.sortedAll_old) (Nat.le_succ _) ⟨hlz, out, ep, a1, he'⟩, rfl, q zs _ a2 (I.hok.fresh (Nat.le_succ _))⟩
end
section
variable {K : PySem.W.Frag} {B : Base} {ρ : List Slot} {α : Type} {f : α → D}
open Classical in
theorem cb_sortD {xs : List α} {c : Prop} [Decidable c] (hc : c → SortOk f xs) : CbD K B ρ (rSortD K f xs) [.val (eL f xs)] (R.guard c) (fun _ => .own 0 (oL f (srtD f xs))) := fun G H σ vs Q E ok q => by
  obtain ⟨h1, q⟩ := R.post_guard q
  obtain ⟨v, rfl, r⟩ := ok.one
  obtain ⟨p, ws, rfl, hS, hr⟩ := r.lst_inv
  exact ⟨p, G, ws, rfl, E.sub, hS, hr, hc h1, fun zs p' a hp => q _ G _ (Ex.refl G) (E.newL hp a)⟩
end
end DL

/-! DL40: min(l), l a list of keys -/
namespace DL
open PySem PySem.Spec L2 PySem.W PyProof.Rows
/-- the first of the least pairs -/
def minP : List (Int × Int) → Int × Int
  | [] => (0, 0)
  | x :: xs => minOf x xs
section
variable {X : Cx} {pins : List (Addr × Obj)} {σ : L2.St} {G H : Hp} {s : Shared}
theorem pd_key (p : Int × Int) : pdOf (eK2 p) = Datum.toD p := by
  rw [pdOf]
  rfl
theorem pds_keys : ∀ xs : List (Int × Int), pdOfs (xs.map eK2) = xs.map Datum.toD
  | [] => by rw [List.map_nil, pdOfs]; rfl
  | x :: xs => by rw [List.map_cons, pdOfs, pd_key, pds_keys xs]; rfl
theorem plain_keys : ∀ xs : List (Int × Int), plainDs (xs.map eK2) = true
  | [] => by rw [List.map_nil, plainDs]
  | x :: xs => by
    rw [List.map_cons, plainDs, plainD, plain_keys xs]
    rfl
theorem rp_at {K : PySem.W.Frag} {α : Type} {f : α → D} : ∀ {ys : List V} {its : List Value} {xs : List α} {i : Nat} {v : Value}, Vals ys its → RpAll K G ys (xs.map f) → its[i]? = some v → ∃ y x, RelV y v ∧ Rp K G y (f x) ∧ x ∈ xs
  | _, _, [], _, _, .nil, .nil, h => by simp at h
  | _, _, x :: xs, 0, v, .cons r t, .cons h q, e => by
    injection e with e
    subst e
    exact ⟨_, x, r, h, List.mem_cons_self⟩
  | _, _, x :: xs, i + 1, v, .cons r t, .cons h q, e => by
    obtain ⟨y, z, a, b, c⟩ := rp_at (i := i) t q (by simpa using e)
    exact ⟨y, z, a, b, List.mem_cons_of_mem _ c⟩
def rMinK2 (K : PySem.W.Frag) : List V → Hp → VK → Prop := fun vs H Q => ∃ (a : Addr) (G : Hp) (ys : List V) (x : Int × Int) (xs : List (Int × Int)), vs = [V.ref a] ∧ Ex G H ∧ Rd G a (.lst ys) ∧ RpAll K G ys ((x :: xs).map eK2) ∧ ∀ v, Rp K G v (eK2 (minOf x xs)) → Q v H
theorem cr_minK2 (hc : X.calm = true) (hu : X.A.units + 64 < cLine) : CallR X (.builtin "min") (rMinK2 X.K) := by
  intro pins s σ H vs us Q I r h
  obtain ⟨a, G, ys, x, xs, rfl, e, hS, hr, q⟩ := h
  rw [Vals.ref1 r]
  obtain ⟨its, rv, pl, hz⟩ := I.list (.inl (e.rd hS))
  obtain ⟨as, ra⟩ := RpAll.reads I e hr rv (plain_keys (x :: xs))
  rw [pds_keys] at ra
  refine min_list_datum (x := x) (xs := xs) (I.ok.hd hc) pl.isList ⟨as, by simpa using ra⟩ (by show X.A.units + 1 + (max 0 0 + 1) < cLine; omega) fun i v h' tk hi hv k => ?_
  obtain ⟨y, p, r1, r2, _⟩ := rp_at (i := i) rv hr (by simpa using hi)
  obtain ⟨as1, rd⟩ := Rp.reads I e r2 r1 (by rw [plainD])
  obtain ⟨as2, rm⟩ := hv
  have hp := (PySem.Reads.unique (PyProof.Rows.Reads.keeps k rd) _ _ rm).1
  rw [pd_key] at hp
  have hp : p = minOf x xs := by
    have : Datum.toD p = Datum.toD (minOf x xs) := hp
    simp only [Datum.toD] at this
    injection this with this
    injection this with h1 h2
    injection h2 with h2 _
    injection h1 with h1
    injection h2 with h2
    exact Prod.ext h1 h2
  subst hp
  exact ⟨y, H, I.kept k, r1, q y r2⟩
end
section
variable {K : PySem.W.Frag} {B : Base} {ρ : List Slot}
theorem cb_minK2 {xs : List (Int × Int)} : CbD K B ρ (rMinK2 K) [.val (eL eK2 xs)] (R.guard (xs ≠ [])) (fun _ => .val (eK2 (minP xs))) := fun G H σ vs Q E ok q => by
  obtain ⟨h1, q⟩ := R.post_guard q
  obtain ⟨v, rfl, r⟩ := ok.one
  obtain ⟨p, ws, rfl, hS, hr⟩ := r.lst_inv
  cases xs with
  | nil => exact absurd rfl h1
  | cons x xs => exact ⟨p, G, ws, x, xs, rfl, E.sub, hS, hr, fun v hv => q v G _ (Ex.refl G) (E.push hv)⟩
end
end DL

/-! DL41: sorted keys, sorted tuples of whole numbers; dicts by keys hold no lists -/
namespace DL
open PySem PySem.Spec L2 PySem.W PyProof.Rows
theorem fl_odT {β : Type} {f : β → D} (h : ∀ x, Flat (f x)) (kvs : List ((Int × Int) × β)) : FlatO (odT f kvs) := by
  rw [odT, FlatO]
  intro p m
  obtain ⟨q, _, e⟩ := List.mem_map.mp m
  subst e
  exact h q.2
theorem pdOfs_ints : ∀ ns : List Int, pdOfs (ns.map D.int) = ns.map PyData.int
  | [] => by rw [List.map_nil, pdOfs]; rfl
  | n :: ns => by rw [List.map_cons, pdOfs, pdOf, pdOfs_ints ns]; rfl
theorem depth_ints : ∀ ns : List Int, PyData.depthAll (ns.map PyData.int) = 0
  | [] => by rw [List.map_nil, PyData.depthAll]
  | n :: ns => by rw [List.map_cons, PyData.depthAll, PyData.depth, depth_ints ns]; rfl
theorem plain_ints : ∀ ns : List Int, plainDs (ns.map D.int) = true
  | [] => by rw [List.map_nil, plainDs]
  | n :: ns => by rw [List.map_cons, plainDs, plainD, plain_ints ns]; rfl
theorem alike_ints : ∀ ns ms : List Int, alikeAll (ns.map PyData.int) (ms.map PyData.int) = true := fun ns ms => alikeAll_map (α := Int) ns ms
theorem sortOk_K2 (xs : List (Int × Int)) : SortOk eK2 xs := by
  refine ⟨fun x _ => by rw [plainD], AllAlike.of fun a b => ?_, Sortable.tuples fun b => ⟨.int b.1, [.int b.2], by rw [pdOf]; rfl⟩, fun x _ => ?_⟩
  · rw [pdOf, pdOf]
    exact alikeAll_map (α := Int) [a.1, a.2] [b.1, b.2]
  · rw [pdOf, PyData.depth]
    show PyData.depthAll ([x.1, x.2].map PyData.int) + 1 ≤ 50
    rw [depth_ints]
    decide
theorem pd_TI (ns : List Int) : pdOf (eT D.int ns) = .tuple (ns.map PyData.int) := by
  rw [eT, pdOf, pdOfs_ints]
theorem sortOk_TI {xs : List (List Int)} (h : ∀ x ∈ xs, x ≠ []) : SortOk (eT D.int) xs := by
  refine ⟨fun x _ => by rw [eT, plainD]; exact plain_ints x, AllAlike.of fun a b => ?_, .inl fun d hd => ?_, fun x _ => ?_⟩
  · rw [pd_TI, pd_TI]
    exact alikeAll_map (α := Int) a b
  · obtain ⟨x, m, rfl⟩ := List.mem_map.mp hd
    rw [pd_TI]
    cases x with
    | nil => exact absurd rfl (h _ m)
    | cons n ns => exact ⟨_, _, rfl⟩
  · rw [pd_TI, PyData.depth, depth_ints]
    decide
section
variable {K : PySem.W.Frag} {B : Base} {ρ : List Slot}
theorem cb_sortK2 {xs : List (Int × Int)} : CbD K B ρ (rSortD K eK2 xs) [.val (eL eK2 xs)] (R.guard True) (fun _ => .own 0 (oL eK2 (srtD eK2 xs))) := cb_sortD fun _ => sortOk_K2 xs
theorem cb_sortTI {xs : List (List Int)} : CbD K B ρ (rSortD K (eT D.int) xs) [.val (eL (eT D.int) xs)] (R.guard (∀ x ∈ xs, x ≠ [])) (fun _ => .own 0 (oL (eT D.int) (srtD (eT D.int) xs))) := cb_sortD sortOk_TI
end
/-- what sorted keys are: by the first, then by the second -/
theorem srtK2_le : dataLe false (fun x => pdOf (eK2 x)) = fun p q : Int × Int => decide (p.1 < q.1 ∨ (p.1 = q.1 ∧ p.2 ≤ q.2)) := by
  have : (fun x : Int × Int => pdOf (eK2 x)) = fun b => .tuple [.int b.1, .int b.2] := funext fun x => by rw [pdOf]; rfl
  rw [this]
  exact dataLe_ii (β := Int × Int) (fun p => p.1) (fun p => p.2)
end DL

/-! DL42: rows[q].index(p), the row a tuple without a dict -/
namespace DL
open PySem PySem.Spec L2
section
variable {X : Cx} {B : Base} {ρ : List Slot} {pos : Pos} {obj e : Expr}
theorem je_rixE {ap : Pos} {β : Type} {m : R β} {ns : β → List Int} {k : Int} (ho : JE X B ρ obj m (fun b => .val (eR D.int (ns b))) (fun _ => ρ)) (he : JP X B ρ e (.int k)) (hst : starEach [e] X.env = (false, eval e X.env) :: starEach [] X.env := by rfl)
    (base : attributeBase obj "index" X.env (eval obj X.env) = eval obj X.env := by rfl)
    (few : ((backTo pos (starEach [e] X.env)).all (fun x => !x.1) && (backToKw pos (keywordEach [] X.env)).all (fun x => x.1.isSome) && decide ([e].length + ([] : List Keyword).length + (if ([] : List Keyword).isEmpty then 0 else 1) < 30)) = true := by rfl)
    (line : (ap.endLine == pos.line) = true := by rfl) (pl : (backTo pos (starEach [] X.env)).any (·.1) = false := by rfl) :
    JE X B ρ (.Call (.Attribute obj "index" ap) [e] [] pos) (m.bind fun b => (R.some (ixOf k (ns b))).bind fun j => .ok (b, j)) (fun p => .val (.int ((p.2 : Nat) : Int))) (fun _ => ρ) := by
  refine PE_imp (pe_bmR PySem.F.plainAttrs_tuple PySem.F.slot_tuple_index PySem.F.type_tuple_index mt_tix ho (pa_cons he pa_nil hst) base few line hst pl) fun σ H Q ⟨G, E, q⟩ => ⟨G, E, R.post_mono (R.post_bind.mp q) fun b q1 v G1 H1 x1 E1 => ?_⟩
  have ht := E1.top
  obtain ⟨a, rfl⟩ : ∃ a, v = .ref a := by
    cases ht with
    | row => exact ⟨_, rfl⟩
  cases ht with
  | @row _ ob xs _ hH hd hr =>
    refine ⟨⟨a, ob, xs, rfl, E1.sub _ _ hH, hd⟩, G1, E1.pop, fun w G2 H2 x2 E2 => ?_⟩
    have hw := E2.top.int_inv
    subst hw
    obtain ⟨j, hj, q2⟩ := R.post_some (R.post_bind.mp q1)
    obtain ⟨g1, g2⟩ := ixOf_some hj
    have hx := hr.ints
    subst hx
    exact ⟨a, ns b, k, j, rfl, rfl, .inl (.inr ⟨ob, E2.sub _ _ (x2 _ _ hH)⟩), g1, g2, q2 _ G2 _ (x1.trans x2) (E2.pop.push (.int _))⟩
end
end DL

/-! DL43: () as a plain row -/
namespace L2
open PySem PySem.Spec PyProof.Rows
section
variable {X : Cx} {es : List Expr} {pos : Pos} {t : TA}
def tTupF (t : TA) : TE := fun σ H Q => t σ H fun vs H1 => vs.length ≤ sizeLine ∧ ∀ p ob, H1 p = none → ob.dict = none → Q (.ref p) (upd H1 p (.frz ob (.tup vs)))
theorem pe_tupF {x1} (h : PA X es t) : PE X (.Tuple es x1 pos) (tTupF t) := by
  refine ⟨fun pins s σ H Q I hq => ?_⟩
  refine wpAny_Tuple_spliced (thn (h.run pos pins s σ H _ I hq) fun us s1 ⟨xs, H1, I1, r, z, q⟩ => ⟨by rw [← r.length]; exact z, ?_⟩)
  have hf : H1 s1.heap.objs.size = none := I1.hok.fresh (Nat.le_refl _)
  refine ⟨.ref s1.heap.objs.size, upd H1 s1.heap.objs.size (.frz { cls := .type "tuple", data := .seq us.toArray } (.tup xs)), I1.laid (t' := s1.toks) (fun b u e => Heap.get?_push_of_some _ e) (Nat.le_refl _) ?_, rfl, q _ _ hf rfl⟩
  exact ⟨Heap.get?_push_size _ rfl, z, us, r, ⟨_, Heap.get?_push_size _ rfl, rfl, _, rfl⟩⟩
end
end L2
namespace DL
open PySem PySem.Spec L2
section
variable {X : Cx} {B : Base} {ρ : List Slot} {pos : Pos}
theorem je_nilR {α : Type} {f : α → D} {x1 : Nat} : JE X B ρ (.Tuple [] x1 pos) (.ok ()) (fun _ => .val (eR f ([] : List α))) (fun _ => ρ) :=
  PE_imp (pe_tupF pa_nil) fun σ H Q ⟨G, E, q⟩ => ⟨Nat.zero_le _, fun p ob hp ho => by
    have e := Ex.new (o := HO.frz ob (.tup [])) (E.sub.back hp)
    exact q _ _ _ e ((E.new hp _).push (.row upd_same ho .nil))⟩
end
end DL

/-! DL44: a whole number that the module holds -/
namespace DL
open PySem PySem.Spec L2
section
variable {X : Cx} {B : Base} {ρ : List Slot} {pos : Pos}
theorem jp_gint {x : Str} {i : Int} (h : ∃ t, X.mg x = some (.int i t)) (hg : Gl X x := by rfl) (hd : (x == ("__debug__" : Str)) = false := by decide) : JP X B ρ (.Name x pos) (.int i) := by
  obtain ⟨t, h⟩ := h
  exact PE_imp (pe_glob (v := .int i) hg h (show RelV (.int i) (.int i t) from ⟨t, rfl⟩) hd) fun σ H Q ⟨G, E, q⟩ => q _ G H (Ex.refl G) (E.push (.int _))
end
section
variable {X : Cx} {B : Base} {ρ : List Slot} {pos : Pos} {a : Expr} {β : Type}
theorem jt_dinT (i : Nat) {x : Str} {px : Pos} {l : Nat} {f : β → D} {kvs : List ((Int × Int) × β)} {k : Int × Int} (hu : X.A.units + 64 < cLine) (h : ρ[i]? = some (.own l (odT f kvs)) := by rfl) (hk : JP X B ρ a (eK2 k)) (hal : noAlis ρ = true := by rfl) (hN : X.N[i]? = some x := by rfl)
    (hvi : Vis X.env.scope x := by first | exact Or.inl rfl | exact Or.inr (Or.inl rfl) | exact Or.inr (Or.inr rfl)) (hd : (x == ("__debug__" : Str)) = false := by decide) (hcd : (x == ("__classdict__" : Str)) = false := by decide)
    (hm : behindInMarks .In (.Name x px) = false := by rfl) : TP0 X B ρ (.Compare a [.In] [.Name x px] pos) (hasT k kvs) :=
  PT_imp (pt_cmp (pc_din (by omega) hk (pv (X := X) (pos := px) i hN hvi hd hcd)) hm) fun σ H Q ⟨G, E, q⟩ => by
    refine ⟨G, E, fun w G1 H1 x1 E1 => ?_⟩
    obtain ⟨kb, hy, hkb⟩ := E1.top.key_inv
    subst hy
    obtain ⟨p, kv, g1, g2, g3, _⟩ := E1.pop.ownDT h hal
    refine ⟨.ref p, g1, p, _, rfl, DGet.t (k := kyP k) g2 (E1.sub _ _ hkb), _, rfl, ?_⟩
    rw [valV_any', rpt_any g3]
    exact q G1 H1 x1 E1.pop
theorem jt_dniT (i : Nat) {x : Str} {px : Pos} {l : Nat} {f : β → D} {kvs : List ((Int × Int) × β)} {k : Int × Int} (hu : X.A.units + 64 < cLine) (h : ρ[i]? = some (.own l (odT f kvs)) := by rfl) (hk : JP X B ρ a (eK2 k)) (hal : noAlis ρ = true := by rfl) (hN : X.N[i]? = some x := by rfl)
    (hvi : Vis X.env.scope x := by first | exact Or.inl rfl | exact Or.inr (Or.inl rfl) | exact Or.inr (Or.inr rfl)) (hd : (x == ("__debug__" : Str)) = false := by decide) (hcd : (x == ("__classdict__" : Str)) = false := by decide)
    (hm : behindInMarks .NotIn (.Name x px) = false := by rfl) : TP0 X B ρ (.Compare a [.NotIn] [.Name x px] pos) (!hasT k kvs) :=
  PT_imp (pt_cmp (pc_dnotin (by omega) hk (pv (X := X) (pos := px) i hN hvi hd hcd)) hm) fun σ H Q ⟨G, E, q⟩ => by
    refine ⟨G, E, fun w G1 H1 x1 E1 => ?_⟩
    obtain ⟨kb, hy, hkb⟩ := E1.top.key_inv
    subst hy
    obtain ⟨p, kv, g1, g2, g3, _⟩ := E1.pop.ownDT h hal
    refine ⟨.ref p, g1, p, _, rfl, DGet.t (k := kyP k) g2 (E1.sub _ _ hkb), _, rfl, ?_⟩
    rw [valV_any', rpt_any g3]
    exact q G1 H1 x1 E1.pop
end
end DL

/-! DL45: len(set(l)), l a list of whole numbers -/
namespace L2
open PySem PySem.Spec PyProof.Rows
section
variable {X : Cx}
theorem firstMet_all (f : Nat → Int) : ∀ n, (firstMet f n).Nodup ∧ ∀ x, x ∈ firstMet f n ↔ ∃ i, i < n ∧ f i = x := by
  intro n
  induction n with
  | zero =>
    rw [firstMet_zero]
    exact ⟨List.nodup_nil, fun x => ⟨fun h => absurd h (by simp), fun ⟨i, h, _⟩ => absurd h (by omega)⟩⟩
  | succ n ih =>
    obtain ⟨h1, h2⟩ := ih
    rw [firstMet_succ]
    unfold step_dedup
    by_cases hm : (firstMet f n).any (· == f n) = true
    · rw [if_pos hm]
      refine ⟨h1, fun x => (h2 x).trans ⟨fun ⟨i, a, b⟩ => ⟨i, by omega, b⟩, fun ⟨i, a, b⟩ => ?_⟩⟩
      by_cases e : i = n
      · subst e
        rw [List.any_eq_true] at hm
        obtain ⟨y, hy, e⟩ := hm
        have e : y = f i := by simpa using e
        rw [e, b] at hy
        exact (h2 x).mp hy
      · exact ⟨i, by omega, b⟩
    · rw [if_neg hm]
      have hn : f n ∉ firstMet f n := fun h => hm (List.any_eq_true.mpr ⟨f n, h, by simp⟩)
      refine ⟨?_, fun x => ?_⟩
      · rw [List.nodup_append]
        exact ⟨h1, by simp, fun a ha b hb => by rw [List.mem_singleton.mp hb]; exact fun e => hn (e ▸ ha)⟩
      · rw [List.mem_append, List.mem_singleton, h2]
        constructor
        · rintro (⟨i, a, b⟩ | e)
          · exact ⟨i, by omega, b⟩
          · exact ⟨n, by omega, e.symm⟩
        · rintro ⟨i, a, b⟩
          by_cases e : i = n
          · subst e; exact .inr b.symm
          · exact .inl ⟨i, by omega, b⟩
def rSetLI (K : PySem.W.Frag) : List V → Hp → VK → Prop := fun xs H Q => ∃ (a : Addr) (ns : List Int), xs = [V.ref a] ∧ SqL K H a (ns.map V.int) ∧ ns.length ≤ 1000 ∧
  ∀ p S, H p = none → Q (.ref p) (upd H p (.set S (DL.nub ns).length))
theorem cr_setLI (hc : X.calm = true) : CallR X (.type "set") (rSetLI X.K) := by
  intro pins s σ H xs us Q I r h
  obtain ⟨a, ns, rfl, hq, hl, q⟩ := h
  rw [Vals.ref1 r]
  obtain ⟨its, rv, pl, hz⟩ := I.list hq
  have hi : IntsAre its.toArray.toList ns := ints_of_vals rv
  have hn : H s.heap.objs.size = none := I.hok.fresh (Nat.le_refl _)
  have hsz : its.toArray.size = ns.length := by
    have := rv.length
    rw [List.length_map] at this
    rw [List.size_toArray, this]
  refine PySem.call_set_list (I.ok.hd hc) pl.isList hi (by rw [hsz]; unfold scanBound; omega) fun h' tk R1 k => ?_
  obtain ⟨f1, f2⟩ := firstMet_all (fun i => ns.getD i 0) its.toArray.size
  rw [hsz] at f1 f2 R1
  have hcc : (firstMet (fun i => ns.getD i 0) ns.length).length = (DL.nub ns).length := by
    have e1 : ∀ x, x ∈ firstMet (fun i => ns.getD i 0) ns.length ↔ x ∈ ns := fun x => (f2 x).trans ⟨fun ⟨i, a, b⟩ => by
      rw [List.getD_eq_getElem?_getD, List.getElem?_eq_getElem a] at b
      rw [← b]
      exact List.getElem_mem a, fun hx => by
      obtain ⟨i, hi⟩ := List.mem_iff_getElem?.mp hx
      exact ⟨i, (List.getElem?_eq_some_iff.mp hi).1, by rw [List.getD_eq_getElem?_getD, hi]; rfl⟩⟩
    have l1 := DL.nodup_le f1 fun x hx => DL.nub_mem.mpr ((e1 x).mp hx)
    have l2 := DL.nodup_le (DL.nub_nodup ns) fun x hx => (e1 x).mpr (DL.nub_mem.mp hx)
    omega
  rw [hcc] at R1
  exact ⟨.ref s.heap.objs.size, upd H s.heap.objs.size (.set _ (DL.nub ns).length), I.laid (t' := tk) (fun b o e => k b o (Heap.lt_size e) e) (Nat.le_refl _) R1, rfl, q _ _ hn⟩
end
end L2
namespace DL
open PySem PySem.Spec L2
section
variable {X : Cx} {B : Base} {ρ : List Slot} {pos : Pos} {a : Expr}
theorem je_lenSetL {p p2 pos2 : Pos} {β : Type} {m : R β} {xs : β → List Int} (hc : X.calm = true) (hm : X.mg "len" = none) (hm2 : X.mg "set" = none) (ha : JE X B ρ a m (fun b => .val (eL D.int (xs b))) (fun _ => ρ)) (hg : Gl X "len" := by rfl) (hg2 : Gl X "set" := by rfl)
    (na : starEach [a] X.env = (false, eval a X.env) :: starEach [] X.env := by rfl) (nb : starEach [.Call (.Name "set" p2) [a] [] pos2] X.env = (false, eval (.Call (.Name "set" p2) [a] [] pos2) X.env) :: starEach [] X.env := by rfl) :
    JE X B ρ (.Call (.Name "len" p) [.Call (.Name "set" p2) [a] [] pos2] [] pos) (m.bind fun b => (R.guard ((xs b).length ≤ 1000)).bind fun _ => .ok b) (fun b => .val (.int ((nub (xs b)).length : Nat))) (fun _ => ρ) := by
  have h1 := pe_callTy (pos := pos2) (p := p2) (cr_setLI hc) hg2 hm2 PyProof.Rows.boot_set (pa_cons ha pa_nil na) (by decide) (by decide) na (by rfl)
  have h2 := pe_callB (pos := pos) (p := p) cr_lenSet hg hm (by decide +kernel) (pa_cons h1 pa_nil nb) (by decide) (by decide) nb (by rfl)
  refine PE_imp h2 fun σ H Q ⟨G, E, q⟩ => ⟨G, E, R.post_mono (R.post_bind.mp q) fun b q v G1 H1 x1 E1 => ?_⟩
  obtain ⟨hk, q⟩ := R.post_guard (R.post_bind.mp q)
  obtain ⟨p, vs, rfl, hS, hr⟩ := E1.top.lst_inv
  have hv : vs = (xs b).map V.int := hr.ints
  subst hv
  refine ⟨p, xs b, rfl, .inl (E1.sub.rd hS), hk, fun p' S hp => ?_⟩
  have e := Ex.new (o := HO.set S (nub (xs b)).length) (E1.sub.back hp)
  exact ⟨p', S, _, rfl, upd_same, q _ _ _ (x1.trans e) ((E1.pop.new hp _).push (.int _))⟩
end
end DL

/-! DL46: clear, pop(i) -/
namespace DL
open PySem PySem.Spec L2
section
variable {X : Cx} {B : Base} {ρ : List Slot} {pos : Pos} {obj e : Expr} {es : List Expr}
/-- a method without arguments that changes a list of data in an owned tree -/
theorem je_mth0 (i : Nat) {ι γ : Type} {l : Nat} {o : OT} {name : Str} {ap : Pos} {id : String} {r : V → List V → Hp → VK → Prop} {m0 : R ι} {path : ι → List Nat} {m2 : ι → R γ} {ds : ι → List D} {res : ι → γ → D} {ds' : ι → γ → List D} {ρ' : ι × γ → List Slot}
    (slot : PySem.Slot "list" name id) (hty : typeOf (.builtin id) = pure (.type "method_descriptor")) (hm : MtR X id r) (ho : JL X B ρ obj i m0 path) (h : ρ[i]? = some (.own l o))
    (hsub : ∀ (φ : ι → Prop) (ψ : Exn → Prop), m0.post φ ψ → m0.post (fun j => φ j ∧ o.subL (path j) = some (.lst ((ds j).map OT.dat))) ψ)
    (hmd : ∀ j, MtD X.K r (ds j) [] (m2 j) (res j) (ds' j))
    (hr : ∀ j c, o.subL (path j) = some (.lst ((ds j).map OT.dat)) → ρ.set i (.own l (o.putL (path j) (.lst ((ds' j c).map OT.dat)))) = ρ' (j, c))
    (hal : noAlis ρ = true := by rfl) (hbase : attributeBase obj name X.env (eval obj X.env) = eval obj X.env := by rfl) (hline : (ap.endLine == pos.line) = true := by rfl) :
    JE X B ρ (.Call (.Attribute obj name ap) [] [] pos) (m0.bind fun j => (m2 j).bind fun c => .ok (j, c)) (fun p => .val (res p.1 p.2)) ρ' := by
  refine PE_imp (pe_bm0 PySem.F.plainAttrs_list slot hty hm ho hbase hline) fun σ H Q ⟨G, E, q⟩ => ⟨G, E, R.post_mono (hsub _ _ (R.post_bind.mp q)) fun j ⟨q1, hs⟩ G' H' x' E' v a e1 hat => ?_⟩
  obtain ⟨v2, a2, ws, f1, f2, f3, f4, f5⟩ := E'.putAt h hal hs
  have ev : v2 = v := by
    rw [e1] at f1
    injection f1 with f1
    injection f1 with f1
    exact f1.symm
  subst ev
  have ea : a2 = a := by
    have := At.fun_ f2 hat
    injection this
  subst ea
  refine ⟨.inl ⟨rfl, _, .inl (.inl f3)⟩, hmd j G' H' a2 ws [] Q B.rs E'.sub f3 f4 .nil (R.post_mono (R.post_bind.mp q1) fun c q3 w ws' hw hws' => ?_)⟩
  have E4 := f5 ws' (ds' j c) hws'
  rw [hr j c hs] at E4
  exact q3 w G' _ x' (E4.push hw)
end
section
variable {K : PySem.W.Frag}
theorem md_clear {α : Type} {f : α → D} {xs : List α} : MtD K rClear (xs.map f) [] (.ok ()) (fun _ => .none) (fun _ => ([] : List α).map f) := fun G H a vs args Q rs e hH hr ha q => by
  cases ha
  exact ⟨a, vs, rfl, rfl, hH, q _ _ .non .nil⟩
def popAt {α : Type} (xs : List α) (i : Int) : Option (α × Nat) := if 0 ≤ i ∧ i < 2 ^ 62 then (xs[i.toNat]?).map fun x => (x, i.toNat) else none
theorem md_popAt {α : Type} {f : α → D} {xs : List α} {i : Int} : MtD K rPopAt (xs.map f) [.int i] (R.some (popAt xs i)) (fun c => f c.1) (fun c => (xs.eraseIdx c.2).map f) := fun G H a vs args Q rs e hH hr ha q => by
  obtain ⟨w, rfl, h2⟩ := rp1 ha
  have h2 := h2.int_inv
  subst h2
  obtain ⟨c, hc, q⟩ := R.post_some q
  unfold popAt at hc
  split at hc
  · rename_i hi
    obtain ⟨x, hx, e2⟩ := Option.map_eq_some_iff.mp hc
    subst e2
    obtain ⟨y, hy, ry⟩ := hr.get (i := i.toNat) (d := f x) (by rw [List.getElem?_map, hx]; rfl)
    have hlt := (List.getElem?_eq_some_iff.mp hy).1
    refine ⟨a, vs, i, i.toNat, y, rfl, rfl, hH, by omega, by omega, ?_, hy, q _ _ ry ?_⟩
    · unfold seqIndex?
      have h1 : ¬ i < 0 := by omega
      have h3 : i < (vs.length : Int) := by omega
      simp [h1, h3, hi.1]
    · have := hr.eraseIdx i.toNat
      have em : ∀ (l : List α) (n : Nat), (l.map f).eraseIdx n = (l.eraseIdx n).map f := by
        intro l
        induction l with
        | nil => intro n; rfl
        | cons a l ih =>
          intro n
          cases n with
          | zero => rfl
          | succ n => rw [List.map_cons, List.eraseIdx_cons_succ, List.eraseIdx_cons_succ, List.map_cons, ih]
      rw [em] at this
      exact this
  · cases hc
end
end DL

/-! DL47: rows[part[k]].index(part[j]); rows[part[k]] as a place -/
namespace DL
open PySem PySem.Spec PyProof.Rows L2
section
variable {X : Cx} {B : Base} {ρ : List Slot} {pos : Pos} {e obj : Expr}
/-- xs.index(y), both with mirrors -/
theorem je_lixE {ap : Pos} {α : Type} [DecidableEq α] {n : Nat} {f : α → D} {γ : Type} {m0 : R γ} {xs : γ → List α} {β : Type} {m : R β} {y : β → α} (hu : X.A.units + 65 < cLine) (hq : EqE n f) (ho : JE X B ρ obj m0 (fun c => .val (eL f (xs c))) (fun _ => ρ)) (he : JE X B ρ e m (fun b => .val (f (y b))) (fun _ => ρ)) (hn : n + 1 ≤ 64 := by decide) (hst : starEach [e] X.env = (false, eval e X.env) :: starEach [] X.env := by rfl)
    (base : attributeBase obj "index" X.env (eval obj X.env) = eval obj X.env := by rfl)
    (few : ((backTo pos (starEach [e] X.env)).all (fun x => !x.1) && (backToKw pos (keywordEach [] X.env)).all (fun x => x.1.isSome) && decide ([e].length + ([] : List Keyword).length + (if ([] : List Keyword).isEmpty then 0 else 1) < 30)) = true := by rfl)
    (line : (ap.endLine == pos.line) = true := by rfl) (pl : (backTo pos (starEach [] X.env)).any (·.1) = false := by rfl) :
    JE X B ρ (.Call (.Attribute obj "index" ap) [e] [] pos) (m0.bind fun c => m.bind fun b => (R.some (ixOf (y b) (xs c))).bind fun j => .ok (c, b, j)) (fun p => .val (.int ((p.2.2 : Nat) : Int))) (fun _ => ρ) := by
  refine PE_imp (pe_bm PySem.F.plainAttrs_list PySem.F.slot_list_index PySem.F.type_list_index (mt_indexD hu) ho (pa_cons he pa_nil hst) base few line hst pl) fun σ H Q ⟨G, E, q⟩ => ⟨G, E, R.post_mono (R.post_bind.mp q) fun c q0 v G1 H1 x1 E1 => ?_⟩
  have ht := E1.top
  obtain ⟨a, vs, rfl, hS, hr⟩ := ht.lst_inv
  refine ⟨.inl ⟨rfl, vs, .inl (E1.sub.rd hS)⟩, G1, E1.pop, R.post_mono (R.post_bind.mp q0) fun b q1 w G2 H2 x2 E2 => ?_⟩
  obtain ⟨j, hj, q2⟩ := R.post_some (R.post_bind.mp q1)
  obtain ⟨g1, g2⟩ := ixOf_some hj
  have hL := ee_L hq
  have d1 := (ht.ex x2).dp E2.sub (hL.lay (xs c))
  have d2 := E2.top.dp E2.sub (hq.lay (y b))
  have e1 : toPy (eL f (xs c)) = .list (toPy.toPys ((xs c).map f)) := by rw [toPy]
  have s1 := hL.shaped hn (xs c)
  rw [e1] at d1 s1
  refine ⟨a, w, toPy (f (y b)), toPy.toPys ((xs c).map f), j, toPy (f (y b)), rfl, rfl, d1, d2, s1, hq.shaped (by omega) _, by rw [toPys_get, g1]; rfl, by rw [hq.eqv]; simp, fun i z' hi hz' => ?_, q2 _ G2 _ (x1.trans x2) (E2.pop.push (.int _))⟩
  rw [toPys_get] at hz'
  cases hx : (xs c)[i]? with
  | none =>
    rw [hx] at hz'
    cases hz'
  | some x0 =>
    rw [hx] at hz'
    injection hz' with hz'
    subst hz'
    rw [hq.eqv]
    exact decide_eq_false fun z => g2 i hi (by rw [hx, z])
theorem jl_ixE (i : Nat) {x : Str} {px : Pos} {l : Nat} {α : Type} {f : α → D} {rows : List (List α)} {β : Type} {m : R β} {k : β → Int} (hk : JE X B ρ e m (fun b => .val (.int (k b))) (fun _ => ρ)) (h : ρ[i]? = some (.own l (oLL f rows)) := by rfl) (hN : X.N[i]? = some x := by rfl)
    (hv : Vis X.env.scope x := by first | exact Or.inl rfl | exact Or.inr (Or.inl rfl) | exact Or.inr (Or.inr rfl)) (hd : (x == ("__debug__" : Str)) = false := by decide) (hcd : (x == ("__classdict__" : Str)) = false := by decide) (hs : PlainIx e := by exact fun _ _ => rfl) :
    JL X B ρ (.Subscript (.Name x px) e pos) i (m.bind fun b => R.some (rowAt rows (k b))) (fun p => [p.1]) :=
  PE_imp (pe_ix ix_list (pv i hN hv hd hcd) hk hs) fun σ H Q ⟨G, E, q⟩ => by
    have get : ∀ {G H : Hp} {ex : List (V × Slot)}, En X.K B G H σ ρ ex → ∃ p vs A3, σ[i]? = some (some (.ref p)) ∧ H p = some (.lst vs) ∧ OwnAll X.K G H vs (rows.map (oL f)) A3 := fun {G H ex} E => by
      obtain ⟨A, c, n, g⟩ := E.own
      have h' : (ex.map (·.2) ++ ρ)[ex.length + i]? = some (.own l (oLL f rows)) := by
        rw [List.getElem?_append_right (by simp), List.length_map]
        simpa using h
      obtain ⟨v, A1, A2, e1, hO, hl, c2, pm⟩ := c.take1 h'
      rw [List.getElem?_append_right (by simp), List.length_map] at e1
      have e1 : σ[i]? = some (some v) := by simpa using e1
      cases hO with
      | lst ha hall => exact ⟨_, _, _, e1, ha, hall⟩
    obtain ⟨p, vs, A3, e1, e2, e3⟩ := get E
    refine ⟨.ref p, e1, G, E, R.post_mono (R.post_bind.mp q) fun b q w G1 H1 x1 E1 => ?_⟩
    have hn := E1.top.int_inv
    subst hn
    obtain ⟨p', vs', A4, g1, g2, g3⟩ := get E1
    have ep : p' = p := by
      have z := g1.symm.trans e1
      injection z with z
      injection z with z
      injection z
    subst ep
    obtain ⟨pr, hpr, q⟩ := R.post_some q
    obtain ⟨r1, r2⟩ := rowAt_get hpr
    obtain ⟨u, A5, A6, A7, h1, h2, _, _⟩ := g3.at (k := pr.1) (o := oL f pr.2) (by rw [List.getElem?_map, r2]; rfl)
    cases h2 with
    | @lst a ws _ A8 ha hall =>
      have hlen : vs'.length = rows.length := by rw [g3.len, List.length_map]
      refine ⟨p', vs', k b, .ref a, rfl, rfl, .inl (.inl g2), ?_, q G1 H1 x1 E1.pop _ a e1 ⟨p', vs', _, rfl, g2, h1, rfl⟩⟩
      unfold atI
      rw [hlen, r1]
      exact h1
theorem sub1E {α β : Type} {f : α → D} {rows : List (List α)} {m : R β} {k : β → Int} (φ : Nat × List α → Prop) (ψ : Exn → Prop) (h : (m.bind fun b => R.some (rowAt rows (k b))).post φ ψ) : (m.bind fun b => R.some (rowAt rows (k b))).post (fun j => φ j ∧ (oLL f rows).subL [j.1] = some (.lst ((j.2.map f).map OT.dat))) ψ :=
  R.post_bind.mpr (R.post_mono (R.post_bind.mp h) fun b z => sub1 _ _ z)
end
end DL

/-! DL48: things of any kind, seen as what they are; chains with effects; str(n) -/
namespace DL
open PySem PySem.Spec PyProof.Rows L2
def asI : D → Option Int
  | .int i => some i
  | _ => none
def asT : D → Option (List D)
  | .tuple ds => some ds
  | .row ds => some ds
  | .key ks => some (ks.map D.int)
  | _ => none
def asIs : List D → Option (List Int)
  | [] => some []
  | d :: ds => match asI d, asIs ds with
    | some i, some l => some (i :: l)
    | _, _ => none
def asTI (d : D) : Option (List Int) := (asT d).bind asIs
def as3I (d : D) : Option (Int × Int × Int) := match asTI d with
  | some [a, b, c] => some (a, b, c)
  | _ => none
theorem asI_ok {d : D} {i : Int} (h : asI d = some i) : Wk d (.int i) := by
  cases d with
  | int j =>
    injection h with h
    subst h
    exact wk_refl _
  | _ => cases h
theorem key_dAll {K : PySem.W.Frag} {G : Hp} (ks : List Int) : RpAll K G (ks.map V.int) (ks.map D.int) := RpAll.of_ints ks
theorem asT_ok {d : D} {ds : List D} (h : asT d = some ds) : Wk d (eT eD ds) := by
  have e : ds.map eD = ds := List.map_id _
  cases d with
  | tuple es =>
    injection h with h
    subst h
    rw [eT, e]
    exact wk_refl _
  | row es =>
    injection h with h
    subst h
    have := wk_R eD es
    rw [eR, e] at this
    exact this
  | key ks =>
    injection h with h
    subst h
    intro K G v r
    rw [eT, e]
    cases r with
    | key hG => exact .tup (Or.inl (Or.inl hG)) (key_dAll ks)
  | _ => cases h
theorem asIs_ok : ∀ {ds : List D} {l : List Int}, asIs ds = some l → ds = l.map D.int
  | [], l, h => by
    injection h with h
    subst h
    rfl
  | d :: ds, l, h => by
    rw [asIs] at h
    cases d with
    | int i =>
      cases e : asIs ds with
      | none => rw [e] at h; cases h
      | some m =>
        rw [e] at h
        injection h with h
        subst h
        rw [List.map_cons, asIs_ok e]
    | _ => simp [asI] at h
theorem asTI_ok {d : D} {l : List Int} (h : asTI d = some l) : Wk d (eT D.int l) := by
  obtain ⟨ds, h1, h2⟩ := Option.bind_eq_some_iff.mp h
  have := asT_ok h1
  rw [asIs_ok h2] at this
  have e : (l.map D.int).map eD = l.map D.int := List.map_id _
  rw [eT, e] at this
  exact this
theorem as3I_ok {d : D} {p : Int × Int × Int} (h : as3I d = some p) : Wk d (eP3 D.int D.int D.int p) := by
  unfold as3I at h
  split at h
  · rename_i a b c e
    injection h with h
    subst h
    exact asTI_ok e
  · cases h
section
variable {X : Cx} {B : Base} {ρ : List Slot} {pos : Pos} {a b c e : Expr}
/-- seen as what it is -/
theorem je_as {β γ : Type} {m : R β} {d : β → D} {ρ' : β → List Slot} {f : D → Option γ} {g : γ → D} (hf : ∀ {d : D} {c : γ}, f d = some c → Wk d (g c)) (h : JE X B ρ e m (fun b => .val (d b)) ρ') :
    JE X B ρ e (m.bind fun b => (R.some (f (d b))).bind fun c => .ok (b, c)) (fun p => .val (g p.2)) (fun p => ρ' p.1) :=
  PE_imp h fun σ H Q ⟨G, E, q⟩ => ⟨G, E, R.post_mono (R.post_bind.mp q) fun b q1 v G1 H1 x1 E1 => by
    obtain ⟨c, hc, q2⟩ := R.post_some (R.post_bind.mp q1)
    exact q2 v G1 H1 x1 (E1.wk (hf hc))⟩
/-- a op b op' c, b with a mirror -/
theorem je_chainE {r r' : R2} {x z : D} {β : Type} {m : R β} {y : β → D} {k1 k2 : β → Bool} (ht : ∀ ta tb tc, PE X a ta → PE X b tb → PE X c tc → PE X e (tChain r r' ta tb tc)) (ha : JP X B ρ a x) (hb : JE X B ρ b m (fun i => .val (y i)) (fun _ => ρ)) (hc : JP X B ρ c z)
    (h1 : ∀ i, OpD X.K B r x (y i) (.ok ()) (fun _ => .val (.bool (k1 i)))) (h2 : ∀ i, OpD X.K B r' (y i) z (.ok ()) (fun _ => .val (.bool (k2 i)))) : JE X B ρ e m (fun i => .val (.bool (k1 i && k2 i))) (fun _ => ρ) := by
  refine PE_imp (ht _ _ _ ha hb hc) fun σ H Q ⟨G, E, q⟩ => ?_
  refine ⟨G, E, fun vx G1 H1 x1 E1 => ?_⟩
  refine ⟨G1, E1.pop, R.post_mono q fun i q vy G2 H2 x2 E2 => ?_⟩
  refine h1 i G2 H2 σ ρ vx vy _ E2.pop (E1.top.ex x2) E2.top fun v G3 H3 x3 E3 => ⟨k1 i, E3.top.bl_inv, ?_⟩
  have x13 := x1.trans (x2.trans x3)
  cases hk : k1 i with
  | false => exact q _ G3 H3 x13 (by show En X.K B G3 H3 σ ρ [(_, .val (.bool (k1 i && k2 i)))]; rw [hk]; exact E3.pop.push (.bl _))
  | true =>
    refine ⟨G3, E3.pop, fun vz G4 H4 x4 E4 => ?_⟩
    exact h2 i G4 H4 σ ρ vy vz _ E4.pop (E2.top.ex (x3.trans x4)) E4.top fun v' G5 H5 x5 E5 => q v' G5 H5 (x13.trans (x4.trans x5)) (by show En X.K B G5 H5 σ ρ [(_, .val (.bool (k1 i && k2 i)))]; rw [hk]; exact E5)
end
section
variable {K : PySem.W.Frag} {B : Base} {ρ : List Slot}
/-- a number's text -/
def strI (i : Int) : Str := toString i
theorem cb_strI {i : Int} : CbD K B ρ (fun xs H Q => ∃ i, xs = [.int i] ∧ i.natAbs.log2 < 1920 ∧ Q (.str (toString i)) H) [.val (.int i)] (R.guard (i.natAbs.log2 < 1920)) (fun _ => .val (.str (strI i))) := fun G H σ vs Q E ok q => by
  obtain ⟨h1, q⟩ := R.post_guard q
  obtain ⟨v, rfl, r⟩ := ok.one
  have := r.int_inv
  subst this
  exact ⟨i, rfl, h1, q _ G H (Ex.refl G) (E.push (.str _))⟩
end
end DL

/-! DL49: zip; parts of plain rows, plain rows joined -/
namespace L2
open PySem PySem.Spec PyProof.Rows HT
section
variable {X : Cx}
/-- t[lo:hi], t a plain tuple: a plain one again -/
def rSlR (K : PySem.W.Frag) : V → Option Int → Option Int → Hp → VK → Prop := fun x lo hi H Q => ∃ a ob xs, x = .ref a ∧ H a = some (.frz ob (.tup xs)) ∧
  (HT.sIx xs.length 0 lo = 0 ∧ HT.sIx xs.length xs.length hi = xs.length → Q (.ref a) H) ∧ (¬ (HT.sIx xs.length 0 lo = 0 ∧ HT.sIx xs.length xs.length hi = xs.length) → ∀ p ob', H p = none → ob'.dict = none → Q (.ref p) (upd H p (.frz ob' (.tup (cutV xs lo hi)))))
theorem sl_tupR : SlR X (rSlR X.K) := by
  intro pins s σ H x v vl vu lo hi sl Q I rx hs pl pu h
  obtain ⟨a, ob, xs, rfl, hH, q1, q2⟩ := h
  have hx : SqT X.K H a xs := .inl (.inr ⟨ob, hH⟩)
  by_cases hw : HT.sIx xs.length 0 lo = 0 ∧ HT.sIx xs.length xs.length hi = xs.length
  · cases rx
    obtain ⟨its, r, ht, hz⟩ := I.tuple hx
    have hlen : its.toArray.size = xs.length := by rw [List.size_toArray]; exact r.length.symm
    refine ⟨"tuple", _, PyProof.Rows.slot_tuple_getitem.lookup, ht.typeIs, ?_⟩
    exact getItem_tuple_whole ht hs pl pu (by rw [hlen]; exact hw) ⟨.ref a, H, I, rfl, q1 hw⟩
  · cases rx
    obtain ⟨its, r, ht, hz⟩ := I.tuple hx
    have hlen : its.toArray.size = xs.length := by rw [List.size_toArray]; exact r.length.symm
    refine ⟨"tuple", _, PyProof.Rows.slot_tuple_getitem.lookup, ht.typeIs, ?_⟩
    refine HT.getItem_tuple_cut ht hs pl pu (by rw [hlen]; exact hw) ?_ (by rw [hlen]; exact hz)
    rw [hlen]
    let obn : Obj := { cls := .type "tuple", data := .seq ((its.toArray.toList.drop (HT.sIx xs.length 0 lo)).take (HT.sIx xs.length xs.length hi - HT.sIx xs.length 0 lo)).toArray }
    refine ⟨.ref s.heap.objs.size, upd H s.heap.objs.size (.frz obn (.tup (cutV xs lo hi))), I.laid (t' := s.toks) (fun b ob q => Heap.get?_push_of_some _ q) (Nat.le_refl _) ?_, rfl, q2 hw _ obn (I.hok.fresh (Nat.le_refl _)) rfl⟩
    exact ⟨Heap.get?_push_size _ rfl, Nat.le_trans (cutV_length xs lo hi) hz, _, (r.drop (HT.sIx xs.length 0 lo)).take (HT.sIx xs.length xs.length hi - HT.sIx xs.length 0 lo), IsTup.new _ _⟩
/-- t + u, t a plain tuple, not empty -/
def rCatRw (K : PySem.W.Frag) : R2 := fun x y H Q => ∃ a b ob xs ys, x = .ref a ∧ y = .ref b ∧ H a = some (.frz ob (.tup xs)) ∧ SqT K H b ys ∧ xs ≠ [] ∧ xs.length + ys.length ≤ sizeLine ∧
  (ys = [] → Q (.ref a) H) ∧ (ys ≠ [] → ∀ p ob', H p = none → ob'.dict = none → Q (.ref p) (upd H p (.frz ob' (.tup (xs ++ ys)))))
theorem op_catRw : OpR X (binaryOp .Add) (rCatRw X.K) := by
  intro pins s σ H x y v u Q I rx ry h
  obtain ⟨a, b, ob, xs, ys, rfl, rfl, hH, hb, hx, hz, q1, q2⟩ := h
  have ha : SqT X.K H a xs := .inl (.inr ⟨ob, hH⟩)
  cases rx
  cases ry
  obtain ⟨its, r1, p1, _⟩ := I.tuple ha
  obtain ⟨its2, r2, p2, _⟩ := I.tuple hb
  refine HT.cat_tup p1 p2 (fun z => hx (r1.nil_iff.mp z)) (fun z => ⟨.ref a, H, I, rfl, q1 (r2.nil_iff.mp z)⟩) (fun z => ?_) (by rw [← r1.length, ← r2.length]; exact hz)
  let obn : Obj := { cls := .type "tuple", data := .seq (its ++ its2).toArray }
  refine ⟨.ref s.heap.objs.size, upd H s.heap.objs.size (.frz obn (.tup (xs ++ ys))), I.laid (t' := s.toks) (fun b ob q => Heap.get?_push_of_some _ q) (Nat.le_refl _) ?_, rfl, q2 (fun w => z (r2.nil_iff.mpr w)) _ obn (I.hok.fresh (Nat.le_refl _)) rfl⟩
  exact ⟨Heap.get?_push_size _ rfl, by rw [List.length_append]; exact hz, _, r1.append r2, IsTup.new _ _⟩
end
end L2
namespace DL
open PySem PySem.Spec L2
section
variable {X : Cx} {B : Base} {ρ : List Slot} {pos : Pos} {a e e2 tg : Expr} {β α γ : Type} {K : PySem.W.Frag}
theorem Rp.row_inv {K : PySem.W.Frag} {G : Hp} {v : V} {ds : List D} (h : Rp K G v (.row ds)) : ∃ a ob xs, v = .ref a ∧ G a = some (.frz ob (.tup xs)) ∧ ob.dict = none ∧ RpAll K G xs ds := by
  cases h with
  | row h d r => exact ⟨_, _, _, rfl, h, d, r⟩
theorem je_slR {o1 o2 : Option Expr} {p2 : Pos} {lo hi : Option Int} {m : R β} {f : α → D} {xs : β → List α} {ρ' : β → List Slot} (h : JE X B ρ a m (fun b => .val (eR f (xs b))) ρ') (h1 : ∀ b, JO X B (ρ' b) o1 lo) (h2 : ∀ b, JO X B (ρ' b) o2 hi) :
    JE X B ρ (.Subscript a (.Slice o1 o2 none p2) pos) m (fun b => .val (eR f (cut (xs b) lo hi))) ρ' := by
  have h1' : PO X o1 (fun σ H Q => ∃ b, tJO X.K B (ρ' b) lo σ H Q) := ⟨fun pins s σ H Q I ⟨b, q⟩ => (h1 b).run pins s σ H Q I q⟩
  have h2' : PO X o2 (fun σ H Q => ∃ b, tJO X.K B (ρ' b) hi σ H Q) := ⟨fun pins s σ H Q I ⟨b, q⟩ => (h2 b).run pins s σ H Q I q⟩
  refine PE_imp (pe_slice sl_tupR h h1' h2') fun σ H Q ⟨G, E, q⟩ => ⟨G, E, R.post_mono q fun b k v G1 H1 x1 E1 => ⟨b, G1, E1.pop, fun G2 H2 x2 E2 => ⟨b, G2, E2, fun G3 H3 x3 E3 => ?_⟩⟩⟩
  obtain ⟨p, ob, vs, rfl, hS, hd, hr⟩ := E1.top.row_inv
  have x13 := x2.trans x3
  have hr' := RpAll.ex x13 hr
  refine ⟨p, ob, vs, rfl, E3.sub _ _ (x13 _ _ hS), fun hw => ?_, fun hw q' ob' hq hd' => ?_⟩
  · rw [hr'.len] at hw
    refine k _ G3 _ (x1.trans x13) (E3.push ?_)
    rw [List.length_map] at hw
    rw [cut_whole hw]
    exact .row (x13 _ _ hS) hd hr'
  · have e := Ex.new (o := HO.frz ob' (.tup (cutV vs lo hi))) (E3.sub.back hq)
    refine k _ _ _ ((x1.trans x13).trans e) ((E3.new hq _).push (.row upd_same hd' (RpAll.ex e ?_)))
    rw [← cut_map]
    exact cut_rp hr'
theorem od_catRw {f : α → D} {xs ys : List α} : OpD K B (rCatRw K) (eR f xs) (eT f ys) (R.guard (xs ≠ [] ∧ xs.length + ys.length ≤ sizeLine)) (fun _ => .val (eR f (xs ++ ys))) := fun G H σ ρ vx vy Q E hx hy q => by
  obtain ⟨⟨hc, hl⟩, q⟩ := R.post_guard q
  obtain ⟨a, ob, vs, rfl, hS, hd, hr⟩ := hx.row_inv
  obtain ⟨b, ws, rfl, hS2, hr2⟩ := hy.tup_inv
  have l1 := hr.len
  have l2 := hr2.len
  rw [List.length_map] at l1 l2
  refine ⟨a, b, ob, vs, ws, rfl, rfl, E.sub _ _ hS, E.sub.t hS2, fun z => hc (List.length_eq_zero_iff.mp (by rw [← l1, z]; rfl)), by rw [l1, l2]; exact hl, fun z => ?_, fun z p ob' hp hd' => ?_⟩
  · have : ys = [] := List.length_eq_zero_iff.mp (by rw [← l2, z]; rfl)
    subst this
    refine q _ G H (Ex.refl G) (E.push ?_)
    rw [List.append_nil]
    exact .row hS hd hr
  · have e := Ex.new (o := HO.frz ob' (.tup (vs ++ ws))) (E.sub.back hp)
    refine q _ _ _ e ((E.new hp _).push (.row upd_same hd' ?_))
    rw [List.map_append]
    exact RpAll.ex e (hr.append hr2)
/-- zip of two tuples -/
theorem ji_zipT {m : R β} {as : β → List Ar} {xs : β → List α} {ys : β → List γ} {f : α → D} {g : γ → D} {ρ' : β → List Slot} {p tpos : Pos} {elts : List Expr} {kk : Nat} (hg : Gl X "zip") (hm : X.mg "zip" = none) (h : JA X B ρ [e, e2] m as ρ') (ha : ∀ b, as b = [.val (eT f (xs b)), .val (eT g (ys b))] := by intro _; rfl)
    (hs : starEach [e, e2] X.env = (false, eval e X.env) :: starEach [e2] X.env := by rfl) (hpl : (backTo pos (starEach [e2] X.env)).any (·.1) = false := by rfl) :
    JI X B ρ (.Tuple elts kk tpos) (.Call (.Name "zip" p) [e, e2] [] pos) m (fun b => ((xs b).zip (ys b)).map (eP2 f g)) ρ' :=
  PI_imp (RZ.pi_zipA hg hm h hs hpl) fun σ H Q ⟨G, E, q⟩ => ⟨G, E, R.post_mono q fun b q1 vs G' H' x E' ok => by
    rw [ha b] at ok
    cases ok with
    | val r ok =>
      cases ok with
      | val r2 ok =>
        cases ok
        obtain ⟨a, us, rfl, hS, hr⟩ := r.tup_inv
        obtain ⟨c, ws, rfl, hS2, hr2⟩ := r2.tup_inv
        have l1 : us.length = (xs b).length := by rw [hr.len, List.length_map]
        have l2 : ws.length = (ys b).length := by rw [hr2.len, List.length_map]
        have hl : (((xs b).zip (ys b)).map (eP2 f g)).length = min us.length ws.length := by rw [List.length_map, List.length_zip, l1, l2]
        refine ⟨a, c, us, ws, rfl, .inr ⟨E'.sub.t hS, E'.sub.t hS2, q1 _ G' H' x E' ⟨fun i H hi e => ?_, fun i H hi e => ?_, fun B i G1 H1 σ ρ w H' e E hy d hd => ?_⟩⟩⟩
        · rw [hl] at hi
          exact ⟨us, ws, us[i]'(by omega), ws[i]'(by omega), e.t hS, e.t hS2, List.getElem?_eq_getElem _, List.getElem?_eq_getElem _⟩
        · rw [hl] at hi
          exact ⟨us, ws, e.t hS, e.t hS2, by omega⟩
        · obtain ⟨T, y1, y2, rfl, hT, rfl, hy1, hy2⟩ := hy
          have i1 := hy1 us ((e.trans E.sub).t hS)
          have i2 := hy2 ws ((e.trans E.sub).t hS2)
          obtain ⟨d1, h1, h2⟩ := hr.getV i1
          obtain ⟨d2, h3, h4⟩ := hr2.getV i2
          rw [List.getElem?_map] at h1 h3 hd
          cases hx : (xs b)[i]? with
          | none => rw [hx] at h1; cases h1
          | some z1 =>
            cases hx2 : (ys b)[i]? with
            | none => rw [hx2] at h3; cases h3
            | some z2 =>
              have hz : ((xs b).zip (ys b))[i]? = some (z1, z2) := by
                rw [List.getElem?_zip_eq_some]
                exact ⟨hx, hx2⟩
              rw [hx] at h1
              rw [hx2] at h3
              rw [hz] at hd
              injection h1 with h1
              injection h3 with h3
              injection hd with hd
              subst h1
              subst h3
              subst hd
              have e1 := Ex.new (o := HO.tup [y1, y2]) (E.sub.back hT)
              exact ⟨_, e1, E.new hT _, .tup (.inl (.inl upd_same)) (.cons (h2.ex (e.trans e1)) (.cons (h4.ex (e.trans e1)) .nil))⟩⟩
/-- zip of two lists -/
theorem ji_zipL {m : R β} {as : β → List Ar} {xs : β → List α} {ys : β → List γ} {f : α → D} {g : γ → D} {ρ' : β → List Slot} {p tpos : Pos} {elts : List Expr} {kk : Nat} (hg : Gl X "zip") (hm : X.mg "zip" = none) (h : JA X B ρ [e, e2] m as ρ') (ha : ∀ b, as b = [.val (eL f (xs b)), .val (eL g (ys b))] := by intro _; rfl)
    (hs : starEach [e, e2] X.env = (false, eval e X.env) :: starEach [e2] X.env := by rfl) (hpl : (backTo pos (starEach [e2] X.env)).any (·.1) = false := by rfl) :
    JI X B ρ (.Tuple elts kk tpos) (.Call (.Name "zip" p) [e, e2] [] pos) m (fun b => ((xs b).zip (ys b)).map (eP2 f g)) ρ' :=
  PI_imp (RZ.pi_zipA hg hm h hs hpl) fun σ H Q ⟨G, E, q⟩ => ⟨G, E, R.post_mono q fun b q1 vs G' H' x E' ok => by
    rw [ha b] at ok
    cases ok with
    | val r ok =>
      cases ok with
      | val r2 ok =>
        cases ok
        obtain ⟨a, us, rfl, hS0, hr⟩ := r.lst_inv
        obtain ⟨c, ws, rfl, hS20, hr2⟩ := r2.lst_inv
        have hS : SqL X.K G' a us := .inl hS0
        have hS2 : SqL X.K G' c ws := .inl hS20
        have l1 : us.length = (xs b).length := by rw [hr.len, List.length_map]
        have l2 : ws.length = (ys b).length := by rw [hr2.len, List.length_map]
        have hl : (((xs b).zip (ys b)).map (eP2 f g)).length = min us.length ws.length := by rw [List.length_map, List.length_zip, l1, l2]
        refine ⟨a, c, us, ws, rfl, .inl ⟨E'.sub.l hS, E'.sub.l hS2, q1 _ G' H' x E' ⟨fun i H hi e => ?_, fun i H hi e => ?_, fun B i G1 H1 σ ρ w H' e E hy d hd => ?_⟩⟩⟩
        · rw [hl] at hi
          exact ⟨us, ws, us[i]'(by omega), ws[i]'(by omega), e.l hS, e.l hS2, List.getElem?_eq_getElem _, List.getElem?_eq_getElem _⟩
        · rw [hl] at hi
          exact ⟨us, ws, e.l hS, e.l hS2, by omega⟩
        · obtain ⟨T, y1, y2, rfl, hT, rfl, hy1, hy2⟩ := hy
          have i1 := hy1 us ((e.trans E.sub).l hS)
          have i2 := hy2 ws ((e.trans E.sub).l hS2)
          obtain ⟨d1, h1, h2⟩ := hr.getV i1
          obtain ⟨d2, h3, h4⟩ := hr2.getV i2
          rw [List.getElem?_map] at h1 h3 hd
          cases hx : (xs b)[i]? with
          | none => rw [hx] at h1; cases h1
          | some z1 =>
            cases hx2 : (ys b)[i]? with
            | none => rw [hx2] at h3; cases h3
            | some z2 =>
              have hz : ((xs b).zip (ys b))[i]? = some (z1, z2) := by
                rw [List.getElem?_zip_eq_some]
                exact ⟨hx, hx2⟩
              rw [hx] at h1
              rw [hx2] at h3
              rw [hz] at hd
              injection h1 with h1
              injection h3 with h3
              injection hd with hd
              subst h1
              subst h3
              subst hd
              have e1 := Ex.new (o := HO.tup [y1, y2]) (E.sub.back hT)
              exact ⟨_, e1, E.new hT _, .tup (.inl (.inl upd_same)) (.cons (h2.ex (e.trans e1)) (.cons (h4.ex (e.trans e1)) .nil))⟩⟩
end
/-! more ways of seeing -/
def asRI : D → Option (List Int)
  | .row ds => asIs ds
  | _ => none
theorem asRI_ok {d : D} {l : List Int} (h : asRI d = some l) : Wk d (eR D.int l) := by
  cases d with
  | row ds =>
    have := asIs_ok (show asIs ds = some l from h)
    rw [this]
    exact wk_refl _
  | _ => cases h
def asTIs : List D → Option (List (List Int))
  | [] => some []
  | d :: ds => match asTI d, asTIs ds with
    | some i, some l => some (i :: l)
    | _, _ => none
def asTTI (d : D) : Option (List (List Int)) := (asT d).bind asTIs
theorem asTIs_ok : ∀ {ds : List D} {l : List (List Int)}, asTIs ds = some l → ∀ {K : PySem.W.Frag} {G : Hp} {vs : List V}, RpAll K G vs ds → RpAll K G vs (l.map (eT D.int))
  | [], l, h, K, G, vs, r => by
    injection h with h
    subst h
    cases r
    exact .nil
  | d :: ds, l, h, K, G, vs, r => by
    rw [asTIs] at h
    cases e1 : asTI d with
    | none => rw [e1] at h; cases h
    | some i =>
      cases e2 : asTIs ds with
      | none => rw [e1, e2] at h; cases h
      | some m =>
        rw [e1, e2] at h
        injection h with h
        subst h
        cases r with
        | cons a b => exact .cons (asTI_ok e1 _ _ _ a) (asTIs_ok e2 b)
theorem asTTI_ok {d : D} {l : List (List Int)} (h : asTTI d = some l) : Wk d (eT (eT D.int) l) := by
  obtain ⟨ds, h1, h2⟩ := Option.bind_eq_some_iff.mp h
  intro K G v r
  have r2 := asT_ok h1 _ _ _ r
  have e : ds.map eD = ds := List.map_id _
  rw [eT, e] at r2
  obtain ⟨a, vs, rfl, hS, hr⟩ := r2.tup_inv
  exact .tup hS (asTIs_ok h2 hr)
/-- two such -/
def as2TT (d : D) : Option (List (List Int) × List (List Int)) := match asT d with
  | some [x, y] => match asTTI x, asTTI y with
    | some a, some b => some (a, b)
    | _, _ => none
  | _ => none
theorem as2TT_ok {d : D} {p : List (List Int) × List (List Int)} (h : as2TT d = some p) : Wk d (eP2 (eT (eT D.int)) (eT (eT D.int)) p) := by
  unfold as2TT at h
  split at h
  · rename_i x y e
    cases e1 : asTTI x with
    | none => rw [e1] at h; cases h
    | some a =>
      cases e2 : asTTI y with
      | none => rw [e1, e2] at h; cases h
      | some b =>
        rw [e1, e2] at h
        injection h with h
        subst h
        intro K G v r
        have r2 := asT_ok e _ _ _ r
        obtain ⟨q, vs, rfl, hS, hr⟩ := r2.tup_inv
        cases hr with
        | cons h1 hr =>
          cases hr with
          | cons h2 hr =>
            cases hr
            exact .tup hS (.cons (asTTI_ok e1 _ _ _ h1) (.cons (asTTI_ok e2 _ _ _ h2) .nil))
  · cases h
end DL

/-! DL50: slices whose ends have mirrors; what is never reached -/
namespace DL
open PySem PySem.Spec L2
section
variable {X : Cx} {B : Base} {ρ : List Slot} {pos : Pos} {a e : Expr} {β β1 β2 α : Type} {K : PySem.W.Frag}
def tJOm (K : PySem.W.Frag) (B : Base) (ρ : List Slot) (m : R β) (o : β → Option Int) : TO := fun σ H Q => ∃ G, En K B G H σ ρ [] ∧ m.post (fun b => ∀ G' H', Ex G G' → En K B G' H' σ ρ [] → Q (o b) H') B.rs
def JOm (X : Cx) (B : Base) (ρ : List Slot) (e : Option Expr) (m : R β) (o : β → Option Int) : Prop := PO X e (tJOm X.K B ρ m o)
theorem jom_none : JOm X B ρ none (R.ok ()) (fun _ => none) := PO_imp po_none fun σ H Q ⟨G, E, q⟩ => q G H (Ex.refl G) E
theorem jom_some {m : R β} {i : β → Int} (h : JE X B ρ e m (fun b => .val (.int (i b))) (fun _ => ρ)) : JOm X B ρ (some e) m (fun b => some (i b)) :=
  PO_imp (po_some h) fun σ H Q ⟨G, E, q⟩ => ⟨G, E, R.post_mono q fun b q v G1 H1 x1 E1 => ⟨i b, E1.top.int_inv, q G1 H1 x1 E1.pop⟩⟩
theorem jom_p {o : Option Expr} {i : Option Int} (h : JO X B ρ o i) : JOm X B ρ o (R.ok ()) (fun _ => i) := h
/-- t[lo:hi] of a plain row -/
theorem je_slRE {o1 o2 : Option Expr} {p2 : Pos} {m1 : R β1} {lo : β1 → Option Int} {m2 : R β2} {hi : β2 → Option Int} {m : R β} {f : α → D} {xs : β → List α} (h : JE X B ρ a m (fun b => .val (eR f (xs b))) (fun _ => ρ)) (h1 : JOm X B ρ o1 m1 lo) (h2 : JOm X B ρ o2 m2 hi) :
    JE X B ρ (.Subscript a (.Slice o1 o2 none p2) pos) (m.bind fun b => m1.bind fun b1 => m2.bind fun b2 => .ok (b, b1, b2)) (fun p => .val (eR f (cut (xs p.1) (lo p.2.1) (hi p.2.2)))) (fun _ => ρ) := by
  refine PE_imp (pe_slice sl_tupR h h1 h2) fun σ H Q ⟨G, E, q⟩ => ⟨G, E, R.post_mono (R.post_bind.mp q) fun b q1 v G1 H1 x1 E1 => ⟨G1, E1.pop, R.post_mono (R.post_bind.mp q1) fun b1 q2 G2 H2 x2 E2 => ⟨G2, E2, R.post_mono (R.post_bind.mp q2) fun b2 k G3 H3 x3 E3 => ?_⟩⟩⟩
  obtain ⟨p, ob, vs, rfl, hS, hd, hr⟩ := E1.top.row_inv
  have x13 := x2.trans x3
  have hr' := RpAll.ex x13 hr
  refine ⟨p, ob, vs, rfl, E3.sub _ _ (x13 _ _ hS), fun hw => ?_, fun hw q' ob' hq hd' => ?_⟩
  · rw [hr'.len] at hw
    refine k _ G3 _ (x1.trans x13) (E3.push ?_)
    rw [List.length_map] at hw
    rw [cut_whole hw]
    exact .row (x13 _ _ hS) hd hr'
  · have e := Ex.new (o := HO.frz ob' (.tup (cutV vs (lo b1) (hi b2)))) (E3.sub.back hq)
    refine k _ _ _ ((x1.trans x13).trans e) ((E3.new hq _).push (.row upd_same hd' (RpAll.ex e ?_)))
    rw [← cut_map]
    exact cut_rp hr'
/-- t[lo:hi] of a tuple -/
theorem je_slTE {o1 o2 : Option Expr} {p2 : Pos} {m1 : R β1} {lo : β1 → Option Int} {m2 : R β2} {hi : β2 → Option Int} {m : R β} {f : α → D} {xs : β → List α} (h : JE X B ρ a m (fun b => .val (eT f (xs b))) (fun _ => ρ)) (h1 : JOm X B ρ o1 m1 lo) (h2 : JOm X B ρ o2 m2 hi) :
    JE X B ρ (.Subscript a (.Slice o1 o2 none p2) pos) (m.bind fun b => m1.bind fun b1 => m2.bind fun b2 => .ok (b, b1, b2)) (fun p => .val (eT f (cut (xs p.1) (lo p.2.1) (hi p.2.2)))) (fun _ => ρ) := by
  refine PE_imp (pe_slice sl_tupA h h1 h2) fun σ H Q ⟨G, E, q⟩ => ⟨G, E, R.post_mono (R.post_bind.mp q) fun b q1 v G1 H1 x1 E1 => ⟨G1, E1.pop, R.post_mono (R.post_bind.mp q1) fun b1 q2 G2 H2 x2 E2 => ⟨G2, E2, R.post_mono (R.post_bind.mp q2) fun b2 k G3 H3 x3 E3 => ?_⟩⟩⟩
  obtain ⟨p, vs, rfl, hS, hr⟩ := E1.top.tup_inv
  have x13 := x2.trans x3
  have hr' := RpAll.ex x13 hr
  refine ⟨p, vs, rfl, E3.sub.t (x13.t hS), fun hw => ?_, fun hw q' hq => ?_⟩
  · rw [hr'.len] at hw
    refine k _ G3 _ (x1.trans x13) (E3.push ?_)
    rw [List.length_map] at hw
    rw [cut_whole hw]
    exact .tup (x13.t hS) hr'
  · have e := Ex.new (o := HO.tup (cutV vs (lo b1) (hi b2))) (E3.sub.back hq)
    refine k _ _ _ ((x1.trans x13).trans e) ((E3.new hq _).push (.tup (.inl (.inl upd_same)) (RpAll.ex e ?_)))
    rw [← cut_map]
    exact cut_rp hr'
theorem js_never {N L T : Type} {st : Stmt} {F : Fin N L T} : JS X B ρ st (R.bad : R (Fl N L T)) F := PS_imp ps_never fun D σ H ⟨G, E, q⟩ => q
end
end DL

/-! DL51: tuple(reversed(a tuple)) -/
namespace RT
open PySem PySem.Spec PyProof.Rows
theorem nolen_rt : typeLookup (.type "reversed") "__len__" = pure none := by rw [typeLookup_type, builtinLookup_eq_fast]; kernel_rfl
theorem hint_rt : typeLookup (.type "reversed") "__length_hint__" = pure (some (.builtin "reversed.__length_hint__")) := by rw [typeLookup_type, builtinLookup_eq_fast]; kernel_rfl
theorem slot_rt_hint : Slot "reversed" "__length_hint__" "reversed.__length_hint__" :=
  .of (owner := "reversed") (n := "__length_hint__") (by rw [typeLookup_type, builtinLookup_eq_fast]; kernel_rfl) (by decide +kernel) (by decide +kernel) (by decide +kernel)
    (by first | exact .inl (by decide +kernel) | exact .inr (by decide +kernel)) (by rw [isSubtype_type]; kernel_rfl)
theorem entry_rt_hint : entryFor table "reversed.__length_hint__" = some Builtin.«reversed.__length_hint__» := entryFor_of_tree (by kernel_rfl)
theorem args_rt_hint (a : Value) : argsOk "reversed.__length_hint__" ⟨[a], []⟩ := by
  unfold argsOk; rw [signature?_of (id := "reversed.__length_hint__") (n := ['_', '_', 't', 'n', 'i', 'h', '_', 'h', 't', 'g', 'n', 'e', 'l', '_', '_']) (o := ['d', 'e', 's', 'r', 'e', 'v', 'e', 'r']) (by kernel_rfl) owner_rt]; kernel_rfl
section
variable {prog : Program} {w : World} {A : Around} {E : Value → Shared → Prop} {s : Shared}
theorem call_rt_hint {it l : Addr} {items : Array Value} {Q : Value → Shared → Prop} (hit : IsRt s.heap it l ((items.size : Int) - 1)) (hl : IsTup s.heap l items) (hn : items.size < 2 ^ 63)
    (hQ : ∀ u tk, Q (.int items.size u) { s with toks := tk }) : wpAny (model prog w) A (call (.builtin "reversed.__length_hint__") [.ref it]) Q E s := by
  obtain ⟨o, ho, hc, hd⟩ := id hit
  refine wpAny_call_entry slot_rt_hint hit.typeIs entry_rt_hint ?_ (args_rt_hint _)
  unfold Builtin.«reversed.__length_hint__»
  refine wpAny_bind (wpAny_of_eq (a := Value.ref it) rfl ?_)
  try dsimp only
  refine wpAny_bind (wpAny_field ho hd (x := .ref l) rfl ?_)
  try dsimp only
  rw [if_neg (by show ¬ (false = true); decide)]
  refine wpAny_bind (len_tuple hl (by omega) ?_)
  refine wpAny_bind (m := asInt? _) (wpAny_pure ?_)
  try dsimp only
  refine wpAny_bind (wpAny_field (s := { s with toks := _ }) ho hd (x := rawInt ((items.size : Int) - 1)) rfl ?_)
  try dsimp only
  show wpAny _ _ (if (items.size : Int) < (items.size : Int) - 1 + 1 then _ else _) _ _ _
  rw [if_neg (by omega)]
  rw [show (items.size : Int) - 1 + 1 = items.size by omega]
  wp_walk
  exact ⟨_, rfl, hQ _ _⟩
end
theorem walks_rt {prog : Program} {w : World} {A : Around} (hh : A.handled = none) (I l : Addr) (hne : l ≠ I) (items : Array Value) (hz : items.size ≤ sizeLine) :
    Walks prog w A I [I, l] [I] items.size (fun i v => items[items.size - 1 - i]? = some v) (fun i h => i ≤ items.size ∧ IsRt h I l ((items.size : Int) - 1 - (i : Int)) ∧ IsTup h l items) where
  sub := fun b hb => by simp at hb; simp [hb]
  frame := fun _ _ _ ⟨x1, x2, o, ho, r⟩ hk => ⟨x1, x2.at fun o e => hk I (by simp) o e, o, hk l (by simp) o ho, r⟩
  item := fun i s Q E hi ⟨x1, hit, ht⟩ hQ => by
    have e : (items.size : Int) - 1 - (i : Int) = ((items.size - 1 - i : Nat) : Int) := by omega
    rw [e] at hit
    have hx : items[items.size - 1 - i]? = some (items[items.size - 1 - i]'(by omega)) := Array.getElem?_eq_getElem (by omega)
    refine next_rt_item hit ht hx hz fun h' hit' hs' => ?_
    have e2 : ((items.size - 1 - i : Nat) : Int) - 1 = (items.size : Int) - 1 - ((i + 1 : Nat) : Int) := by omega
    rw [e2] at hit'
    obtain ⟨o, ho, r⟩ := ht
    exact hQ _ h' (s.toks + 1) hx ⟨hi, hit', o, (hs'.2 l hne).trans ho, r⟩ fun b o hb eo => hs'.extBut b o (fun h => hb (by simp [h])) eo
  done := fun s Q E ⟨x1, hit, ht⟩ hQ => by
    have e : (items.size : Int) - 1 - (items.size : Int) = -1 := by omega
    rw [e] at hit
    exact next_rt_end hh hit fun h' he' => hQ h' s.toks fun b o hb eo => he' b o (fun h => hb (by simp [h])) eo
  self := fun _ _ _ _ x hQ => iter_rt x.2.1 hQ
section
variable {prog : Program} {w : World} {A : Around} {E : Value → Shared → Prop} {s : Shared}
theorem extend_rt {R : Result → Shared → Prop} {it l S : Addr} {items : Array Value} {res : Value} {c₀ : Nat} (hh : A.handled = none) (hit : IsRt s.heap it l ((items.size : Int) - 1)) (hl : IsTup s.heap l items) (hne : l ≠ it) (hn : items.size ≤ sizeLine)
    (hSi : S ≠ it) (hSl : S ≠ l) (hS : s.heap.get? S = some { cls := .type "list", data := .seq #[] c₀ })
    (hR : ∀ h' tk acc' c', (∀ b o, b ≠ S → b ≠ it → s.heap.get? b = some o → h'.get? b = some o) → h'.get? S = some { cls := .type "list", dict := none, data := .seq acc' c', slots := #[] } →
      ItemsOf (fun i v => items[items.size - 1 - i]? = some v) acc' items.size → R (.ok (.ret res)) { s with heap := h', toks := tk }) :
    wpAny (model prog w) A.in1 (Builtin.List.listExtendWith (.ref S) (.ref it) res)
      (fun fin s' => match fin with | .done f => R (.ok f) s' | .again c' => c'.quiet = true ∧ codeAny (model prog w) A c' R s') (fun e s' => R (.error e) s') s := by
  have W := (walks_rt (prog := prog) (w := w) (A := A.in1) hh it l hne items hn).toS
  have hSf : S ∉ [it, l] := by simp only [List.mem_cons, List.not_mem_nil, or_false, not_or]; exact ⟨hSi, hSl⟩
  have hT : s.TypeIs (.ref it) "reversed" := hit.typeIs
  have h1 : Builtin.List.listSameRef (.ref S) (.ref it) = false := by simp [Builtin.List.listSameRef, hSi]
  have e0 : ((items.size : Nat) : Int) - 1 - ((0 : Nat) : Int) = (items.size : Int) - 1 := by omega
  have key : ∀ (h : Heap) (c₁ tk : Nat), IsRt h it l ((items.size : Int) - 1) → IsTup h l items → (∀ b o, b ≠ S → s.heap.get? b = some o → h.get? b = some o) →
      h.get? S = some { cls := .type "list", data := .seq #[] c₁ } → codeAny (model prog w) A (.builtin "list.extend.loop" ⟨[.ref S, .ref it, res], []⟩) R { s with heap := h, toks := tk } := by
    intro h c₁ tk hit hl hk hS₁
    refine codeAny_extend_loopS W hn S hSf res items.size 0 _ #[] c₁ rfl (Nat.zero_le _) ⟨Nat.zero_le _, by rw [e0]; exact hit, hl⟩ hS₁ (ItemsOf.nil _) fun s' acc' c' hm hS' hacc => ?_
    rw [Moved.eq_with hm]
    refine hR s'.heap s'.toks acc' c' (fun b o hb hb2 e => hm.heap b o (fun hmem => ?_) (hk b o hb e)) hS' hacc
    rcases List.mem_cons.mp hmem with e' | hmem
    · exact hb e'
    · exact hb2 (List.mem_singleton.mp hmem)
  unfold Builtin.List.listExtendWith
  refine wpAny_bind (wpAny_typeOf hT ?_)
  rw [if_neg (by rw [h1]; decide)]
  refine wpAny_bind (iter_rt hit ?_)
  refine wpAny_bind (wpAny_holding ?_)
  unfold Builtin.List.listLengthHint
  refine wpAny_bind (wpAny_specialOf hT nolen_rt ?_)
  show wpAny _ A.in1 (specialOf (Value.ref it) (Str.ofString "__length_hint__") >>= _) _ _ _
  refine wpAny_bind (wpAny_specialOf hT hint_rt ?_)
  generalize hid : ("reversed.__length_hint__" : String) = id0
  wp_delta
  rw [show splitId id0 = some ("reversed", "__length_hint__") from by subst hid; decide +kernel]
  subst hid
  refine wpAny_bind (wpAny_isInstance (b := true) hT (by rw [isSubtype_type]; kernel_rfl) ?_)
  refine wpAny_ite_split (fun hab => absurd hab (by decide)) (fun _ => ?_)
  refine wpAny_ite_split (fun hab => absurd hab (by decide +kernel)) (fun _ => ?_)
  refine wpAny_bind (wpAny_rule ?_)
  refine wpAny_bind (wpAny_of_eq (a := (Value.builtin "reversed.__length_hint__", [Value.ref it])) (by kernel_rfl) ?_)
  have hn64 : items.size ≤ 16777216 := by rw [sizeLine_eq] at hn; exact hn
  refine wpAny_bind (wpAny_attempt (call_rt_hint hit hl (by omega) fun u tk => ?_))
  dsimp only
  generalize hk : (items.size : Int) = k
  refine wpAny_bind (m := asInt? _) (wpAny_pure ?_)
  subst hk
  dsimp only
  have hfi : Builtin.List.listFitsIndex (items.size : Int) = true := by
    unfold Builtin.List.listFitsIndex
    rw [Bool.and_eq_true]
    exact ⟨decide_eq_true (by omega), decide_eq_true (by omega)⟩
  rw [hfi, if_neg (by decide)]
  try dsimp only
  rw [if_neg (show ¬ (items.size : Int) < 0 by omega)]
  try dsimp only
  have htl : Builtin.List.listTooLong ((items.size : Int).toNat) = false := by
    unfold Builtin.List.listTooLong
    rw [sizeLine_eq]
    exact decide_eq_false (by omega)
  rw [htl, if_neg (by decide)]
  try dsimp only
  refine wpAny_pure ?_
  refine wpAny_ite_split (fun _ => ?_) (fun _ => wpAny_pure ⟨plainId_quiet F.plain_extend_loop _, key _ c₀ _ hit hl (fun b o _ e => e) hS⟩)
  refine wpAny_bind (wpAny_rule ?_)
  refine wpAny_bind ?_
  show wpAny _ _ (updateSeq S (·.push .none) >>= fun _ => updateSeq S (·.pop)) _ _ _
  clear hfi htl hn64
  refine wpAny_bind (wpAny_updateSeq (s := { s with toks := tk }) hS rfl ?_)
  have hS₂ := Heap.get?_update_self (Obj.mapSeq (·.push Value.none)) hS rfl
  refine wpAny_updateSeq (s := { s with heap := _, toks := tk }) (hz := by seq_fits) hS₂ rfl ?_
  have hS₃ := Heap.get?_update_self (Obj.mapSeq (·.pop)) hS₂ rfl
  have k2 : ∀ b o, b ≠ S → s.heap.get? b = some o → ((s.heap.update S (Obj.mapSeq (·.push Value.none))).update S (Obj.mapSeq (·.pop))).get? b = some o := fun b o hb e =>
    (Heap.get?_update_other _ _ (Ne.symm hb)).trans ((Heap.get?_update_other _ _ (Ne.symm hb)).trans e)
  refine wpAny_pure ⟨plainId_quiet F.plain_extend_loop _, key _ _ _ (hit.at fun o e => k2 it o (Ne.symm hSi) e) ?_ k2 hS₃⟩
  obtain ⟨o, ho, r⟩ := hl
  exact ⟨o, k2 l o (Ne.symm hSl) ho, r⟩
theorem collect_rt {it l : Addr} {items : Array Value} {Q : List Value → Shared → Prop} (hh : A.handled = none) (hit : IsRt s.heap it l ((items.size : Int) - 1)) (hl : IsTup s.heap l items) (hne : l ≠ it) (hn : items.size ≤ sizeLine)
    (hQ : ∀ (h' : Heap) (tk : Nat) (acc : Array Value), (∀ b o, b ≠ it → s.heap.get? b = some o → h'.get? b = some o) → ItemsOf (fun i v => items[items.size - 1 - i]? = some v) acc items.size → Q acc.toList { s with heap := h', toks := tk }) :
    wpAny (model prog w) A (collect (.ref it)) Q E s := by
  have hSi : s.heap.objs.size ≠ it := let ⟨_, ho, _⟩ := hit; Nat.ne_of_gt (Heap.lt_size ho)
  have hSl : s.heap.objs.size ≠ l := Nat.ne_of_gt hl.lt
  unfold collect
  refine wpAny_bind (wpAny_runValue (codeAny_builtin F.entry_proto_collect ?_))
  rw [Around.under_plainId F.plain_proto_collect _]
  show wpAny _ A.in1 (newList [] >>= fun l' => again (.builtin "list.__iadd__" ⟨[l', .ref it], []⟩)) _ _ s
  refine wpAny_bind (wpAny_newObj_type ?_)
  refine wpAny_pure ⟨plainId_quiet F.plain_list_iadd _, codeAny_builtin F.entry_list_iadd ?_⟩
  rw [Around.under_plainId F.plain_list_iadd _]
  have hS₁ : (s.heap.push { cls := .type "list", data := .seq ([] : List Value).toArray }).get? s.heap.objs.size = some { cls := .type "list", data := .seq ([] : List Value).toArray } := Heap.get?_push_size _ rfl
  show wpAny _ A.in1 (Builtin.List.listExtendWith (.ref s.heap.objs.size) (.ref it) (.ref s.heap.objs.size)) _ _ _
  have fin : ∀ (h' : Heap) (tk : Nat) (acc' : Array Value) (c' : Nat), (∀ b o, b ≠ s.heap.objs.size → b ≠ it → (s.heap.push { cls := .type "list", data := .seq ([] : List Value).toArray }).get? b = some o → h'.get? b = some o) →
      h'.get? s.heap.objs.size = some { cls := .type "list", dict := none, data := .seq acc' c', slots := #[] } → ItemsOf (fun i v => items[items.size - 1 - i]? = some v) acc' items.size →
      wpAny (model prog w) A (load s.heap.objs.size >>= fun o => match o.data with | .seq xs _ => pure xs.toList | _ => unsupported "internal:collect") Q E { s with heap := h', toks := tk } := fun h' tk acc' c' hk hS' hacc => by
    refine wpAny_bind (wpAny_load (s := { s with heap := h', toks := tk }) hS' ?_)
    refine wpAny_pure ?_
    exact hQ h' tk acc' (fun b o hb e => hk b o (Nat.ne_of_lt (Heap.lt_size e)) hb (Heap.get?_push_of_some _ e)) hacc
  refine wpAny_mono (extend_rt (R := fun r s' => ∃ h' tk acc' c', r = .ok (.ret (.ref s.heap.objs.size)) ∧ s' = { s with heap := h', toks := tk } ∧ (∀ b o, b ≠ s.heap.objs.size → b ≠ it → (s.heap.push { cls := .type "list", data := .seq ([] : List Value).toArray }).get? b = some o → h'.get? b = some o) ∧
      h'.get? s.heap.objs.size = some { cls := .type "list", dict := none, data := .seq acc' c', slots := #[] } ∧ ItemsOf (fun i v => items[items.size - 1 - i]? = some v) acc' items.size)
    (s := { s with heap := s.heap.push { cls := .type "list", data := .seq ([] : List Value).toArray } }) hh (hit.at fun o e => Heap.get?_push_of_some _ e) (hl.push _) hne hn hSi hSl hS₁ fun h' tk acc' c' hk hS' hacc => ⟨h', tk, acc', c', rfl, rfl, hk, hS', hacc⟩) (fun f s' h => ?_) (fun e s' h => ?_)
  · match f, h with
    | .done f, h =>
      obtain ⟨h', tk, acc', c', e1, rfl, hk, hS', hacc⟩ := h
      injection e1 with e1
      subst e1
      exact fin h' tk acc' c' hk hS' hacc
    | .again c, ⟨q, h⟩ =>
      refine ⟨q, codeAny_mono h fun r s' h => ?_⟩
      obtain ⟨h', tk, acc', c', rfl, rfl, hk, hS', hacc⟩ := h
      exact fin h' tk acc' c' hk hS' hacc
  · obtain ⟨_, _, _, _, e1, _⟩ := h
    cases e1
theorem code_tuple_new_rt {it l : Addr} {items : Array Value} {Q₁ : Value → Shared → Prop} (hh : A.handled = none) (hit : IsRt s.heap it l ((items.size : Int) - 1)) (hl : IsTup s.heap l items) (hne : l ≠ it) (hn : items.size ≤ sizeLine)
    (h : ∀ (h' : Heap) (tk : Nat) (acc : Array Value), (∀ b o, b ≠ it → s.heap.get? b = some o → h'.get? b = some o) → ItemsOf (fun i v => items[items.size - 1 - i]? = some v) acc items.size →
      Q₁ (.ref h'.objs.size) { s with heap := h'.push { cls := .type "tuple", data := .seq acc }, toks := tk }) :
    codeAny (model prog w) A (.call (.builtin "tuple.__new__") ⟨[.type "tuple", .ref it], []⟩) (wants Q₁ E) s := by
  refine codeAny_of_tree ?_
  show wpAny _ A.in1 (do checkBuiltinCall "tuple.__new__" ⟨[.type "tuple", .ref it], []⟩; again (.builtin "tuple.__new__" ⟨[.type "tuple", .ref it], []⟩)) _ _ s
  refine wpAny_bind (wpAny_of_eq (F.newCall_tuple_1 _) (wpAny_pure ⟨plainId_quiet F.plain_tuple_new _, codeAny_builtin F.entry_tuple_new ?_⟩))
  rw [Around.under_plainId F.plain_tuple_new _]
  have hsub := sub_tuple_self
  have hinit := init_tuple_lookup
  have hmh := madeHere_tuple
  have hTI : s.TypeIs (.ref it) "reversed" := hit.typeIs
  have hh1 : A.in1.handled = none := hh
  wp_walk using wpAny_typeOf hTI, collect_rt (A := A.in1) hh1 hit hl hne hn
  intro h' tk acc hk hacc
  show wpAny _ _ (Builtin.Tuple.tupleExact acc.toList.toArray >>= fun v => ret v) _ _ _
  unfold Builtin.Tuple.tupleExact
  refine wpAny_bind (wpAny_newObj_type ?_ (by show acc.toList.toArray.size ≤ sizeLine; simp only [Array.toArray_toList]; rw [hacc.1]; exact hn))
  refine wpAny_pure ?_
  have e : acc.toList.toArray = acc := by simp
  rw [e]
  exact h h' tk acc hk hacc
theorem call_tuple_rt {it l : Addr} {items : Array Value} {Q : Value → Shared → Prop} (hh : A.handled = none) (hit : IsRt s.heap it l ((items.size : Int) - 1)) (hl : IsTup s.heap l items) (hne : l ≠ it) (hn : items.size ≤ sizeLine)
    (hQ : ∀ (h' : Heap) (tk : Nat) (acc : Array Value), (∀ b o, b ≠ it → s.heap.get? b = some o → h'.get? b = some o) → ItemsOf (fun i v => items[items.size - 1 - i]? = some v) acc items.size →
      Q (.ref h'.objs.size) { s with heap := h'.push { cls := .type "tuple", data := .seq acc }, toks := tk }) :
    wpAny (model prog w) A (call (.type "tuple") [.ref it]) Q E s := by
  refine callType_codes (Q₁ := fun obj s₁ => s₁.TypeIs obj "tuple" ∧ Q obj s₁) F.called_tuple (F.typeCall_tuple_1 _) F.entry_object_init
    (code_tuple_new_rt (A := A.in1) hh hit hl hne hn fun h' tk acc hk hacc => ⟨⟨_, Heap.get?_push_size _ rfl, rfl⟩, hQ h' tk acc hk hacc⟩) fun obj s₁ h₁ => ?_
  exact ⟨h₁.1, F.args_object_init_2 obj _, object_init_meets F.called_tuple.init.lookup F.called_tuple.made (by decide) prog w A.in1 _ s₁ ⟨h₁.1, rfl, h₁.2⟩⟩
end
open L2
def tTupRevT (K : PySem.W.Frag) (te : TE) : TE := fun σ H Q => te σ H fun v H1 => ∃ (a : Addr) (xs : List V), v = .ref a ∧ SqT K H1 a xs ∧ ∀ q ob, H1 q = none → ob.dict = none → Q (.ref q) (upd H1 q (.frz ob (.tup xs.reverse)))
section
variable {X : Cx}
theorem pe_tupRevT {e : Expr} {te : TE} {p p2 pos pos2 : Pos} (hc : X.calm = true) (hg : Gl X "tuple") (hm : X.mg "tuple" = none) (hg2 : Gl X "reversed") (hm2 : X.mg "reversed" = none) (he : PE X e te)
    (hs : starEach [e] X.env = (false, eval e X.env) :: starEach [] X.env := by rfl)
    (hs2 : starEach [.Call (.Name "reversed" p2) [e] [] pos2] X.env = (false, eval (.Call (.Name "reversed" p2) [e] [] pos2) X.env) :: starEach [] X.env := by rfl) :
    PE X (.Call (.Name "tuple" p) [.Call (.Name "reversed" p2) [e] [] pos2] [] pos) (tTupRevT X.K te) := by
  refine ⟨fun pins s σ H Q I h => ?_⟩
  refine Call_ (ld_blt I hg hm boot_tuple (PyProof.Rows.callWith_type1 (args_cons (Call_ (ld_blt I hg2 hm2 PyProof.Rows.boot_reversed (PyProof.Rows.callWith_type1 (args_cons (thn (he.run pins s σ H _ I h) fun u s1 ⟨v, H1, I1, r1, q1⟩ => args_nil ?_) hs) hs rfl))) hs2) hs2 rfl))
  obtain ⟨a, xs, ev, hq, q⟩ := q1
  subst ev
  obtain rfl : u = Value.ref a := r1
  obtain ⟨its, rv, p', hz⟩ := I1.tuple hq
  have hl := rv.length
  have hn := line63
  have hsz : its.toArray.size ≤ sizeLine := by rw [List.size_toArray, ← hl]; exact hz
  refine call_reversed_tup p' (fun A E Q k => len_tuple p' (by simp only [List.size_toArray] <;> omega) k) (args_nil ?_)
  have k0 : ∀ b o, s1.heap.get? b = some o → (s1.heap.push (rtObj a ((its.toArray.size : Int) - 1))).get? b = some o := fun b o e => Heap.get?_push_of_some _ e
  have I2 : Inv X pins σ H1 { s1 with heap := s1.heap.push (rtObj a ((its.toArray.size : Int) - 1)), toks := s1.toks + 1 + 1 } := I1.kept (t' := s1.toks + 1 + 1) k0
  obtain ⟨f0, f1, f2, f3, f4, f5⟩ := I1.fpOk (H' := H1) (b := s1.heap.objs.size) (Nat.le_refl _) (I1.hok.fresh (Nat.le_refl _))
  have hne : a ≠ s1.heap.objs.size := Nat.ne_of_lt p'.lt
  refine call_tuple_rt (s := { s1 with heap := s1.heap.push (rtObj a ((its.toArray.size : Int) - 1)), toks := s1.toks + 1 + 1 }) (I1.ok.hd hc) ⟨_, Heap.get?_push_size _ rfl, rfl, rfl⟩ (p'.push _) hne hsz fun h' tk acc hk hi => ?_
  have I3 : Inv X pins σ H1 { s1 with heap := h', toks := tk } := I2.turned (t' := tk) (fun b o hb e => hk b o hb e) f0 f1 f3 f4 f5
  have at' : (h'.push { cls := .type "tuple", data := .seq acc }).get? h'.objs.size = some { cls := .type "tuple", data := .seq acc } := Heap.get?_push_size _ rfl
  have hacc : acc.toList.toArray = acc := Array.toArray_toList
  refine ⟨.ref h'.objs.size, upd H1 h'.objs.size (.frz { cls := .type "tuple", data := .seq acc } (.tup xs.reverse)), I3.laid (t' := tk) (fun c o e => Heap.get?_push_of_some _ e) (Nat.le_refl _) (show ObjOk X.prog X.w _ _ _ (.frz _ (.tup xs.reverse)) from ⟨at', by rw [List.length_reverse]; exact hz, acc.toList, vals_rev rv hi, ?_⟩), rfl, q _ _ (I3.hok.fresh (Nat.le_refl _)) rfl⟩
  rw [Array.toArray_toList]
  exact IsTup.new _ _
end
end RT
namespace DL
open PySem PySem.Spec L2 RT
section
variable {X : Cx} {B : Base} {ρ : List Slot} {pos : Pos} {e : Expr}
theorem je_tupRev {α β : Type} {f : α → D} {m : R β} {xs : β → List α} {ρ' : β → List Slot} {p p2 pos2 : Pos} (hc : X.calm = true) (hm : X.mg "tuple" = none) (hm2 : X.mg "reversed" = none) (he : JE X B ρ e m (fun b => .val (eR f (xs b))) ρ')
    (hg : Gl X "tuple" := by rfl) (hg2 : Gl X "reversed" := by rfl)
    (hs : starEach [e] X.env = (false, eval e X.env) :: starEach [] X.env := by rfl)
    (hs2 : starEach [.Call (.Name "reversed" p2) [e] [] pos2] X.env = (false, eval (.Call (.Name "reversed" p2) [e] [] pos2) X.env) :: starEach [] X.env := by rfl) :
    JE X B ρ (.Call (.Name "tuple" p) [.Call (.Name "reversed" p2) [e] [] pos2] [] pos) m (fun b => .val (eR f (xs b).reverse)) ρ' := by
  refine PE_imp (pe_tupRevT hc hg hm hg2 hm2 he hs hs2) fun σ H Q ⟨G, E, q⟩ => ⟨G, E, R.post_mono q fun b k v G1 H1 x1 E1 => ?_⟩
  have ht := E1.top
  obtain ⟨a, rfl⟩ : ∃ a, v = .ref a := by
    cases ht with
    | row => exact ⟨_, rfl⟩
  cases ht with
  | @row _ ob ys _ hH hd hr =>
    refine ⟨a, ys, rfl, .inl (.inr ⟨ob, E1.sub _ _ hH⟩), fun q ob2 hq ho => ?_⟩
    have e2 := Ex.new (o := HO.frz ob2 (.tup ys.reverse)) (E1.pop.sub.back hq)
    refine k _ _ _ (x1.trans e2) ((E1.pop.new hq _).push (.row upd_same ho ?_))
    have := (RpAll.ex e2 hr).revs
    rw [← List.map_reverse] at this
    exact this
end
end DL
namespace DL
open PySem PySem.Spec L2
section
variable {X : Cx} {B : Base} {ρ : List Slot} {pos : Pos} {a : Expr}
theorem je_lenSetT {p p2 pos2 : Pos} {β : Type} {m : R β} {xs : β → List Int} (hc : X.calm = true) (hm : X.mg "len" = none) (hm2 : X.mg "set" = none) (ha : JE X B ρ a m (fun b => .val (eT D.int (xs b))) (fun _ => ρ)) (hg : Gl X "len" := by rfl) (hg2 : Gl X "set" := by rfl)
    (na : starEach [a] X.env = (false, eval a X.env) :: starEach [] X.env := by rfl) (nb : starEach [.Call (.Name "set" p2) [a] [] pos2] X.env = (false, eval (.Call (.Name "set" p2) [a] [] pos2) X.env) :: starEach [] X.env := by rfl) :
    JE X B ρ (.Call (.Name "len" p) [.Call (.Name "set" p2) [a] [] pos2] [] pos) (m.bind fun b => (R.guard ((xs b).length ≤ 1000)).bind fun _ => .ok b) (fun b => .val (.int ((nub (xs b)).length : Nat))) (fun _ => ρ) := by
  have h1 := pe_callTy (pos := pos2) (p := p2) (cr_setTI hc) hg2 hm2 PyProof.Rows.boot_set (pa_cons ha pa_nil na) (by decide) (by decide) na (by rfl)
  have h2 := pe_callB (pos := pos) (p := p) cr_lenSet hg hm (by decide +kernel) (pa_cons h1 pa_nil nb) (by decide) (by decide) nb (by rfl)
  refine PE_imp h2 fun σ H Q ⟨G, E, q⟩ => ⟨G, E, R.post_mono (R.post_bind.mp q) fun b q v G1 H1 x1 E1 => ?_⟩
  obtain ⟨hk, q⟩ := R.post_guard (R.post_bind.mp q)
  obtain ⟨p, vs, rfl, hS, hr⟩ := E1.top.tup_inv
  have hv : vs = (xs b).map V.int := hr.ints
  subst hv
  refine ⟨p, xs b, rfl, E1.sub.t hS, hk, fun p' S hp => ?_⟩
  have e := Ex.new (o := HO.set S (nub (xs b)).length) (E1.sub.back hp)
  exact ⟨p', S, _, rfl, upd_same, q _ _ _ (x1.trans e) ((E1.pop.new hp _).push (.int _))⟩
end
end DL
namespace DL
open PySem PySem.Spec L2
section
variable {K : PySem.W.Frag} {B : Base}
theorem eqvA (xs : List D) : PyData.eqv (toPy (eL eD xs)) (toPy (eL eD ([] : List D))) = List.isEmpty xs := by
  cases xs with
  | nil => rw [eL, List.map_nil, toPy, toPy.toPys, PyData.eqv, PyData.eqvAll]; rfl
  | cons x l => rw [eL, eL, List.map_nil, List.map_cons, toPy, toPy, toPy.toPys, toPy.toPys, PyData.eqv, PyData.eqvAll]; rfl
theorem od_neA {xs : List D} : OpD K B (rNeD K) (eL eD xs) (eL eD ([] : List D)) (R.guard (SeqAt.shaped (toPy (eL eD xs)) = true)) (fun _ => .val (.bool (!List.isEmpty xs))) :=
  od_val (w := .bl (!List.isEmpty xs)) (fun hc G H vx vy Q e hx hy q => ⟨_, _, hx.dp e (by unfold SeqAt.shaped at hc; rw [Bool.and_eq_true] at hc; exact hc.1), hy.dp e (by rw [eL, List.map_nil, toPy, toPy.toPys, PyData.canLay0, PyData.canLayAll0]), hc, by rw [eL, List.map_nil, toPy, toPy.toPys]; decide, by rw [eqvA]; exact q⟩) fun _ => .bl _
end
end DL

/-! DL52: sorted(a tuple of ints) -/
namespace SrtO
open PySem PyProof.Rows Srt
section
variable {prog : Program} {w : World} {A : Around} {E : Value → Shared → Prop} {s : Shared}
theorem collect_tup {l : Addr} {vs : List Value} {Q : List Value → Shared → Prop} (hl : IsTup s.heap l vs.toArray)
    (h : Q vs { s with heap := (s.heap.push (seqObj "list" #[] 0)).update s.heap.objs.size (Obj.mapSeq (· ++ vs.toArray)) }) (hsz : vs.length ≤ sizeLine) :
    wpAny (model prog w) A (collect (.ref l)) Q E s := by
  obtain ⟨o, ho, hc, n, hd⟩ := id hl
  unfold collect
  refine wpAny_bind (wpAny_runValue (codeAny_builtin entry_proto_collect' ?_))
  show wpAny _ _ (do again (.builtin "list.__iadd__" ⟨[← newList [], .ref l], []⟩)) _ _ s
  refine wpAny_bind (wpAny_newList (wpAny_pure ⟨Code.quiet_builtin _ (by decide +kernel), codeAny_builtin entry_list_iadd' ?_⟩))
  show wpAny _ _ (Builtin.List.listExtendWith (.ref s.heap.objs.size) (.ref l) (.ref s.heap.objs.size)) _ _ { s with heap := s.heap.push (seqObj "list" #[] 0) }
  unfold Builtin.List.listExtendWith
  have ho' : (s.heap.push (seqObj "list" #[] 0)).get? l = some o := Heap.get?_push_of_some _ ho
  refine wpAny_bind (wpAny_typeOf (T := "tuple") ⟨o, ho', hc⟩ ?_)
  have ht : (Value.type "tuple" == Value.type "tuple") = true := by rfl
  rw [if_pos (by rw [ht]; simp)]
  refine wpAny_bind (listItems_at ho' hd ?_)
  refine wpAny_bind (listItems_at (xs := #[]) (n := 0) (Heap.get?_push_size _ rfl) rfl ?_)
  rw [if_neg (by simp)]
  refine wpAny_bind (listUpdate_at (xs := #[]) (n := 0) (Heap.get?_push_size _ rfl) rfl ?_ (Nat.zero_le _) (by show (#[] ++ vs.toArray).size ≤ sizeLine + 1; simp only [Array.size_append, List.size_toArray, List.length_nil]; omega))
  refine wpAny_pure ?_
  show wpAny (model prog w) A (do
      let o ← load s.heap.objs.size
      match o.data with
      | .seq xs _ => pure xs.toList
      | _ => unsupported "internal:collect") Q E { s with heap := (s.heap.push (seqObj "list" #[] 0)).update s.heap.objs.size (Obj.mapSeq (· ++ vs.toArray)) }
  refine wpAny_bind (wpAny_load (get?_update_seq (Heap.get?_push_size _ rfl) _) ?_)
  show wpAny _ _ (pure ((#[] : Array Value) ++ vs.toArray).toList) Q E _
  rw [show ((#[] : Array Value) ++ vs.toArray).toList = vs by simp]
  exact wpAny_pure h
theorem sorted_tup {l : Addr} {vs : List Value} {ltv : Value → Value → Bool} {Q : Value → Shared → Prop} (O : Swo ltv) (hl : IsTup s.heap l vs.toArray) (hz : vs.length ≤ sizeLine)
    (hS : 2 ≤ vs.length → ∀ (h₁ : Heap) (a : Addr), h₁.get? a = some (seqObj "list" vs.toArray 0) → (∀ b o, s.heap.get? b = some o → b ≠ a ∧ h₁.get? b = some o) → SortableO prog w A.in1.in1 { s with heap := h₁ } a vs ltv)
    (h : ∀ out : List Value, Srtd ltv out → Stb ltv out vs → Q (.ref (s.heap.objs.size + 1)) { s with heap := sortedAll s.heap vs out.toArray }) :
    wpAny (model prog w) A (call (.builtin "sorted") [.ref l]) Q E s := by
  refine Calls.call_function_entry kind_sorted plain_sorted entry_sorted (args_sorted1 _) ?_
  unfold Builtin.«sorted»
  refine wpAny_bind (m := checkCount "sorted" 1 1 _) (wpAny_pure ?_)
  refine wpAny_bind (collect_tup hl ?_ hz)
  refine wpAny_bind (wpAny_newList ?_ hz)
  have hsz : ((s.heap.push (seqObj "list" #[] 0)).update s.heap.objs.size (Obj.mapSeq (· ++ vs.toArray))).objs.size = s.heap.objs.size + 1 := by
    rw [Heap.size_update, size_push']
  have hoL : (((s.heap.push (seqObj "list" #[] 0)).update s.heap.objs.size (Obj.mapSeq (· ++ vs.toArray))).push (seqObj "list" vs.toArray 0)).get? (s.heap.objs.size + 1) = some (seqObj "list" vs.toArray 0) := by
    rw [← hsz]; exact Heap.get?_push_size _ rfl
  have keep : ∀ b o, s.heap.get? b = some o → b ≠ s.heap.objs.size + 1 ∧ (((s.heap.push (seqObj "list" #[] 0)).update s.heap.objs.size (Obj.mapSeq (· ++ vs.toArray))).push (seqObj "list" vs.toArray 0)).get? b = some o := fun b o q => by
    have hlt : b < s.heap.objs.size := Heap.lt_size q
    refine ⟨Nat.ne_of_lt (Nat.lt_succ_of_lt hlt), Heap.get?_push_of_some _ ?_⟩
    rw [Heap.get?_update_ne _ _ _ _ (Nat.ne_of_lt hlt)]
    exact Heap.get?_push_of_some _ q
  show wpAny _ _ _ _ _ { s with heap := ((s.heap.push (seqObj "list" #[] 0)).update s.heap.objs.size (Obj.mapSeq (· ++ vs.toArray))).push (seqObj "list" vs.toArray 0) }
  rw [hsz]
  refine wpAny_bind (wpAny_holding (wpAny_call_entry slot_list_sort ⟨_, hoL, rfl⟩ entry_list_sort (list_sort_ord O hoL hz (fun h2 => hS h2 _ _ hoL keep) fun out hs hb => ⟨_, rfl, ?_⟩) (args_list_sort _)))
  exact wpAny_pure ⟨_, rfl, h out hs hb⟩
end
end SrtO
namespace L2
open PySem PySem.Spec PyProof.Rows
section
variable {X : Cx}
def rSortTup (K : PySem.W.Frag) : List V → Hp → VK → Prop := fun vs H Q => ∃ (a : Addr) (ns : List Int), vs = [V.ref a] ∧ SqT K H a (ns.map V.int) ∧
  ∀ (ns' : List Int) (p : Addr), ns'.Perm ns → ns'.Pairwise (· ≤ ·) → H p = none → Q (.ref p) (upd H p (.lst (ns'.map V.int)))
theorem cr_sortTup : CallR X (.builtin "sorted") (rSortTup X.K) := by
  intro pins s σ H vs us Q I r h
  obtain ⟨a, ns, rfl, hs, q⟩ := h
  obtain ⟨its, rv, hl, hz⟩ := I.tuple hs
  rw [Vals.ref1 r]
  have hi := rv.ints
  refine SrtO.sorted_tup SrtO.swo_int hl (by rw [← rv.length]; exact hz) (fun h2 h₁ a' _ _ => SrtO.ints_sortable hi h2) fun out h1 h2 => ?_
  obtain ⟨k1, k2, k3⟩ := SrtO.ints_out hi h1 h2
  obtain ⟨ep, he'⟩ := PyProof.Rows.sortedAll_at s.heap its out.toArray
  have hlen : ((out.map SrtO.iv).map V.int).length ≤ sizeLine := by
    rw [List.length_map, k2.length_eq]
    rw [List.length_map] at hz
    exact hz
  exact ⟨.ref _, upd H (s.heap.objs.size + 1) (.lst ((out.map SrtO.iv).map V.int)), I.laid (t' := s.toks) (fun _ _ => PyProof.Rows.sortedAll_old) (Nat.le_succ _) ⟨hlen, out, ep, vals_of_ints k1, he'⟩, rfl, q _ _ k2 k3 (I.hok.fresh (Nat.le_succ _))⟩
end
end L2
namespace DL
open PySem PySem.Spec L2
section
variable {B : Base} {ρ : List Slot}
theorem cb_sortTup {K : PySem.W.Frag} {ns : List Int} : CbD K B ρ (rSortTup K) [.val (eT D.int ns)] (.ok ()) (fun _ => .own 0 (oL D.int (sortI ns))) := fun G H σ vs Q E ok q => by
  obtain ⟨v, rfl, r⟩ := ok.one
  obtain ⟨p, ws, rfl, hS, hr⟩ := r.tup_inv
  have hr := hr.ints
  subst hr
  refine ⟨p, ns, rfl, E.sub.t hS, fun ns' p' pm st hp => ?_⟩
  have e : ns' = sortI ns := sorted_eq (pm.trans (sortI_perm ns).symm) st (sortI_sorted ns)
  subst e
  exact q _ G _ (Ex.refl G) (E.newL hp (RpAll.of_ints _))
end
end DL
namespace DL
open PySem PySem.Spec L2
section
variable {X : Cx} {B : Base} {ρ : List Slot} {pos : Pos} {a : Expr} {α β β1 β2 : Type}
/-- l[lo:hi] of a list -/
theorem je_slLE {o1 o2 : Option Expr} {p2 : Pos} {m1 : R β1} {lo : β1 → Option Int} {m2 : R β2} {hi : β2 → Option Int} {m : R β} {f : α → D} {xs : β → List α} (h : JE X B ρ a m (fun b => .val (eL f (xs b))) (fun _ => ρ)) (h1 : JOm X B ρ o1 m1 lo) (h2 : JOm X B ρ o2 m2 hi) :
    JE X B ρ (.Subscript a (.Slice o1 o2 none p2) pos) (m.bind fun b => m1.bind fun b1 => m2.bind fun b2 => .ok (b, b1, b2)) (fun p => .own 0 (oL f (cut (xs p.1) (lo p.2.1) (hi p.2.2)))) (fun _ => ρ) := by
  refine PE_imp (pe_slice sl_list h h1 h2) fun σ H Q ⟨G, E, q⟩ => ⟨G, E, R.post_mono (R.post_bind.mp q) fun b q1 v G1 H1 x1 E1 => ⟨G1, E1.pop, R.post_mono (R.post_bind.mp q1) fun b1 q2 G2 H2 x2 E2 => ⟨G2, E2, R.post_mono (R.post_bind.mp q2) fun b2 k G3 H3 x3 E3 => ?_⟩⟩⟩
  obtain ⟨p, vs, rfl, hS, hr⟩ := E1.top.lst_inv
  have x13 := x2.trans x3
  refine ⟨p, vs, rfl, .inl ((x13.trans E3.sub).rd hS), fun q' hq => k _ G3 _ (x1.trans x13) (E3.newL hq ?_)⟩
  rw [← cut_map]
  exact cut_rp (RpAll.ex x13 hr)
end
end DL
namespace DL
open PySem PySem.Spec L2
theorem eL_any {α : Type} {f : α → D} {xs : List α} : eL f xs = eL eD (xs.map f) := by
  unfold eL
  rw [List.map_map]
  rfl
end DL

/-! DL53: a module's tuple of whole numbers; d.get(k, x), d[k] = e with effects, a dict lent; repr of data with dicts -/
namespace DL
open PySem PySem.Spec L2 PyProof.Rows
/-! ### a module's tuple -/
def numI : Value → Option Int
  | .int i _ => some i
  | _ => none
def gtupB (K : PySem.W.Frag) (x : Str) (ns : List Int) : Bool := match PySem.W.nsIn K mainGlobals x with
  | some (some (.ref a)) => (match K.lookup a with
    | some ⟨.type c, _, .seq its _, _⟩ => decide (c = "tuple") && (decide (its.size ≤ 1000) && decide (its.toList.map numI = ns.map some))
    | _ => false)
  | _ => false
def GTup (K : PySem.W.Frag) (mg : Str → Option Value) (x : Str) (ns : List Int) : Prop := ∃ a, mg x = some (.ref a) ∧ ∃ (o : Obj) (its : Array Value) (n : Nat), K.lookup a = some o ∧ o.cls = .type "tuple" ∧ o.data = .seq its n ∧ its.size ≤ sizeLine ∧ Vals (ns.map V.int) its.toList
theorem vals_num : ∀ {us : List Value} {ns : List Int}, us.map numI = ns.map some → Vals (ns.map V.int) us
  | [], [], _ => .nil
  | [], _ :: _, h => nomatch h
  | _ :: _, [], h => nomatch h
  | u :: us, n :: ns, h => by
    rw [List.map_cons, List.map_cons] at h
    injection h with h1 h2
    refine .cons ?_ (vals_num h2)
    cases u <;> first | (cases h1; exact ⟨_, rfl⟩) | cases h1
theorem gtup_ok {K : PySem.W.Frag} {h : Heap} {mg : Str → Option Value} (X : K.In h) (G : h.Ns mainGlobals mg) {x : Str} {ns : List Int} (c : gtupB K x ns = true) : GTup K mg x ns := by
  unfold gtupB at c
  cases e : PySem.W.nsIn K mainGlobals x with
  | none =>
    rw [e] at c
    cases c
  | some o =>
    rw [e] at c
    cases o with
    | none => cases c
    | some v =>
      cases v with
      | ref a =>
        refine ⟨a, PySem.W.mg_of X G e, ?_⟩
        dsimp only at c
        cases q : K.lookup a with
        | none =>
          rw [q] at c
          cases c
        | some ob =>
          rw [q] at c
          obtain ⟨oc, od, dt, sl⟩ := ob
          cases oc with
          | type t =>
            cases dt with
            | seq its n =>
              have c1 : (decide (t = "tuple") && (decide (its.size ≤ 1000) && decide (its.toList.map numI = ns.map some))) = true := c
              obtain ⟨c2, c3⟩ := He.ba c1
              obtain ⟨c4, c5⟩ := He.ba c3
              have h1 : its.size ≤ 1000 := of_decide_eq_true c4
              refine ⟨_, its, n, rfl, by rw [of_decide_eq_true c2], rfl, ?_, vals_num (of_decide_eq_true c5)⟩
              clear c c1 c2 c3 c4 c5
              exact Nat.le_trans h1 (Nat.le_of_lt (small1000 (Nat.le_refl _)))
            | _ => cases c
          | _ => cases dt <;> cases c
      | _ => cases c
section
variable {X : Cx} {B : Base} {ρ : List Slot} {pos : Pos}
theorem rp_ints {K : PySem.W.Frag} {G : Hp} : ∀ ns : List Int, RpAll K G (ns.map V.int) (ns.map D.int)
  | [] => .nil
  | n :: ns => .cons (.int n) (rp_ints ns)
theorem jp_gtup {x : Str} {ns : List Int} (h : GTup X.K X.mg x ns) (hg : Gl X x := by rfl) (hd : (x == ("__debug__" : Str)) = false := by decide) : JP X B ρ (.Name x pos) (.tuple (ns.map D.int)) := by
  obtain ⟨a, h, o, its, n, h1, h2, h3, h4, h5⟩ := h
  exact PE_imp (pe_glob (v := .ref a) hg h rfl hd) fun σ H Q ⟨G, E, q⟩ => q _ G H (Ex.refl G) (E.push (.tup (.inr ⟨o, its, n, h1, h2, h3, h4, h5⟩) (rp_ints ns)))
end
/-! ### the head, with one more Bool -/
abbrev AlE : Type := He.AlD × Bool
def obsEG (n : Nat) (fa : List He.Fa) (fn : List He.DefD) (ex : PySem.W.Frag → Bool) (g : Addr → Option Obj) : AlE := (He.obsDG n fa fn g, ex (He.frG g (He.asD g n)))
def hookE (n : Nat) (fa : List He.Fa) (fn : List He.DefD) (ex : PySem.W.Frag → Bool) : PySem.W.Hook where
  α := AlE
  obs := fun s => obsEG n fa fn ex s.heap.get?
  val := fun _ => (He.valD fn, true)
  says := fun _ h => ∃ K : PySem.W.Frag, K.In h ∧ He.SaysD fa fn K ∧ ex K = true
  of := fun _ _ e => ⟨_, He.frG_in, congrArg (fun z : AlE => z.1) e, congrArg (fun z : AlE => z.2) e⟩
  keeps := fun _ _ _ ⟨K, hK, c⟩ k => ⟨K, PySem.W.Frag.In.keeps hK k, c⟩
theorem obsEG_eq {n : Nat} {fa : List He.Fa} {fn : List He.DefD} {ex : PySem.W.Frag → Bool} {g : Addr → Option Obj} {s : Shared} (h : ∀ a, g a = s.heap.get? a) : obsEG n fa fn ex g = (hookE n fa fn ex).obs s := by
  have e : g = s.heap.get? := funext h
  rw [e] <;> rfl
/-! ### d.get(k, x), d[k] = e -/
def lookT {β : Type} (kvs : List ((Int × Int) × β)) (k : Int × Int) : Option β := (kvs.find? fun p => decide (p.1 = k)).map (·.2)
section
variable {X : Cx} {B : Base} {ρ : List Slot} {pos pos' ap cp : Pos} {e2 e3 o2 val : Expr} {β : Type} {K : PySem.W.Frag} {G : Hp} {f : β → D}
theorem rpt_val {kvs : List (List Key × V)} {ds : List ((Int × Int) × β)} (h : RpE K G kvs (ds.map fun p => (kyP p.1, f p.2))) (k : Int × Int) {y : V} {b : β} (hy : Rp K G y (f b)) : Rp K G ((valV kvs (kyP k)).getD y) (f ((lookT ds k).getD b)) := by
  induction ds generalizing kvs with
  | nil =>
    cases h
    exact hy
  | cons p ds ih =>
    rw [List.map_cons] at h
    cases h with
    | @cons _ v _ r _ h t =>
      have i := ih t
      unfold lookT at i ⊢
      rw [List.find?_cons]
      by_cases hk : p.1 = k
      · subst hk
        rw [decide_eq_true rfl]
        show Rp K G ((valV ((kyP p.1, v) :: r) (kyP p.1)).getD y) (f p.2)
        have e : valV ((kyP p.1, v) :: r) (kyP p.1) = some v := by
          simp [valV]
        rw [e]
        exact h
      · rw [decide_eq_false hk]
        have e : valV ((kyP p.1, v) :: r) (kyP k) = valV r (kyP k) := by
          have hn : kyP p.1 ≠ kyP k := fun z => hk (kyP_inj z)
          simp [valV, hn]
        rw [e]
        exact i
theorem je_dgetT (i : Nat) {x : Str} {px : Pos} {l : Nat} {kvs : List ((Int × Int) × β)} {k : Int × Int} {b : β} (hu : X.A.units + 64 < cLine) (h : ρ[i]? = some (.own l (odT f kvs)) := by rfl) (hk : JP X B ρ e2 (eK2 k)) (hb : JP X B ρ e3 (f b)) (hal : noAlis ρ = true := by rfl) (hN : X.N[i]? = some x := by rfl)
    (hvi : Vis X.env.scope x := by first | exact Or.inl rfl | exact Or.inr (Or.inl rfl) | exact Or.inr (Or.inr rfl)) (hd : (x == ("__debug__" : Str)) = false := by decide) (hcd : (x == ("__classdict__" : Str)) = false := by decide)
    (m : M2 X (.Name x px) "get" ap e2 e3 cp := by exact ⟨rfl, rfl, rfl, rfl⟩) :
    JP X B ρ (.Call (.Attribute (.Name x px) "get" ap) [e2, e3] [] cp) (f ((lookT kvs k).getD b)) :=
  PE_imp (pe_dget2 (by omega) (pv (X := X) (pos := px) i hN hvi hd hcd) hk hb m) fun σ H Q ⟨G, E, q⟩ => by
    obtain ⟨p, kv, g1, g2, g3, _⟩ := E.ownDT h hal
    refine ⟨.ref p, g1, p, rfl, .inr ⟨kv, .inl g2⟩, G, E, fun w G1 H1 x1 E1 => ?_⟩
    obtain ⟨kb, hy, hkb⟩ := E1.top.key_inv
    subst hy
    refine ⟨G1, E1.pop, fun z G2 H2 x2 E2 => ?_⟩
    obtain ⟨p', kv', f1, f2, f3, f4⟩ := E2.pop.ownDT h hal
    have ep : p' = p := by
      have z := f1.symm.trans g1
      injection z with z
      injection z with z
      injection z
    subst ep
    exact ⟨_, DGet.t (k := kyP k) f2 (E2.sub _ _ (x2 _ _ hkb)), q _ G2 H2 (x1.trans x2) (E2.pop.push (rpt_val f3 k E2.top))⟩
theorem j1_dputTE (i : Nat) {γ : Type} {x : Str} {px : Pos} {l : Nat} {m : R γ} {v : γ → β} {ρ' : γ → List Slot} {kvs : γ → List ((Int × Int) × β)} {k : γ → Int × Int} (hu : X.A.units + 64 < cLine) (hv : JE X B ρ val m (fun b => .val (f (v b))) ρ') (h : ∀ b, (ρ' b)[i]? = some (.own l (odT f (kvs b))) := by intro _; rfl) (hk : ∀ b, JP X B (ρ' b) o2 (eK2 (k b))) (hal : ∀ b, noAlis (ρ' b) = true := by intro _; rfl) (hN : X.N[i]? = some x := by rfl)
    (hvi : Vis X.env.scope x := by first | exact Or.inl rfl | exact Or.inr (Or.inl rfl) | exact Or.inr (Or.inr rfl)) (hd : (x == ("__debug__" : Str)) = false := by decide) (hcd : (x == ("__classdict__" : Str)) = false := by decide)
    (hs : swapsWith val (some (.Subscript (.Name x px) o2 pos')) pos.line X.env = pure false := by rfl) :
    J1 X B ρ (.Assign [.Subscript (.Name x px) o2 pos'] val pos) (m.bind fun b => (R.guard ((kvs b).length < sizeLine)).bind fun _ => .ok b) (fun b => (ρ' b).set i (.own l (odT f (putT (kvs b) (k b) (v b))))) := by
  have hk' : PE X o2 (fun σ H Q => ∃ b, tJ X.K B (ρ' b) (R.ok ()) (fun _ => .val (eK2 (k b))) (fun _ => ρ' b) σ H Q) := ⟨fun pins s σ H Q I ⟨b, q⟩ => (hk b).run pins s σ H Q I q⟩
  refine PS_imp (ps_dput (by omega) (pv (X := X) (pos := px) i hN hvi hd hcd) hk' hv hs) fun Dn σ H ⟨G, E, q⟩ => ?_
  refine ⟨G, E, R.post_mono (R.post_bind.mp q) fun b q w G1 H1 x1 E1 => ?_⟩
  obtain ⟨hc, q⟩ := R.post_guard (R.post_bind.mp q)
  obtain ⟨p, kv, g1, g2, g3, _⟩ := E1.pop.ownDT (h b) (hal b)
  refine ⟨.ref p, g1, b, G1, E1.pop, fun y G2 H2 x2 E2 => ?_⟩
  obtain ⟨kb, hy, hkb⟩ := E2.top.key_inv
  subst hy
  obtain ⟨p', kv', f1, f2, f3, f4⟩ := E2.pop.ownDT (h b) (hal b)
  have ep : p' = p := by
    have z := f1.symm.trans g1
    injection z with z
    injection z with z
    injection z
  subst ep
  have hl : kv'.length < sizeLine := by
    rw [rpt_len f3, List.length_map]
    exact hc
  exact ⟨p', _, rfl, DPut.t (k := kyP (k b)) (v := w) f2 (E2.sub _ _ hkb) hl, q σ G2 _ (x1.trans x2) (f4 _ _ (rpt_put f3 (E1.top.ex x2)))⟩
end
/-! ### an own dict as data, lent -/
@[reducible] def eDct {β : Type} (f : β → D) (kvs : List ((Int × Int) × β)) : D := .dict (kvs.map fun p => (D.tuple [D.int p.1.1, D.int p.1.2], f p.2))
theorem toD_odT {β : Type} (f : β → D) (kvs : List ((Int × Int) × β)) : (odT f kvs).toD = eDct f kvs := by
  rw [odT, OT.toD, eDct, List.map_map]
  rfl
/-! ### repr of data with dicts -/
mutual
def pd2 : D → PyData
  | .none => .none
  | .bool b => .bool b
  | .int i => .int i
  | .str x => .str x
  | .list _ => .none
  | .tuple ds => .tuple (pd2s ds)
  | .row ds => .tuple (pd2s ds)
  | .scr _ => .none
  | .key ns => .tuple (ns.map PyData.int)
  | .dict kvs => .dict (pd2kv kvs)
def pd2s : List D → List PyData
  | [] => []
  | d :: ds => pd2 d :: pd2s ds
def pd2kv : List (D × D) → List (PyData × PyData)
  | [] => []
  | (k, v) :: r => (pd2 k, pd2 v) :: pd2kv r
end
mutual
def plain2 : D → Bool
  | .none => true
  | .bool _ => true
  | .int _ => true
  | .str _ => true
  | .list _ => false
  | .tuple ds => plain2s ds
  | .row ds => plain2s ds
  | .scr _ => false
  | .key _ => true
  | .dict kvs => plain2kv kvs
def plain2s : List D → Bool
  | [] => true
  | d :: ds => plain2 d && plain2s ds
def plain2kv : List (D × D) → Bool
  | [] => true
  | (k, v) :: r => isTupD k && (plain2 v && plain2kv r)
def isTupD : D → Bool
  | .tuple _ => true
  | _ => false
end
section
variable {X : Cx} {pins : List (Addr × Obj)} {σ : L2.St} {G H : Hp} {s : Shared}
abbrev kyD (k : Key) : D := match k with | .inl i => D.int i | .inr x => D.str x
theorem reads_keys (h : Heap) : ∀ (ks : List Key) (us : List Value), Vals (ks.map kV) us → ReadsAll h us (pd2s (ks.map kyD)) []
  | [], _, .nil => by
    rw [List.map_nil, pd2s]
    exact .nil
  | .inl i :: ks, _, .cons r t => by
    obtain ⟨tk, rfl⟩ := r
    rw [List.map_cons, pd2s]
    show ReadsAll h _ (pd2 (D.int i) :: _) ([] ++ [])
    rw [pd2]
    exact .cons (.int i tk) (reads_keys h ks _ t)
  | .inr x :: ks, _, .cons r t => by
    obtain ⟨tk, rfl⟩ := r
    rw [List.map_cons, pd2s]
    show ReadsAll h _ (pd2 (D.str x) :: _) ([] ++ [])
    rw [pd2]
    exact .cons (.str x tk) (reads_keys h ks _ t)
theorem reads_ints2 (h : Heap) : ∀ (ns : List Int) (us : List Value), Vals (ns.map V.int) us → ReadsAll h us (ns.map PyData.int) []
  | [], _, .nil => .nil
  | n :: ns, _, .cons r t => by
    obtain ⟨tk, rfl⟩ := r
    exact .cons (as := []) (bs := []) (.int n tk) (reads_ints2 h ns _ t)
/-- the keys and the values of a dict by tuples -/
theorem reads_kt (I : Inv X pins σ H s) : ∀ {kvs : List (List Key × V)} {xs : List (List Key × Addr × Value)}, KT H kvs xs → ∃ as, ReadsAll s.heap (xs.map fun x => Value.ref x.2.1) (kvs.map fun p => PyData.tuple (pd2s (p.1.map kyD))) as ∧ as = []
  | _, _, .nil => ⟨_, .nil, rfl⟩
  | _, _, .cons h t => by
    obtain ⟨as, r, rfl⟩ := reads_kt I t
    obtain ⟨h1, h2, h3⟩ := h
    obtain ⟨its, vs, ⟨o, g1, g2, n, g4⟩, _⟩ := I.tuple (.inl (.inl h2))
    exact ⟨_, .cons (as := []) (.tuple g1 g2 g4 (by simpa using reads_keys s.heap _ _ vs)) r, rfl⟩
mutual
theorem Rp.reads2 (I : Inv X pins σ H s) (e : Ex G H) : ∀ {v : V} {d : D}, Rp X.K G v d → ∀ {u : Value}, RelV v u → plain2 d = true → ∃ as, Reads s.heap u (pd2 d) as ∧ sysModules ∉ as
  | _, _, .non, u, r, _ => by
    cases r
    rw [pd2]
    exact ⟨_, .none, fun z => nomatch z⟩
  | _, _, .bl b, u, r, _ => by
    cases r
    rw [pd2]
    exact ⟨_, .bool b, fun z => nomatch z⟩
  | _, _, .int i, u, r, _ => by
    obtain ⟨t, rfl⟩ := r
    rw [pd2]
    exact ⟨_, .int i t, fun z => nomatch z⟩
  | _, _, .str x, u, r, _ => by
    obtain ⟨t, rfl⟩ := r
    rw [pd2]
    exact ⟨_, .str x t, fun z => nomatch z⟩
  | _, _, .lst h q, u, r, p => by
    rw [plain2] at p
    cases p
  | _, _, .tup h q, u, r, p => by
    cases r
    rw [pd2]
    rw [plain2] at p
    obtain ⟨its, vs, ⟨o, g1, g2, n, g4⟩, _⟩ := I.tuple (e.t h)
    obtain ⟨as, ra, ns⟩ := RpAll.reads2 I e q vs p
    exact ⟨_, .tuple g1 g2 g4 (by simpa using ra), ns⟩
  | _, _, .row h d q, u, r, p => by
    cases r
    rw [pd2]
    rw [plain2] at p
    obtain ⟨its, vs, ⟨o, g1, g2, n, g4⟩, _⟩ := I.tuple (.inl (.inr ⟨_, e _ _ h⟩))
    obtain ⟨as, ra, ns⟩ := RpAll.reads2 I e q vs p
    exact ⟨_, .tuple g1 g2 g4 (by simpa using ra), ns⟩
  | _, _, .scr h, u, r, p => by
    rw [plain2] at p
    cases p
  | _, _, .key h, u, r, _ => by
    cases r
    rw [pd2]
    obtain ⟨its, vs, ⟨o, g1, g2, n, g4⟩, _⟩ := I.tuple (.inl (.inl (e _ _ h)))
    exact ⟨[], .tuple g1 g2 g4 (by simpa using reads_ints2 s.heap _ _ vs), List.not_mem_nil⟩
  | _, _, .dK (a := a) (kvs := kvs) h q, u, r, p => by
    cases r
    rw [plain2] at p
    cases q with
    | nil =>
      obtain ⟨_, z, vs, kv, dd⟩ := dk_of (I.hok) (e _ _ h)
      cases kv
      obtain ⟨o, es, ep, g1, g2, g3, _, g4, _⟩ := dd
      have e0 : es.toList = [] := by
        generalize es.toList = l at g4
        cases l with
        | nil => rfl
        | cons a b => cases g4
      rw [pd2, pd2kv]
      refine ⟨_, .dict (as := []) (bs := []) g1 g2.1 g3 (by rw [e0]; exact .nil) (by rw [e0]; exact .nil), ?_⟩
      intro m
      have m2 : sysModules = a := by simpa using m
      rw [m2] at z
      simp at z
    | @cons k v r d ds h1 h2 =>
      rw [plain2kv] at p
      exfalso
      cases k <;> (rw [isTupD] at p <;> first | (simp at p; done) | (intro _ z; cases z))
  | _, _, .dT (a := a) (kvs := kvs) (ds := ds) h q, u, r, p => by
    cases r
    rw [plain2] at p
    obtain ⟨_, z, xs, kv, o, es, ep, g1, g2, g3, g4, _⟩ := dt_of (I.hok) (e _ _ h)
    obtain ⟨as, r1, rfl⟩ := reads_kt I kv
    obtain ⟨bs, r2, e1, ns⟩ := RpT.reads2 I e q kv p
    rw [pd2]
    refine ⟨_, .dict (as := []) (bs := bs) g1 g2.1 g3 ?_ ?_, ?_⟩
    · rw [g4, List.map_map, e1]
      exact r1
    · rw [g4, List.map_map]
      exact r2
    · intro m
      have m2 : sysModules = a ∨ sysModules ∈ bs := by simpa using m
      rcases m2 with m2 | m2
      · rw [m2] at z
        simp at z
      · exact ns m2
theorem RpAll.reads2 (I : Inv X pins σ H s) (e : Ex G H) : ∀ {vs : List V} {ds : List D}, RpAll X.K G vs ds → ∀ {us : List Value}, Vals vs us → plain2s ds = true → ∃ as, ReadsAll s.heap us (pd2s ds) as ∧ sysModules ∉ as
  | _, _, .nil, _, .nil, _ => by
    rw [pd2s]
    exact ⟨_, .nil, fun z => nomatch z⟩
  | _, _, .cons h q, _, .cons r t, p => by
    rw [plain2s, Bool.and_eq_true] at p
    rw [pd2s]
    obtain ⟨as, a, n1⟩ := Rp.reads2 I e h r p.1
    obtain ⟨bs, b, n2⟩ := RpAll.reads2 I e q t p.2
    exact ⟨_, .cons a b, fun m => (List.mem_append.mp m).elim n1 n2⟩
theorem RpT.reads2 (I : Inv X pins σ H s) (e : Ex G H) : ∀ {kvs : List (List Key × V)} {ds : List (D × D)}, RpT X.K G kvs ds → ∀ {xs : List (List Key × Addr × Value)}, KT H kvs xs → plain2kv ds = true →
    ∃ bs, ReadsAll s.heap (xs.map fun x => x.2.2) ((pd2kv ds).map (·.2)) bs ∧ (pd2kv ds).map (·.1) = kvs.map (fun p => PyData.tuple (pd2s (p.1.map kyD))) ∧ sysModules ∉ bs
  | _, _, .nil, _, .nil, _ => by
    rw [pd2kv]
    exact ⟨_, .nil, rfl, fun z => nomatch z⟩
  | _, _, .cons h q, _, .cons r t, p => by
    rw [plain2kv, Bool.and_eq_true, Bool.and_eq_true] at p
    obtain ⟨as, a, n1⟩ := Rp.reads2 I e h r.2.2 p.2.1
    obtain ⟨bs, b, e2, n2⟩ := RpT.reads2 I e q t p.2.2
    rw [pd2kv]
    refine ⟨_, .cons a b, ?_, fun m => (List.mem_append.mp m).elim n1 n2⟩
    rename_i k _ _ _ _ _ _
    rw [List.map_cons, List.map_cons, e2, pd2]
    all_goals exact congrArg (fun l => PyData.tuple (pd2s l) :: _) (List.map_congr_left fun x _ => by cases x <;> rfl)
end
def repOk2 (d : D) : Prop := plain2 d = true ∧ isRefD d = true ∧ (pd2 d).showable = true ∧ (pd2 d).shown.length ≤ sizeLine ∧ (pd2 d).depth ≤ 60
instance (d : D) : Decidable (repOk2 d) := by unfold repOk2; exact inferInstance
def reprD2 (d : D) : Str := (pd2 d).shown
def rRep2 (K : PySem.W.Frag) : List V → Hp → VK → Prop := fun xs H Q => ∃ v G d, xs = [v] ∧ Ex G H ∧ Rp K G v d ∧ repOk2 d ∧ Q (.str (reprD2 d)) H
theorem call_reprD2 (hg : X.A.guards = some []) (hu : X.A.units + 64 < cLine) : CallR X (.builtin "repr") (rRep2 X.K) := by
  intro pins s σ H xs us Q I r h
  obtain ⟨v, G, d, rfl, e, q, ⟨p1, p2, p3, p4, p5⟩, hq⟩ := h
  cases r with
  | cons r t =>
    cases t
    obtain ⟨as, rd, ns⟩ := q.reads2 I e r p1
    have isr : ∃ a, v = .ref a := by
      cases q <;> first | exact ⟨_, rfl⟩ | (simp [isRefD] at p2)
    obtain ⟨a, rfl⟩ := isr
    cases r
    exact repr_of_reads' rd p3 (fun _ => ns) hg (by omega) (fun _ _ z => z) (fun h' u tk hk => ⟨.str _, H, I.kept hk, ⟨u, rfl⟩, hq⟩) p4
theorem cb_repr2 {K : PySem.W.Frag} {B : Base} {ρ : List Slot} {d : D} : CbD K B ρ (rRep2 K) [.val d] (R.guard (repOk2 d)) (fun _ => .val (.str (reprD2 d))) := fun G H σ vs Q E ok q => by
  obtain ⟨hc, q⟩ := R.post_guard q
  obtain ⟨v, rfl, r⟩ := ok.one
  exact ⟨v, G, d, rfl, E.sub, r, hc, q _ G H (Ex.refl G) (E.push (.str _))⟩
end
end DL

/-! DL54: [f, g][i](..) -/
namespace DL
open PySem PySem.Spec L2 PyProof.Rows
section
variable {X : Cx} {B : Base} {ρ : List Slot} {ie e : Expr} {es : List Expr} {pos lp sp p1 p2 : Pos} {CX : CXT} {k1 k2 : Nat} {f1 f2 : Addr} {fd1 fd2 : FuncData} {ps1 ps2 : List Str} {EE : XK} {x1 x2 : Str}
theorem pe_pick2 {δ : Type} {mi : R δ} {kk : δ → Int} {ρi : δ → List Slot} (hg1 : Gl X x1) (hm1 : X.mg x1 = some (.ref f1)) (hg2 : Gl X x2) (hm2 : X.mg x2 = some (.ref f2)) (hi : JE X B ρ ie mi (fun d => .val (.int (kk d))) ρi) (hs : PlainIx ie)
    (hdb1 : (x1 == ("__debug__" : Str)) = false := by decide) (hdb2 : (x2 == ("__debug__" : Str)) = false := by decide) :
    PE X (.Subscript (.List [.Name x1 p1, .Name x2 p2] lp) ie sp) (fun σ H Q => ∃ G, En X.K B G H σ ρ [] ∧ mi.post (fun d => (kk d = 0 ∨ kk d = 1) ∧ ∀ G' H', Ex G G' → En X.K B G' H' σ (ρi d) [] → Q (.ref (if kk d = 0 then f1 else f2)) H') B.rs) :=
  PE_imp (pe_ix ix_list (pe_lst (pa_cons (pe_glob (v := .ref f1) hg1 hm1 rfl hdb1) (pa_cons (pe_glob (v := .ref f2) hg2 hm2 rfl hdb2) pa_nil))) hi hs) fun σ H Q ⟨G, E, q⟩ => by
    refine ⟨Nat.le_of_lt (small1000 (show 2 ≤ 1000 by decide)), fun p hp => ?_⟩
    have E1 := E.new hp (.lst [.ref f1, .ref f2])
    have x1 : Ex G (upd G p (.lst [.ref f1, .ref f2])) := Ex.new (E.sub.back hp)
    refine ⟨_, E1, R.post_mono q fun d q v G1 H1 y1 E2 => ?_⟩
    have hv := E2.top.int_inv
    have hp1 : H1 p = some (.lst [.ref f1, .ref f2]) := E2.sub _ _ (y1 _ _ upd_same)
    refine ⟨p, [.ref f1, .ref f2], kk d, .ref (if kk d = 0 then f1 else f2), rfl, hv, .inl (.inl hp1), ?_, q.2 G1 H1 (x1.trans y1) E2.pop⟩
    rcases q.1 with z | z
    · rw [z]
      rfl
    · rw [z]
      rfl
theorem je_callOf {α β δ : Type} {ins : α → List Slot} {mf1 mf2 : α → R β} {sl : β → Slot} {outs : β → List Slot}
    (F1 : FnG X.prog X.w X.K X.mg X.base CX k1 f1 fd1 ps1 (spM X.K ins mf1 sl outs)) (hr1 : RoomG k1 X.A) (hg1 : Gl X x1) (hm1 : X.mg x1 = some (.ref f1)) (hk1 : PySem.W.keepIn X.K (.ref f1) = true) (hb1 : Binds X.K fd1 ps1 [])
    (F2 : FnG X.prog X.w X.K X.mg X.base CX k2 f2 fd2 ps2 (spM X.K ins mf2 sl outs)) (hr2 : RoomG k2 X.A) (hg2 : Gl X x2) (hm2 : X.mg x2 = some (.ref f2)) (hk2 : PySem.W.keepIn X.K (.ref f2) = true) (hb2 : Binds X.K fd2 ps2 [])
    (hx : Passes CX X EE) {mi : R δ} {kk : δ → Int} {ρi : δ → List Slot} (hi : JE X B ρ ie mi (fun d => .val (.int (kk d))) ρi) {as : δ → List Ar} (arg : δ → α) (ρ' : δ × β → List Slot)
    (ha : ∀ d, JA X B (ρi d) (e :: es) (.ok ()) (fun _ => as d) (fun _ => ρi d)) (hne : ∀ e, ¬ B.rs e) (hgi : ∀ c, goodIn (ρi c) (as c) = true := by intro _; rfl) (hins : ∀ c, insAt 0 (ρi c) (as c) = ins (arg c) := by intro _; rfl)
    (ho : ∀ c b, goodOut 0 (as c) (outs b) = true := by intro _ _; rfl) (hal : ∀ c, aliOk (ρi c) (as c) = true := by intro _; rfl) (hres : ∀ b, resOk (sl b) = true := by intro _; rfl) (hρ : ∀ c b, backAt (ρi c) (movedAt (ρi c) (as c)) (as c) (outs b) = ρ' (c, b) := by intro _ _; rfl)
    (hs : PlainIx ie := by intro _ _; rfl) (hdb1 : (x1 == ("__debug__" : Str)) = false := by decide) (hdb2 : (x2 == ("__debug__" : Str)) = false := by decide)
    (he : starEach (e :: es) X.env = (false, eval e X.env) :: starEach es X.env := by rfl) (hpl : (backTo pos (starEach es X.env)).any (·.1) = false := by rfl)
    (hev : eval (.Call (.Subscript (.List [.Name x1 p1, .Name x2 p2] lp) ie sp) (e :: es) [] pos) X.env = (do
      callWith pos (← eval (.Subscript (.List [.Name x1 p1, .Name x2 p2] lp) ie sp) X.env) [] (backTo pos (starEach (e :: es) X.env)) (backToKw pos (keywordEach [] X.env))) := by rfl) :
    JE X B ρ (.Call (.Subscript (.List [.Name x1 p1, .Name x2 p2] lp) ie sp) (e :: es) [] pos) (mi.bind fun d => (R.guard (kk d = 0 ∨ kk d = 1)).bind fun _ => (if kk d = 0 then mf1 (arg d) else mf2 (arg d)).bind fun b => .ok (d, b)) (fun y => sl y.2) ρ' := by
  refine ⟨fun pins s σ H Q I ⟨G, E, q⟩ => ?_⟩
  rw [hev]
  refine wpAny_bind (thn ((pe_pick2 (p1 := p1) (p2 := p2) (lp := lp) (sp := sp) hg1 hm1 hg2 hm2 hi hs hdb1 hdb2).run pins s σ H
    (fun v H1 => ∃ d G1, v = .ref (if kk d = 0 then f1 else f2) ∧ Ex G G1 ∧ En X.K B G1 H1 σ (ρi d) [] ∧ ((if kk d = 0 then mf1 (arg d) else mf2 (arg d)).post (fun b => ∀ v G' H', Ex G G' → En X.K B G' H' σ (ρ' (d, b)) [(v, sl b)] → Q v H') B.rs)) I ⟨G, E, R.post_mono (R.post_bind.mp q) fun d q => ?_⟩) fun u s1 ⟨v, H1, I1, r1, d, G1, hv, y1, E1, q1⟩ => ?_)
  · obtain ⟨hc, q⟩ := R.post_guard (R.post_bind.mp q)
    exact ⟨hc, fun G' H' y E' => ⟨d, G', rfl, y, E', R.post_bind.mp q⟩⟩
  · subst hv
    obtain rfl : u = Value.ref (if kk d = 0 then f1 else f2) := r1
    by_cases hz : kk d = 0
    · rw [if_pos hz] at q1 ⊢
      refine PySem.W.callWith_K (h₀ := X.base) I1.ok.mod.kin hk1 (thn ((ha d).run pos pins s1 σ H1 (fun vs H2 => spM X.K ins mf1 sl outs vs H2 Q EE) I1 ⟨G1, E1, fun vs G2 H2 y2 E2 ok => ?_⟩) fun us s2 ⟨vs, H2, I2, r, q⟩ => ⟨I2.kIn, go_fn F1 hr1 hb1 hx I2 r q⟩) he hpl
      exact call_sp (arg d) E2 ok (hgi d) (hins d) (ho d) (hal d) hres hne (R.post_mono q1 fun b k v G3 H3 y3 E3 => k v G3 H3 (y1.trans (y2.trans y3)) (by rw [← hρ d b]; exact E3))
    · rw [if_neg hz] at q1 ⊢
      refine PySem.W.callWith_K (h₀ := X.base) I1.ok.mod.kin hk2 (thn ((ha d).run pos pins s1 σ H1 (fun vs H2 => spM X.K ins mf2 sl outs vs H2 Q EE) I1 ⟨G1, E1, fun vs G2 H2 y2 E2 ok => ?_⟩) fun us s2 ⟨vs, H2, I2, r, q⟩ => ⟨I2.kIn, go_fn F2 hr2 hb2 hx I2 r q⟩) he hpl
      exact call_sp (arg d) E2 ok (hgi d) (hins d) (ho d) (hal d) hres hne (R.post_mono q1 fun b k v G3 H3 y3 E3 => k v G3 H3 (y1.trans (y2.trans y3)) (by rw [← hρ d b]; exact E3))
/-- l[:e], e with effects -/
theorem je_slLU {a u : Expr} {p2 : Pos} {β α : Type} {m : R β} {f : α → D} {xs : List α} {k : β → Int} {ρ' : β → List Slot} (h : JP X B ρ a (eL f xs)) (hu : JE X B ρ u m (fun b => .val (.int (k b))) ρ') :
    JE X B ρ (.Subscript a (.Slice none (some u) none p2) pos) m (fun b => .own 0 (oL f (cut xs none (some (k b))))) ρ' := by
  refine PE_imp (pe_slice sl_list h po_none (po_some hu)) fun σ H Q ⟨G, E, q⟩ => ⟨G, E, fun v G1 H1 x1 E1 => ⟨G1, E1.pop, R.post_mono q fun b k v2 G3 H3 x3 E3 => ?_⟩⟩
  have hn := E3.top.int_inv
  subst hn
  obtain ⟨p, vs, rfl, hS, hr⟩ := E1.top.lst_inv
  refine ⟨_, rfl, p, vs, rfl, .inl ((x3.trans E3.sub).rd hS), fun q' hq => k _ G3 _ (x1.trans x3) (E3.pop.newL hq ?_)⟩
  rw [← cut_map]
  exact cut_rp (RpAll.ex x3 hr)
/-- tuple(range(i)) -/
theorem je_trg1 {a : Expr} {p p2 pos2 : Pos} {i : Int} (hc : X.calm = true) (hm : X.mg "tuple" = none) (hm2 : X.mg "range" = none) (ha : JP X B ρ a (.int i)) (hg : Gl X "tuple" := by rfl) (hg2 : Gl X "range" := by rfl)
    (na : starEach [a] X.env = (false, eval a X.env) :: starEach [] X.env := by rfl) (nb : starEach [.Call (.Name "range" p2) [a] [] pos2] X.env = (false, eval (.Call (.Name "range" p2) [a] [] pos2) X.env) :: starEach [] X.env := by rfl) :
    JE X B ρ (.Call (.Name "tuple" p) [.Call (.Name "range" p2) [a] [] pos2] [] pos) (R.guard (RgOk 0 i)) (fun _ => .val (eT D.int (rng 0 i))) (fun _ => ρ) :=
  PE_imp (pe_tupRg hc hg hm (prg_1 hg2 hm2 ha na) nb) fun σ H Q ⟨G, E, q⟩ => by
    obtain ⟨hk, q⟩ := R.post_guard q
    refine ⟨G, E, fun v G1 H1 x1 E1 => ?_⟩
    have hn := E1.top.int_inv
    subst hn
    refine ⟨i, rfl, hk, fun p hp => ?_⟩
    have y : Ex G1 (upd G1 p (.tup (rgV 0 i))) := Ex.new (E1.sub.back hp)
    refine q _ _ _ (x1.trans y) ((E1.pop.new hp _).push (.tup (.inl (.inl upd_same)) ?_))
    rw [rgV_rng]
    exact RpAll.of_ints _
end
end DL

/-! DL55: a module's tuple as a pair -/
namespace DL
open PySem PySem.Spec L2
section
variable {X : Cx} {B : Base} {ρ : List Slot} {pos : Pos}
theorem jp_gtup2 {x : Str} {a b : Int} (h : GTup X.K X.mg x [a, b]) (hg : Gl X x := by rfl) (hd : (x == ("__debug__" : Str)) = false := by decide) : JP X B ρ (.Name x pos) (eP2 D.int D.int (a, b)) := jp_gtup h hg hd
theorem jp_gtup3 {x : Str} {a b c : Int} (h : GTup X.K X.mg x [a, b, c]) (hg : Gl X x := by rfl) (hd : (x == ("__debug__" : Str)) = false := by decide) : JP X B ρ (.Name x pos) (eP3 D.int D.int D.int (a, b, c)) := jp_gtup h hg hd
end
end DL

/-! DM1: plain laws about mirrors -/
namespace DL
open PySem L2

section
variable {α β γ N N1 L T S : Type}
theorem bind_ok (a : α) (f : α → R β) : (R.ok a).bind f = f a := rfl
theorem bind_assoc (m : R α) (f : α → R β) (g : β → R γ) : (m.bind f).bind g = m.bind fun a => (f a).bind g := by cases m <;> rfl
theorem lt_eq (v : α) (k : α → β) : lt v k = k v := rfl
/-- the same, not by rfl: simp then leaves no great terms to the kernel -/
theorem bind_okN (a : α) (f : α → R β) : (R.ok a).bind f = f a := Eq.trans (Eq.refl _) (Eq.refl _)
theorem lt_eqN (v : α) (k : α → β) : lt v k = k v := Eq.trans (Eq.refl _) (Eq.refl _)
theorem bindF_nx (n : N1) (k : N1 → R (Fl N L T)) : bindF (.ok (.nx n)) k = k n := rfl
theorem bindF_rt (t : T) (k : N1 → R (Fl N L T)) : bindF (.ok (.rt t)) k = .ok (.rt t) := rfl
theorem bindF_ct (t : L) (k : N1 → R (Fl N L T)) : bindF (.ok (.ct t)) k = .ok (.ct t) := rfl
theorem bindF_bk (t : L) (k : N1 → R (Fl N L T)) : bindF (.ok (.bk t)) k = .ok (.bk t) := rfl
theorem fin0_rt (t : T) : fin0 (.ok (.rt t) : R (Fl N L T)) = .ok t := rfl
theorem finN_nx (t : N) : finN (.ok (.nx t) : R (Fl N L T)) = .ok t := rfl
theorem guard_ok {c : Prop} [Decidable c] (h : c) : R.guard c = .ok () := if_pos h
theorem some_ok (a : α) : R.some (.some a) = .ok a := rfl
theorem and2_ok (a : α) (f : α → Bool) (m : R Bool) : and2 (.ok a) f m = if f a = true then m else .ok false := rfl
theorem or2_ok (a : α) (f : α → Bool) (m : R Bool) : or2 (.ok a) f m = if f a = true then .ok true else m := rfl
theorem op2_ok {δ : Type} (a : α) (f : α → R β) (g : α → β → R δ) : op2 (.ok a) f g = (f a).bind fun y => (g a y).bind fun z => .ok (a, y, z) := rfl
/-- a loop that goes through -/
theorem forR_ok {f : α → S → R (Fl S S T)} (P : S → Prop) : ∀ {xs : List α} {s : S}, P s → (∀ x ∈ xs, ∀ s, P s → ∃ s', (f x s = .ok (.nx s') ∨ f x s = .ok (.ct s')) ∧ P s') → ∃ s', (forR f xs s : R (Fl S L T)) = .ok (.nx s') ∧ P s'
  | [], s, h, _ => ⟨s, rfl, h⟩
  | x :: xs, s, h, k => by
    obtain ⟨s', h1, h2⟩ := k x (List.mem_cons_self) s h
    obtain ⟨s2, h3, h4⟩ := forR_ok P (xs := xs) h2 fun y m => k y (List.mem_cons_of_mem _ m)
    refine ⟨s2, ?_, h4⟩
    rw [forR]
    rcases h1 with h1 | h1 <;> rw [h1] <;> exact h3
/-- .. with the turn told -/
theorem forR_okI {f : α → S → R (Fl S S T)} (P : Nat → S → Prop) : ∀ {xs : List α} {i : Nat} {s : S}, P i s → (∀ (k : Nat) x, xs[k]? = some x → ∀ s, P (i + k) s → ∃ s', (f x s = .ok (.nx s') ∨ f x s = .ok (.ct s')) ∧ P (i + k + 1) s') → ∃ s', (forR f xs s : R (Fl S L T)) = .ok (.nx s') ∧ P (i + xs.length) s'
  | [], i, s, h, _ => ⟨s, rfl, h⟩
  | x :: xs, i, s, h, k => by
    obtain ⟨s', h1, h2⟩ := k 0 x rfl s h
    obtain ⟨s2, h3, h4⟩ := forR_okI P (xs := xs) (i := i + 1) h2 fun j y m s hs => by
      have := k (j + 1) y (by simpa using m) s (by rw [show i + (j + 1) = i + 1 + j by omega]; exact hs)
      rw [show i + (j + 1) + 1 = i + 1 + j + 1 by omega] at this
      exact this
    refine ⟨s2, ?_, by rw [List.length_cons, show i + (xs.length + 1) = i + 1 + xs.length by omega]; exact h4⟩
    rw [forR]
    rcases h1 with h1 | h1 <;> rw [h1] <;> exact h3
theorem whR_true {c : S → R Bool} {f : S → R (Fl S S T)} {s s' : S} {y : Fl S L T} (hc : c s = .ok true) (hf : f s = .ok (.nx s')) (h : whR (L := L) c f s' = .ok y) : whR (L := L) c f s = .ok y := by
  have hx : ∃ n, whN (L := L) c f n s' ≠ .bad := by
    apply Classical.byContradiction
    intro z
    unfold whR at h
    rw [dif_neg z] at h
    cases h
  obtain ⟨n, hn⟩ := hx
  rw [whR_of hn] at h
  have e : whN (L := L) c f (n + 1) s = .ok y := by
    rw [whN, hc]
    simp only [R.bind, if_true, hf]
    exact h
  have e2 : whN (L := L) c f (n + 1) s ≠ .bad := by
    rw [e]
    exact fun z => nomatch z
  rw [whR_of e2]
  exact e
theorem whR_false {c : S → R Bool} {f : S → R (Fl S S T)} {s : S} (hc : c s = .ok false) : whR (L := L) c f s = .ok (.nx s) := by
  have e : whN (L := L) c f 1 s = .ok (.nx s) := by
    rw [whN, hc]
    rfl
  rw [whR_of (n := 1) (by rw [e]; exact fun z => nomatch z)]
  exact e
end
/-! ### numbers -/
theorem mulx {i j : Int} (a : Nat) (hi : i.natAbs < 2 ^ a) (hj : j.natAbs < 2 ^ a) (h : a ≤ 67108864 := by decide) : CMulX i j := mulx_ok hi hj (by omega)
theorem div_ok {i j : Int} (h : j ≠ 0) (hj : j.natAbs < 2 ^ 8000) : divOk i j := by
  refine ⟨h, PyProof.noPylong_of_log2 ?_⟩
  have := (Nat.log2_lt (n := j.natAbs) (k := 8000) (by omega)).mpr hj
  omega
theorem divp_ok' {i j : Int} (h : 0 < j) (hj : j < 2 ^ 8000) : CDivP i j := ⟨h, (div_ok (i := i) (j := j) (by omega) (by omega)).2⟩
theorem rng_ok {i : Int} (h : 0 ≤ i) (h2 : i < 1000000) : rngOk i := ⟨by omega, by omega⟩
theorem mem_rng {lo hi x : Int} (h : x ∈ rng lo hi) : lo ≤ x ∧ x < hi := by
  unfold rng at h
  obtain ⟨k, hk, rfl⟩ := List.mem_map.mp h
  have := List.mem_range.mp hk
  omega
/-- two whole numbers cleared: what stands behind -/
theorem fr_low {n d g : Int} (hg : g = (if d < 0 then -(Int.gcd n d : Int) else (Int.gcd n d : Int))) (hd : d ≠ 0) : g ≠ 0 ∧ n.fdiv g * g = n ∧ d.fdiv g * g = d ∧ 0 < d.fdiv g ∧ Int.gcd (n.fdiv g) (d.fdiv g) = 1 := by
  have h0 : 0 < Int.gcd n d := Nat.pos_of_ne_zero fun z => hd (Int.gcd_eq_zero_iff.mp z).2
  have hn : (Int.gcd n d : Int) ∣ n := Int.gcd_dvd_left ..
  have hdd : (Int.gcd n d : Int) ∣ d := Int.gcd_dvd_right ..
  have hg0 : g ≠ 0 := by
    rw [hg]
    split <;> omega
  have gn : g ∣ n := by
    rw [hg]
    split
    · exact Int.neg_dvd.mpr hn
    · exact hn
  have gd : g ∣ d := by
    rw [hg]
    split
    · exact Int.neg_dvd.mpr hdd
    · exact hdd
  have e1 : n.fdiv g * g = n := Int.fdiv_mul_cancel gn
  have e2 : d.fdiv g * g = d := Int.fdiv_mul_cancel gd
  refine ⟨hg0, e1, e2, ?_, ?_⟩
  · have hs : 0 < d.fdiv g * g * g := by
      rw [e2, hg]
      split
      · rename_i h
        exact Int.mul_pos_of_neg_of_neg h (by omega)
      · rename_i h
        exact Int.mul_pos (by omega) (by omega)
    have hgg : 0 < g * g := by
      rcases Int.lt_or_gt_of_ne hg0 with h | h
      · exact Int.mul_pos_of_neg_of_neg h h
      · exact Int.mul_pos h h
    rw [Int.mul_assoc] at hs
    apply Classical.byContradiction
    intro z
    have := Int.mul_nonneg (show 0 ≤ -(d.fdiv g) by omega) (Int.le_of_lt hgg)
    rw [Int.neg_mul] at this
    omega
  · have hgcd : Int.gcd (n.fdiv g * g) (d.fdiv g * g) = Int.gcd (n.fdiv g) (d.fdiv g) * g.natAbs := Int.gcd_mul_right ..
    rw [e1, e2] at hgcd
    have ga : g.natAbs = Int.gcd n d := by
      rw [hg]
      split <;> simp
    rw [ga] at hgcd
    have : Int.gcd n d * 1 = Int.gcd n d * Int.gcd (n.fdiv g) (d.fdiv g) := by
      rw [Nat.mul_one, Nat.mul_comm]
      exact hgcd
    exact (Nat.eq_of_mul_eq_mul_left h0 this).symm
theorem cell_ok (ns : List Int) (k : Int) (h0 : 0 ≤ k) : ∃ c, atI (cut ns (some k) (some (k + (1 : Int))) ++ [(0 : Int)]) (0 : Int) = some c ∧ (cut ns (some k) (some (k + (1 : Int)))).length ≤ 1 := by
  have hc : (cut ns (some k) (some (k + 1))).length ≤ 1 := by
    unfold cut
    rw [List.length_take]
    simp only [HT.sIx]
    rw [if_neg (by omega), if_neg (by omega)]
    omega
  generalize cut ns (some k) (some (k + 1)) = l at *
  match l, hc with
  | [], _ => exact ⟨0, rfl, by simp⟩
  | [c], _ => exact ⟨c, rfl, by simp⟩
theorem line_ok {n : Nat} (h : n ≤ 1000) : n ≤ sizeLine := Nat.le_of_lt (small1000 h)
end DL

/-! DM2: mirrors step by step -/
namespace DL
open PySem L2
/-- it comes to a value, of which P holds -/
def Ok {α : Type} (m : R α) (P : α → Prop) : Prop := ∃ a, m = .ok a ∧ P a
/-- what holds of a block's ends -/
def fl {N L T : Type} (Pn : N → Prop) (Pc Pb : L → Prop) (Pt : T → Prop) : Fl N L T → Prop
  | .nx n => Pn n
  | .ct l => Pc l
  | .bk l => Pb l
  | .rt t => Pt t
/-- .. of one that just goes on or returns -/
abbrev fn {N L T : Type} (Pn : N → Prop) (Pt : T → Prop) : Fl N L T → Prop := fl Pn (fun _ => False) (fun _ => False) Pt
namespace Ok
section
variable {α β γ δ ε N N1 L T S : Type}
theorem ret {a : α} {P : α → Prop} (h : P a) : Ok (.ok a) P := ⟨a, rfl, h⟩
theorem mono {m : R α} {P Q : α → Prop} (h : Ok m P) (k : ∀ a, P a → Q a) : Ok m Q := let ⟨a, e, p⟩ := h; ⟨a, e, k a p⟩
theorem bind {m : R α} {f : α → R β} {P : α → Prop} {Q : β → Prop} (h : Ok m P) (k : ∀ a, P a → Ok (f a) Q) : Ok (m.bind f) Q := by
  obtain ⟨a, rfl, p⟩ := h
  exact k a p
theorem bind1 {m : R α} {f : α → R β} {Q : β → Prop} {a : α} (h : m = .ok a) (k : Ok (f a) Q) : Ok (m.bind f) Q := by
  rw [h]
  exact k
theorem of_eq {m : R α} {a : α} {Q : α → Prop} (h : m = .ok a) (k : Q a) : Ok m Q := ⟨a, h, k⟩
theorem eq {m : R α} {a : α} (h : Ok m (fun b => b = a)) : m = .ok a := by
  obtain ⟨b, e, rfl⟩ := h
  exact e
theorem grd {c : Prop} [Decidable c] {P : Unit → Prop} (h : c) (k : P ()) : Ok (R.guard c) P := ⟨(), guard_ok h, k⟩
theorem grdB {c : Prop} [Decidable c] {f : Unit → R β} {Q : β → Prop} (h : c) (k : Ok (f ()) Q) : Ok ((R.guard c).bind f) Q := bind1 (guard_ok h) k
theorem som {o : Option α} {a : α} {P : α → Prop} (h : o = .some a) (k : P a) : Ok (R.some o) P := ⟨a, by rw [h]; rfl, k⟩
theorem somB {o : Option α} {a : α} {f : α → R β} {Q : β → Prop} (h : o = .some a) (k : Ok (f a) Q) : Ok ((R.some o).bind f) Q := bind1 (by rw [h]; rfl) k
theorem okB {a : α} {f : α → R β} {Q : β → Prop} (k : Ok (f a) Q) : Ok ((R.ok a).bind f) Q := k
theorem ltI {v : α} {k : α → R β} {Q : β → Prop} (h : Ok (k v) Q) : Ok (lt v k) Q := h
theorem ite {b : Bool} {m m' : R α} {Q : α → Prop} (h1 : b = true → Ok m Q) (h2 : b = false → Ok m' Q) : Ok (if b = true then m else m') Q := by
  cases b with
  | true => exact h1 rfl
  | false => exact h2 rfl
theorem iteT {b : Bool} {m m' : R α} {Q : α → Prop} (h : b = true) (h1 : Ok m Q) : Ok (if b = true then m else m') Q := by rw [if_pos h]; exact h1
theorem iteF {b : Bool} {m m' : R α} {Q : α → Prop} (h : b = false) (h1 : Ok m' Q) : Ok (if b = true then m else m') Q := by rw [if_neg (by rw [h]; decide)]; exact h1
theorem bF {m : R (Fl N1 L T)} {k : N1 → R (Fl N L T)} {Pn : N1 → Prop} {Qn : N → Prop} {Pc Pb : L → Prop} {Pt : T → Prop} (h : Ok m (fl Pn Pc Pb Pt)) (r : ∀ n, Pn n → Ok (k n) (fl Qn Pc Pb Pt)) : Ok (bindF m k) (fl Qn Pc Pb Pt) := by
  obtain ⟨a, rfl, p⟩ := h
  cases a with
  | nx n => exact r n p
  | ct n => exact ⟨_, rfl, p⟩
  | bk n => exact ⟨_, rfl, p⟩
  | rt n => exact ⟨_, rfl, p⟩
theorem nx {n : N} {Pn : N → Prop} {Pc Pb : L → Prop} {Pt : T → Prop} (h : Pn n) : Ok (.ok (.nx n) : R (Fl N L T)) (fl Pn Pc Pb Pt) := ⟨_, rfl, h⟩
theorem rt {n : T} {Pn : N → Prop} {Pc Pb : L → Prop} {Pt : T → Prop} (h : Pt n) : Ok (.ok (.rt n) : R (Fl N L T)) (fl Pn Pc Pb Pt) := ⟨_, rfl, h⟩
theorem ct {n : L} {Pn : N → Prop} {Pc Pb : L → Prop} {Pt : T → Prop} (h : Pc n) : Ok (.ok (.ct n) : R (Fl N L T)) (fl Pn Pc Pb Pt) := ⟨_, rfl, h⟩
theorem bk {n : L} {Pn : N → Prop} {Pc Pb : L → Prop} {Pt : T → Prop} (h : Pb n) : Ok (.ok (.bk n) : R (Fl N L T)) (fl Pn Pc Pb Pt) := ⟨_, rfl, h⟩
theorem f0 {m : R (Fl N L T)} {P : T → Prop} (h : Ok m (fl (fun _ => False) (fun _ => False) (fun _ => False) P)) : Ok (fin0 m) P := by
  obtain ⟨a, rfl, p⟩ := h
  cases a with
  | rt t => exact ⟨t, rfl, p⟩
  | nx _ => exact p.elim
  | ct _ => exact p.elim
  | bk _ => exact p.elim
theorem fN {m : R (Fl N L T)} {P : N → Prop} (h : Ok m (fl P (fun _ => False) (fun _ => False) (fun _ => False))) : Ok (finN m) P := by
  obtain ⟨a, rfl, p⟩ := h
  cases a with
  | nx t => exact ⟨t, rfl, p⟩
  | rt _ => exact p.elim
  | ct _ => exact p.elim
  | bk _ => exact p.elim
theorem and2 {ma : R α} {xa : α → Bool} {mb : R Bool} {P : α → Prop} {Q : Bool → Prop} (h : Ok ma P) (k1 : ∀ a, P a → xa a = true → Ok mb Q) (k2 : ∀ a, P a → xa a = false → Q false) : Ok (DL.and2 ma xa mb) Q := by
  obtain ⟨a, rfl, p⟩ := h
  unfold DL.and2
  cases e : xa a with
  | true => exact bind1 rfl (iteT e (k1 a p e))
  | false => exact bind1 rfl (iteF e (ret (k2 a p e)))
theorem or2 {ma : R α} {xa : α → Bool} {mb : R Bool} {P : α → Prop} {Q : Bool → Prop} (h : Ok ma P) (k1 : ∀ a, P a → xa a = true → Q true) (k2 : ∀ a, P a → xa a = false → Ok mb Q) : Ok (DL.or2 ma xa mb) Q := by
  obtain ⟨a, rfl, p⟩ := h
  unfold DL.or2
  cases e : xa a with
  | true => exact bind1 rfl (iteT e (ret (k1 a p e)))
  | false => exact bind1 rfl (iteF e (k2 a p e))
theorem op2 {ma : R α} {mb : α → R β} {mr : α → β → R γ} {P : α → Prop} {P2 : α → β → Prop} {Q : α × β × γ → Prop} (h : Ok ma P) (k : ∀ a, P a → Ok (mb a) (P2 a)) (r : ∀ a b, P a → P2 a b → Ok (mr a b) fun c => Q (a, b, c)) : Ok (DL.op2 ma mb mr) Q := by
  unfold DL.op2
  refine h.bind fun a pa => (k a pa).bind fun b pb => (r a b pa pb).bind fun c q => ret q
/-- a loop by the turn told -/
theorem forR {f : α → S → R (Fl S S T)} (I : Nat → S → Prop) {Pn : S → Prop} {Pc Pb : L → Prop} {Pt : T → Prop} {xs : List α} {s : S} (h0 : I 0 s)
    (hs : ∀ i x s, xs[i]? = some x → I i s → Ok (f x s) (fl (I (i + 1)) (I (i + 1)) Pn Pt)) (hn : ∀ s, I xs.length s → Pn s) : Ok (DL.forR f xs s : R (Fl S L T)) (fl Pn Pc Pb Pt) := by
  have go : ∀ (ys : List α) (i : Nat) (s : S), (∀ k, ys[k]? = xs[i + k]?) → i + ys.length = xs.length → I i s → Ok (DL.forR f ys s : R (Fl S L T)) (fl Pn Pc Pb Pt) := by
    intro ys
    induction ys with
    | nil =>
      intro i s hk hl h
      rw [List.length_nil, Nat.add_zero] at hl
      exact ⟨_, rfl, hn s (hl ▸ h)⟩
    | cons y ys ih =>
      intro i s hk hl h
      have h1 := hs i y s (by rw [← Nat.add_zero i, ← hk 0]; rfl) h
      have nxt : ∀ s', I (i + 1) s' → Ok (DL.forR f ys s' : R (Fl S L T)) (fl Pn Pc Pb Pt) := fun s' h' => ih (i + 1) s' (fun k => by
        have := hk (k + 1)
        rw [show i + 1 + k = i + (k + 1) by omega, ← this]
        rfl) (by rw [List.length_cons] at hl; omega) h'
      obtain ⟨a, e, p⟩ := h1
      rw [DL.forR, e]
      cases a with
      | nx s' => exact nxt s' p
      | ct s' => exact nxt s' p
      | bk s' => exact ⟨_, rfl, p⟩
      | rt t => exact ⟨_, rfl, p⟩
  exact go xs 0 s (fun k => by rw [Nat.zero_add]) (by rw [Nat.zero_add]) h0
/-- .. one invariant for all turns -/
theorem forC {f : α → S → R (Fl S S T)} (I : S → Prop) {Pc Pb : L → Prop} {Pt : T → Prop} {xs : List α} {s : S} (h0 : I s)
    (hs : ∀ x ∈ xs, ∀ s, I s → Ok (f x s) (fl I I I Pt)) : Ok (DL.forR f xs s : R (Fl S L T)) (fl I Pc Pb Pt) :=
  forR (fun _ => I) h0 (fun i x s e h => hs x (List.mem_of_getElem? e) s h) fun _ h => h
theorem whR {c : S → R Bool} {f : S → R (Fl S S T)} (I : S → Prop) (μ : S → Nat) {Pn : S → Prop} {Pc Pb : L → Prop} {Pt : T → Prop} {s : S} (h0 : I s)
    (hs : ∀ s, I s → ∃ b, c s = .ok b ∧ (b = true → Ok (f s) (fl (fun s' => I s' ∧ μ s' < μ s) (fun s' => I s' ∧ μ s' < μ s) Pn Pt)) ∧ (b = false → Pn s)) : Ok (DL.whR c f s : R (Fl S L T)) (fl Pn Pc Pb Pt) := by
  have go : ∀ (n : Nat) (s : S), μ s < n → I s → ∃ r : Fl S L T, (DL.whN c f n s : R (Fl S L T)) = .ok r ∧ fl Pn Pc Pb Pt r := by
    intro n
    induction n with
    | zero => intro s h; omega
    | succ n ih =>
      intro s hm h
      obtain ⟨b, e, h1, h2⟩ := hs s h
      rw [DL.whN, e]
      cases b with
      | false => exact ⟨_, rfl, h2 rfl⟩
      | true =>
        obtain ⟨a, e2, p⟩ := h1 rfl
        simp only [R.bind, if_true, e2]
        cases a with
        | nx s' => exact ih s' (by have := p.2; omega) p.1
        | ct s' => exact ih s' (by have := p.2; omega) p.1
        | bk s' => exact ⟨_, rfl, p⟩
        | rt t => exact ⟨_, rfl, p⟩
  obtain ⟨r, e, p⟩ := go (μ s + 1) s (Nat.lt_succ_self _) h0
  refine ⟨r, ?_, p⟩
  rw [whR_of (n := μ s + 1) (by rw [e]; exact fun z => nomatch z)]
  exact e
theorem compF {c : α → S → R δ} {bn : δ → Bool} {me : α → S → R ε} {v : ε → γ} {st : ε → S} {x : α} {s : S} {P : δ → Prop} {Q : Option γ × S → Prop} (h : Ok (c x s) P) (k1 : ∀ d, P d → bn d = true → Ok (me x s) fun y => Q (some (v y), st y)) (k2 : ∀ d, P d → bn d = false → Q (none, s)) :
    Ok (DL.compF c bn me v st x s) Q := by
  unfold DL.compF
  refine h.bind fun d p => ite (fun e => (k1 d p e).bind fun y q => ret q) fun e => ret (k2 d p e)
/-- a comprehension by the turn told -/
theorem compR {f : α → S → R (Option γ × S)} (I : Nat → List γ → S → Prop) {xs : List α} {s : S} (h0 : I 0 [] s)
    (hs : ∀ i x acc s, xs[i]? = some x → I i acc s → Ok (f x s) fun p => I (i + 1) (match p.1 with | some v => acc ++ [v] | none => acc) p.2) : Ok (DL.compR f xs [] s) fun p => I xs.length p.1 p.2 := by
  have go : ∀ (ys : List α) (i : Nat) (acc : List γ) (s : S), (∀ k, ys[k]? = xs[i + k]?) → i + ys.length = xs.length → I i acc s → Ok (DL.compR f ys acc s) fun p => I xs.length p.1 p.2 := by
    intro ys
    induction ys with
    | nil =>
      intro i acc s hk hl h
      rw [List.length_nil, Nat.add_zero] at hl
      exact ⟨_, rfl, hl ▸ h⟩
    | cons y ys ih =>
      intro i acc s hk hl h
      have h1 := hs i y acc s (by rw [← Nat.add_zero i, ← hk 0]; rfl) h
      rw [DL.compR]
      refine h1.bind fun p q => ih (i + 1) _ _ (fun k => by
        have := hk (k + 1)
        rw [show i + 1 + k = i + (k + 1) by omega, ← this]
        rfl) (by rw [List.length_cons] at hl; omega) q
  exact go xs 0 [] s (fun k => by rw [Nat.zero_add]) (by rw [Nat.zero_add]) h0
end
end Ok
theorem rng_get {lo hi : Int} {i : Nat} {x : Int} (h : (rng lo hi)[i]? = some x) : x = lo + i ∧ x < hi := by
  unfold rng at h
  rw [List.getElem?_map] at h
  cases e : (List.range (hi - lo).toNat)[i]? with
  | none => rw [e] at h; cases h
  | some k =>
    rw [e] at h
    have h : lo + (k : Int) = x := by simpa using h
    obtain ⟨h1, h2⟩ := List.getElem?_eq_some_iff.mp e
    rw [List.getElem_range] at h2
    rw [List.length_range] at h1
    omega
theorem rng_len (lo hi : Int) : (rng lo hi).length = (hi - lo).toNat := by
  unfold rng
  rw [List.length_map, List.length_range]
theorem atI_nat {α : Type} {l : List α} {k : Int} {x : α} (h0 : 0 ≤ k) (h : l[k.toNat]? = some x) : atI l k = some x := by
  have hl := (List.getElem?_eq_some_iff.mp h).1
  unfold atI ixN
  rw [if_pos h0, if_pos (by omega)]
  exact h
theorem ixN_nat {n : Nat} {k : Int} (h0 : 0 ≤ k) (h : k < n) : ixN n k = some k.toNat := by
  unfold ixN
  rw [if_pos h0, if_pos (by omega)]
theorem atI_ok {α : Type} {l : List α} {k : Int} (h0 : 0 ≤ k) (h : k < l.length) : ∃ x, atI l k = some x ∧ l[k.toNat]? = some x ∧ x ∈ l := by
  have hk : k.toNat < l.length := by omega
  exact ⟨l[k.toNat], atI_nat h0 (List.getElem?_eq_getElem hk), List.getElem?_eq_getElem hk, List.getElem_mem hk⟩
end DL

namespace W
open PySem PySem.Spec L2 DL
def topS (i : Nat) : Stmt := PySem.Challenge.pw_restdraw_k45_areas_and_bends.main.body.getD i (.Pass ⟨0, 0, 0, 0⟩)
structure Top (K : PySem.W.Frag) (mg : Str → Option Value) where
  law_pot : DT K mg "_law_pot" (topS 18) ["_law_script", "_law_k"]
  law_digit : DT K mg "_law_digit" (topS 19) ["_law_pot_here", "_law_many"]
  law_low : DT K mg "_law_low" (topS 20) ["_law_n", "_law_d"]
  law_plus : DT K mg "_law_plus" (topS 21) ["_law_one", "_law_other"]
  law_times : DT K mg "_law_times" (topS 23) ["_law_one", "_law_other"]
  law_less : DT K mg "_law_less" (topS 22) ["_law_one", "_law_other"]
  law_between : DT K mg "_law_between" (topS 26) ["_law_one", "_law_other", "_law_part"]
  law_number : DT K mg "_law_number" (topS 25) ["_law_pot_here", "_law_mode"]
  law_point : DT K mg "_law_point" (topS 27) ["_law_pot_here", "_law_points_here", "_law_mode"]
  law_points : DT K mg "_law_points" (topS 28) ["_law_pot_here", "_law_many"]
  law_bow : DT K mg "_law_bow" (topS 32) ["_law_pot_here", "_law_many"]
  law_area : DT K mg "_law_area" (topS 31) ["_law_drawing", "_law_row_here"]
  divisor : DT K mg "divisor" (topS 1) ["one", "other"]
  fraction : DT K mg "fraction" (topS 2) ["n", "d"]
  plus : DT K mg "plus" (topS 3) ["one", "other"]
  less : DT K mg "less" (topS 4) ["one", "other"]
  times : DT K mg "times" (topS 5) ["one", "other"]
  crossed : DT K mg "crossed" (topS 9) ["one", "other"]
  area : DT K mg "area" (topS 15) ["drawing", "row"]
  law_is_fraction : DT K mg "_law_is_fraction" (topS 35) ["_law_one"]
  law_area_right : DT K mg "_law_area_right" (topS 36) ["_law_pot_here", "_law_drawing", "_law_row_here"]
  law_row : DT K mg "_law_row" (topS 33) ["_law_pot_here", "_law_many"]
  law_unlike : DT K mg "_law_unlike" (topS 34) ["_law_pot_here", "_law_many"]
  law_apart : DT K mg "_law_apart" (topS 29) ["_law_one", "_law_other"]
  law_sign : DT K mg "_law_sign" (topS 24) ["_law_one"]
  law_hand : DT K mg "_law_hand" (topS 30) ["_law_p", "_law_q", "_law_r"]
  law_bends : DT K mg "_law_bends" (topS 37) ["_law_drawing", "_law_row_here"]
  apart : DT K mg "apart" (topS 7) ["one", "other"]
  way : DT K mg "way" (topS 8) ["p", "q"]
  sign_of : DT K mg "sign_of" (topS 10) ["number"]
  hand : DT K mg "hand" (topS 11) ["p", "q", "r"]
  bends : DT K mg "bends" (topS 16) ["drawing", "row"]
  law : DT K mg "law" (topS 38) ["_law_script"]
  z_abs : mg "abs" = none
  z_all : mg "all" = none
  z_bool : mg "bool" = none
  z_divmod : mg "divmod" = none
  z_enumerate : mg "enumerate" = none
  z_int : mg "int" = none
  z_isinstance : mg "isinstance" = none
  z_len : mg "len" = none
  z_list : mg "list" = none
  z_max : mg "max" = none
  z_min : mg "min" = none
  z_range : mg "range" = none
  z_tuple : mg "tuple" = none
  z_zip : mg "zip" = none
  g_FEWEST_BENDING : ∃ t, mg "FEWEST_BENDING" = some (.int 3 t)
  t_NOUGHT : GTup K mg "NOUGHT" [0, 1]
/-! law_pot -/
abbrev s_law_pot : Stmt := topS 18
theorem sc_law_pot : FnScope ["_law_script", "_law_k", "_law_cell"] ["_law_script", "_law_k"] (defScope s_law_pot) := ⟨rfl, rfl, rfl, by decide +kernel, rfl, by decide +kernel, by decide +kernel⟩
noncomputable def mb_law_pot (v_script : List Int) (v_k : Int) : R (Fl Unit Unit (List Int)) :=
(((R.guard (List.length (cut v_script (some v_k) (some (v_k + (1 : Int)))) + List.length [(0 : Int)] ≤ sizeLine)).bind fun (x15 : Unit) => (R.some (atI ((cut v_script (some v_k) (some (v_k + (1 : Int)))) ++ [(0 : Int)]) (0 : Int))).bind fun (z17 : Int) => R.ok (x15, z17)).bind fun (b19 : (Unit × Int)) => lt b19.2 fun v_cell_18 =>
(R.ok (.rt [(max (0 : Int) (v_cell_18 - ((10 : Int) ^ (Int.toNat (18 : Int))))), (((((if v_cell_18 < 0 then -v_cell_18 else v_cell_18) + ((7919 : Int) * v_k)) + (3 : Int)) % (2147483629 : Int)) + (1 : Int))])))
noncomputable def m_law_pot (a : (List Int × Int)) : R (List Int) := fin0 (mb_law_pot a.1 a.2)
abbrev i_law_pot (a : (List Int × Int)) : List Slot := [.val (D.scr a.1), .val (D.int a.2)]
abbrev l_law_pot (b : (List Int)) : Slot := .own 0 ((oL D.int) b)
abbrev o_law_pot (b : (List Int)) : List Slot := [.non, .non]
theorem ok_law_pot {P : Program} {w : World} {K : PySem.W.Frag} {mg : Str → Option Value} {base : Heap} (T : Top K mg) : FnG P w K mg base CX0 1 T.law_pot.a T.law_pot.d ["_law_script", "_law_k"] (spM K i_law_pot m_law_pot l_law_pot o_law_pot) := by
  show FnG P w K mg base CX0 (0 + 1) T.law_pot.a T.law_pot.d ["_law_script", "_law_k"] (spM K i_law_pot (fun (a : (List Int × Int)) => fin0 (mb_law_pot a.1 a.2)) l_law_pot o_law_pot)
  refine fn_ok (n1 := fun _ => []) (c1 := fun _ => []) (k1 := fun _ => []) (ins := i_law_pot) (sl := l_law_pot) (outs := o_law_pot) (fun (a : (List Int × Int)) => mb_law_pot a.1 a.2) 1 T.law_pot.f sc_law_pot rfl (fun _ => rfl) (fun _ => rfl) (fun _ => rfl) (fun cdv A outer s H E hr B hB a => ?_)
  show JSs _ B _ _ (mb_law_pot a.1 a.2) _
  unfold mb_law_pot
  exact ((js_setEQ 2 D.int (fun (b19 : (Unit × Int)) => b19.2) (fun (b19 : (Unit × Int)) (v_cell_18 : Int) => [.val (D.scr a.1), .val (D.int a.2), .val (D.int v_cell_18)]) sc_law_pot.nd (je_opLG (ρa := fun _ => _) (s := fun (x15 : Unit) (z17 : Int) => (.val (D.int z17))) (xa := fun (x15 : Unit) => (eL D.int) ((cut a.1 (some a.2) (some (a.2 + (1 : Int)))) ++ [(0 : Int)])) (y := fun (x15 : Unit) => D.int (0 : Int)) (fun _ _ ha hb => pe_ix ix_list ha hb (fun _ _ => rfl)) (je_frzL (v := fun (b14 : Unit) => ((cut a.1 (some a.2) (some (a.2 + (1 : Int)))) ++ [(0 : Int)])) (je_op (fun _ _ ha hb => pe_op op_catR ha hb) (je_frzL (v := fun (b7 : Unit) => (cut a.1 (some a.2) (some (a.2 + (1 : Int))))) (je_slS (jp_var 0) (fun _ => (jo_some (jp_var 1))) (fun _ => (jo_some (je_op (fun _ _ ha hb => pe_op op_add ha hb) (jp_var 1) jp_int od_add))))) (je_frzL (v := fun (b13 : Unit) => [(0 : Int)]) (je_lstT D.int (fun (b12 : Unit) => ([(0 : Int)] : List Int)) (ja_p jp_int ja_nil))) od_catm)) (fun x15 => jp_int) (fun x15 => od_ixLm)) fun b19 v_cell_18 =>
(js_one (js_retP [(max (0 : Int) (v_cell_18 - ((10 : Int) ^ (Int.toNat (18 : Int))))), (((((if v_cell_18 < 0 then -v_cell_18 else v_cell_18) + ((7919 : Int) * a.2)) + (3 : Int)) % (2147483629 : Int)) + (1 : Int))] [false, false, false] (je_lstT D.int (fun (b34 : Unit) => ([(max (0 : Int) (v_cell_18 - ((10 : Int) ^ (Int.toNat (18 : Int))))), (((((if v_cell_18 < 0 then -v_cell_18 else v_cell_18) + ((7919 : Int) * a.2)) + (3 : Int)) % (2147483629 : Int)) + (1 : Int))] : List Int)) (ja_p (je_cb (fun _ ht => pe_callB (call_max2 rfl) (by rfl) T.z_max (by decide +kernel) ht) (ja_p jp_int (ja_p (je_op (fun _ _ ha hb => pe_op op_sub ha hb) (jp_var 2) (je_op (fun _ _ ha hb => pe_op op_pow ha hb) jp_int jp_int od_powC) od_sub) ja_nil)) cb_max) (ja_p (je_op (fun _ _ ha hb => pe_op op_add ha hb) (je_op (fun _ _ ha hb => pe_op op_mod ha hb) (je_op (fun _ _ ha hb => pe_op op_add ha hb) (je_op (fun _ _ ha hb => pe_op op_add ha hb) (je_cb (fun _ ht => pe_callB call_abs (by rfl) T.z_abs (by decide +kernel) ht) (ja_p (jp_var 2) ja_nil) cb_abs) (je_op (fun _ _ ha hb => pe_op op_mul ha hb) jp_int (jp_var 1) od_mulC) od_add) jp_int od_add) jp_int od_modC) jp_int od_add) ja_nil)))))))
/-! law_digit -/
abbrev s_law_digit : Stmt := topS 19
theorem sc_law_digit : FnScope ["_law_pot_here", "_law_many", "_law_digit_here"] ["_law_pot_here", "_law_many"] (defScope s_law_digit) := ⟨rfl, rfl, rfl, by decide +kernel, rfl, by decide +kernel, by decide +kernel⟩
noncomputable def mb_law_digit (v_pot_here : (List Int)) (v_many : Int) : R (Fl Unit Unit (Int × (List Int))) :=
(bindF ((R.some (atI v_pot_here (0 : Int))).bind fun (b42 : Int) => if (decide (b42 > (0 : Int))) = true then ((((R.some (atI v_pot_here (0 : Int))).bind fun (c44 : Int) => (R.guard (CDivP c44 v_many)).bind fun (z45 : Unit) => R.ok (c44, z45)).bind fun (b46 : (Int × Unit)) => ((R.some (ixN (List.length v_pot_here) (0 : Int))).bind fun (j47 : Nat) => (R.ok ()).bind fun (c_ : Unit) => R.ok (j47, c_)).bind fun (p48 : (Nat × Unit)) => R.ok (b46, p48)).bind fun (p49 : (Int × Unit) × (Nat × Unit)) =>
(R.ok (.rt ((p49.1.1 / v_many, p49.1.1 % v_many).2, (List.set v_pot_here p49.2.1 ((p49.1.1 / v_many, p49.1.1 % v_many).1)))))) else (R.ok (.nx ()))) fun n50 =>
(((R.some (atI v_pot_here (1 : Int))).bind fun (b60 : Int) => (R.some (ixN (List.length v_pot_here) (1 : Int))).bind fun (j61 : Nat) => R.ok (b60, j61)).bind fun (p62 : Int × Nat) =>
(((op2 (R.some (atI (List.set v_pot_here p62.2 (((p62.1 * (48271 : Int)) + (39373 : Int)) % (2147483647 : Int))) (1 : Int))) (fun (x63 : Int) => (R.some (atI (List.set v_pot_here p62.2 (((p62.1 * (48271 : Int)) + (39373 : Int)) % (2147483647 : Int))) (1 : Int)))) (fun (x63 : Int) (y64 : Int) => R.guard (CMulX x63 y64))).bind fun (x71 : (Int × Int × Unit)) => (R.guard (v_many ≠ (0 : Int))).bind fun (z73 : Unit) => R.ok (x71, z73)).bind fun (b74 : ((Int × Int × Unit) × Unit)) => R.ok (.rt ((Int.fmod (((b74.1.1 * b74.1.2.1) % (2147483629 : Int)) / (3 : Int)) v_many), (List.set v_pot_here p62.2 (((p62.1 * (48271 : Int)) + (39373 : Int)) % (2147483647 : Int))))))))
noncomputable def m_law_digit (a : ((List Int) × Int)) : R (Int × (List Int)) := fin0 (mb_law_digit a.1 a.2)
abbrev i_law_digit (a : ((List Int) × Int)) : List Slot := [.own 1 ((oL D.int) a.1), .val (D.int a.2)]
abbrev l_law_digit (b : (Int × (List Int))) : Slot := .val (D.int b.1)
abbrev o_law_digit (b : (Int × (List Int))) : List Slot := [.own 1 ((oL D.int) b.2), .non]
theorem ok_law_digit {P : Program} {w : World} {K : PySem.W.Frag} {mg : Str → Option Value} {base : Heap} (T : Top K mg) : FnG P w K mg base CX0 1 T.law_digit.a T.law_digit.d ["_law_pot_here", "_law_many"] (spM K i_law_digit m_law_digit l_law_digit o_law_digit) := by
  show FnG P w K mg base CX0 (0 + 1) T.law_digit.a T.law_digit.d ["_law_pot_here", "_law_many"] (spM K i_law_digit (fun (a : ((List Int) × Int)) => fin0 (mb_law_digit a.1 a.2)) l_law_digit o_law_digit)
  refine fn_ok (n1 := fun _ => []) (c1 := fun _ => []) (k1 := fun _ => []) (ins := i_law_digit) (sl := l_law_digit) (outs := o_law_digit) (fun (a : ((List Int) × Int)) => mb_law_digit a.1 a.2) 1 T.law_digit.f sc_law_digit rfl (fun _ => rfl) (fun _ => rfl) (fun _ => rfl) (fun cdv A outer s H E hr B hB a => ?_)
  show JSs _ B _ _ (mb_law_digit a.1 a.2) _
  unfold mb_law_digit
  exact ((js_cons (ρ1 := fun (n50 : Unit) => [.own 1 ((oL D.int) a.1), .val (D.int a.2), .non]) (js_if (jt_opL (ρa := fun _ => _) (bn := fun (x39 : Int) => (decide (x39 > (0 : Int)))) (xa := fun (x39 : Int) => D.int x39) (y := fun (x39 : Int) => D.int (0 : Int)) (fun _ _ ha hb => pt_cmpR op_gt ha hb (nomark _)) (je_ixO 0 (xs := a.1) (en := D.int) (k := (0 : Int)) rfl jp_int) (fun x39 => jp_int) (fun x39 => od_gt)) (fun b42 => (js_consQ1 (fun (p49 : (Int × Unit) × (Nat × Unit)) => [.own 1 ((oL D.int) (List.set a.1 p49.2.1 ((p49.1.1 / a.2, p49.1.1 % a.2).1))), .val (D.int a.2), .val (D.int ((p49.1.1 / a.2, p49.1.1 % a.2).2))]) (j1_asg (d := fun (b46 : (Int × Unit)) => (eP2 D.int D.int) (b46.1 / a.2, b46.1 % a.2)) (je_cb2 (ρa := fun _ => _) (s := fun (c44 : Int) (z45 : Unit) => .val ((eP2 D.int D.int) (c44 / a.2, c44 % a.2))) (fun _ ht => pe_callB call_divmodW (by rfl) T.z_divmod (by decide +kernel) ht) (ja_el (ρa := fun _ => _) (xa := fun (x43 : Int) => D.int x43) (je_ixO 0 (xs := a.1) (en := D.int) (k := (0 : Int)) rfl jp_int) (fun x43 => (ja_p (jp_var 1) ja_nil))) (fun c44 => cb_divmod)) (fun b46 => jg_tup rfl (jgs_cons (jg_sub 0 (xs := a.1) (en := D.int) (y := (b46.1 / a.2, b46.1 % a.2).1) (k := (0 : Int)) rfl jp_int) (fun j47 => (jgs_p (jg_name 2 sc_law_digit.nd) jgs_nil))))) fun p49 =>
(js_one (js_retP ((p49.1.1 / a.2, p49.1.1 % a.2).2, (List.set a.1 p49.2.1 ((p49.1.1 / a.2, p49.1.1 % a.2).1))) [true, false, false] (jp_var 2))))) (fun b42 => (js_nil [true, true, true] ()))) fun n50 =>
(js_consQ1 (fun (p62 : Int × Nat) => [.own 1 ((oL D.int) (List.set a.1 p62.2 (((p62.1 * (48271 : Int)) + (39373 : Int)) % (2147483647 : Int)))), .val (D.int a.2), .non]) (j1_asg (d := fun (b60 : Int) => D.int (((b60 * (48271 : Int)) + (39373 : Int)) % (2147483647 : Int))) (je_opL (ρa := fun _ => _) (s := fun (x57 : Int) => (.val (D.int (((x57 * (48271 : Int)) + (39373 : Int)) % (2147483647 : Int))))) (xa := fun (x57 : Int) => D.int ((x57 * (48271 : Int)) + (39373 : Int))) (y := fun (x57 : Int) => D.int (2147483647 : Int)) (fun _ _ ha hb => pe_op op_mod ha hb) (je_opL (ρa := fun _ => _) (s := fun (x54 : Int) => (.val (D.int ((x54 * (48271 : Int)) + (39373 : Int))))) (xa := fun (x54 : Int) => D.int (x54 * (48271 : Int))) (y := fun (x54 : Int) => D.int (39373 : Int)) (fun _ _ ha hb => pe_op op_add ha hb) (je_opL (ρa := fun _ => _) (s := fun (x51 : Int) => (.val (D.int (x51 * (48271 : Int))))) (xa := fun (x51 : Int) => D.int x51) (y := fun (x51 : Int) => D.int (48271 : Int)) (fun _ _ ha hb => pe_op op_mul ha hb) (je_ixO 0 (xs := a.1) (en := D.int) (k := (1 : Int)) rfl jp_int) (fun x51 => jp_int) (fun x51 => od_mulC)) (fun x54 => jp_int) (fun x54 => od_add)) (fun x57 => jp_int) (fun x57 => od_modC)) (fun b60 => (jg_sub 0 (xs := a.1) (en := D.int) (y := (((b60 * (48271 : Int)) + (39373 : Int)) % (2147483647 : Int))) (k := (1 : Int)) rfl jp_int))) fun p62 =>
(js_one (js_ret (fun (b74 : ((Int × Int × Unit) × Unit)) => ((Int.fmod (((b74.1.1 * b74.1.2.1) % (2147483629 : Int)) / (3 : Int)) a.2), (List.set a.1 p62.2 (((p62.1 * (48271 : Int)) + (39373 : Int)) % (2147483647 : Int))))) [true, false, true] (je_opLG (ρa := fun _ => _) (s := fun (x71 : (Int × Int × Unit)) (z73 : Unit) => (.val (D.int (Int.fmod (((x71.1 * x71.2.1) % (2147483629 : Int)) / (3 : Int)) a.2)))) (xa := fun (x71 : (Int × Int × Unit)) => D.int (((x71.1 * x71.2.1) % (2147483629 : Int)) / (3 : Int))) (y := fun (x71 : (Int × Int × Unit)) => D.int a.2) (fun _ _ ha hb => pe_op op_modN ha hb) (je_opL (ρa := fun _ => _) (s := fun (x68 : (Int × Int × Unit)) => (.val (D.int (((x68.1 * x68.2.1) % (2147483629 : Int)) / (3 : Int))))) (xa := fun (x68 : (Int × Int × Unit)) => D.int ((x68.1 * x68.2.1) % (2147483629 : Int))) (y := fun (x68 : (Int × Int × Unit)) => D.int (3 : Int)) (fun _ _ ha hb => pe_op op_fdiv ha hb) (je_opL (ρa := fun _ => _) (s := fun (x65 : (Int × Int × Unit)) => (.val (D.int ((x65.1 * x65.2.1) % (2147483629 : Int))))) (xa := fun (x65 : (Int × Int × Unit)) => D.int (x65.1 * x65.2.1)) (y := fun (x65 : (Int × Int × Unit)) => D.int (2147483629 : Int)) (fun _ _ ha hb => pe_op op_mod ha hb) (je_op2 (ρa := fun _ => _) (ρb := fun _ _ => _) (s := fun (x63 : Int) (y64 : Int) (z0 : Unit) => (.val (D.int (x63 * y64)))) (xa := fun (x63 : Int) => D.int x63) (xb := fun (x63 : Int) (y64 : Int) => D.int y64) (fun _ _ ha hb => pe_op op_mulX ha hb) (je_ixO 0 (xs := (List.set a.1 p62.2 (((p62.1 * (48271 : Int)) + (39373 : Int)) % (2147483647 : Int)))) (en := D.int) (k := (1 : Int)) rfl jp_int) (fun x63 => (je_ixO 0 (xs := (List.set a.1 p62.2 (((p62.1 * (48271 : Int)) + (39373 : Int)) % (2147483647 : Int)))) (en := D.int) (k := (1 : Int)) rfl jp_int)) (fun x63 y64 => od_mul)) (fun x65 => jp_int) (fun x65 => od_modC)) (fun x68 => jp_int) (fun x68 => od_fdivC)) (fun x71 => (jp_var 1)) (fun x71 => od_mod)))))))
/-! law_low -/
abbrev s_law_low : Stmt := topS 20
theorem sc_law_low : FnScope ["_law_n", "_law_d", "_law_one", "_law_other"] ["_law_n", "_law_d"] (defScope s_law_low) := ⟨rfl, rfl, rfl, by decide +kernel, rfl, by decide +kernel, by decide +kernel⟩
noncomputable def mb_law_low (v_n : Int) (v_d : Int) : R (Fl Unit Unit (Int × Int)) :=
(bindF (whR (fun (s138 : (Int × Int)) => R.ok (decide (s138.2 > (0 : Int)))) (fun s138 =>
((R.guard (s138.2 ≠ (0 : Int))).bind fun (b146 : Unit) =>
(R.ok (.nx (s138.2, (Int.fmod s138.1 s138.2)))))) ((if v_n < 0 then -v_n else v_n), (if v_d < 0 then -v_d else v_d))) fun n139 =>
(bindF (if (decide (v_d < (0 : Int))) = true then (lt (-n139.1) fun v_one_152 =>
(R.ok (.nx v_one_152))) else (R.ok (.nx n139.1))) fun n153 =>
(((R.guard (divOk v_n n153)).bind fun (x156 : Unit) => (R.guard (divOk v_d n153)).bind fun (z160 : Unit) => R.ok (x156, z160)).bind fun (b161 : (Unit × Unit)) => R.ok (.rt ((Int.fdiv v_n n153), (Int.fdiv v_d n153))))))
noncomputable def m_law_low (a : (Int × Int)) : R (Int × Int) := fin0 (mb_law_low a.1 a.2)
abbrev i_law_low (a : (Int × Int)) : List Slot := [.val (D.int a.1), .val (D.int a.2)]
abbrev l_law_low (b : (Int × Int)) : Slot := .val ((eP2 D.int D.int) b)
abbrev o_law_low (b : (Int × Int)) : List Slot := [.non, .non]
theorem ok_law_low {P : Program} {w : World} {K : PySem.W.Frag} {mg : Str → Option Value} {base : Heap} (T : Top K mg) : FnG P w K mg base CX0 1 T.law_low.a T.law_low.d ["_law_n", "_law_d"] (spM K i_law_low m_law_low l_law_low o_law_low) := by
  show FnG P w K mg base CX0 (0 + 1) T.law_low.a T.law_low.d ["_law_n", "_law_d"] (spM K i_law_low (fun (a : (Int × Int)) => fin0 (mb_law_low a.1 a.2)) l_law_low o_law_low)
  refine fn_ok (n1 := fun _ => []) (c1 := fun _ => []) (k1 := fun _ => []) (ins := i_law_low) (sl := l_law_low) (outs := o_law_low) (fun (a : (Int × Int)) => mb_law_low a.1 a.2) 2 T.law_low.f sc_law_low rfl (fun _ => rfl) (fun _ => rfl) (fun _ => rfl) (fun cdv A outer s H E hr B hB a => ?_)
  show JSs _ B _ _ (mb_law_low a.1 a.2) _
  unfold mb_law_low
  exact ((js_consQP [.val (D.int a.1), .val (D.int a.2), .val (D.int (if a.1 < 0 then -a.1 else a.1)), .val (D.int (if a.2 < 0 then -a.2 else a.2))] (j1_par 2 3 (d1 := fun (b137 : Unit) => D.int (if a.1 < 0 then -a.1 else a.1)) (d2 := fun (b137 : Unit) => D.int (if a.2 < 0 then -a.2 else a.2)) rfl sc_law_low.nd (ja_p (je_cb (fun _ ht => pe_callB call_abs (by rfl) T.z_abs (by decide +kernel) ht) (ja_p (jp_var 0) ja_nil) cb_abs) (ja_p (je_cb (fun _ ht => pe_callB call_abs (by rfl) T.z_abs (by decide +kernel) ht) (ja_p (jp_var 1) ja_nil) cb_abs) ja_nil)))
(js_cons (ρ1 := fun (n139 : (Int × Int)) => [.val (D.int a.1), .val (D.int a.2), .val (D.int n139.1), .val (D.int n139.2)]) (js_while (fun (s138 : (Int × Int)) => [.val (D.int a.1), .val (D.int a.2), .val (D.int s138.1), .val (D.int s138.2)]) PassesOwn.never ((if a.1 < 0 then -a.1 else a.1), (if a.2 < 0 then -a.2 else a.2)) [true, true, true, true] rfl (fun s138 => (jt_pb (jt_op (fun _ _ ha hb => pt_cmpR op_gt ha hb (nomark _)) (jp_var 3) jp_int od_gt))) (fun s138 =>
(js_consQ1 (fun (b146 : Unit) => [.val (D.int a.1), .val (D.int a.2), .val (D.int s138.2), .val (D.int (Int.fmod s138.1 s138.2))]) (j1_par 2 3 (d1 := fun (b146 : Unit) => D.int s138.2) (d2 := fun (b146 : Unit) => D.int (Int.fmod s138.1 s138.2)) rfl sc_law_low.nd (ja_p (jp_var 3) (ja_el (ρa := fun _ => _) (xa := fun (x145 : Unit) => D.int (Int.fmod s138.1 s138.2)) (je_op (fun _ _ ha hb => pe_op op_modN ha hb) (jp_var 2) (jp_var 3) od_mod) (fun x145 => ja_nil)))) fun b146 =>
(js_nil [true, true, true, true] (s138.2, (Int.fmod s138.1 s138.2)))))) fun n139 =>
(js_cons (ρ1 := fun (n153 : Int) => [.val (D.int a.1), .val (D.int a.2), .val (D.int n153), .val (D.int n139.2)]) (js_ifP (jt_op (fun _ _ ha hb => pt_cmpR op_lt ha hb (nomark _)) (jp_var 1) jp_int od_lt) (js_setPQ 2 D.int (-n139.1) (fun (v_one_152 : Int) => [.val (D.int a.1), .val (D.int a.2), .val (D.int v_one_152), .val (D.int n139.2)]) sc_law_low.nd (jp_neg (jp_var 2)) fun v_one_152 =>
(js_nil [true, true, true, true] v_one_152)) (js_nil [true, true, true, true] n139.1)) fun n153 =>
(js_one (js_ret (fun (b161 : (Unit × Unit)) => ((Int.fdiv a.1 n153), (Int.fdiv a.2 n153))) [false, false, false, false] (je_tup (ja_e (ρ' := fun _ _ => _) (ρa := fun _ => _) (xa := fun (x156 : Unit) => D.int (Int.fdiv a.1 n153)) (je_op (fun _ _ ha hb => pe_op op_fdivZ ha hb) (jp_var 0) (jp_var 2) od_fdiv) (fun x156 => (ja_el (ρa := fun _ => _) (xa := fun (x159 : Unit) => D.int (Int.fdiv a.2 n153)) (je_op (fun _ _ ha hb => pe_op op_fdivZ ha hb) (jp_var 1) (jp_var 2) od_fdiv) (fun x159 => ja_nil)))))))))))
/-! law_plus -/
abbrev s_law_plus : Stmt := topS 21
theorem sc_law_plus : FnScope ["_law_one", "_law_other"] ["_law_one", "_law_other"] (defScope s_law_plus) := ⟨rfl, rfl, rfl, by decide +kernel, rfl, by decide +kernel, by decide +kernel⟩
noncomputable def mb_law_plus (v_one : (Int × Int)) (v_other : (Int × Int)) : R (Fl Unit Unit (Int × Int)) :=
((((op2 (R.guard (CMulX v_one.1 v_other.2)) (fun (x168 : Unit) => R.guard (CMulX v_other.1 v_one.2)) (fun (x168 : Unit) (y169 : Unit) => R.ok ())).bind fun (x176 : (Unit × Unit × Unit)) => (R.guard (CMulX v_one.2 v_other.2)).bind fun (z184 : Unit) => R.ok (x176, z184)).bind fun (c185 : ((Unit × Unit × Unit) × Unit)) => (m_law_low (((v_one.1 * v_other.2) + (v_other.1 * v_one.2)), (v_one.2 * v_other.2))).bind fun (z186 : (Int × Int)) => R.ok (c185, z186)).bind fun (b187 : (((Unit × Unit × Unit) × Unit) × (Int × Int))) => R.ok (.rt b187.2))
noncomputable def m_law_plus (a : ((Int × Int) × (Int × Int))) : R (Int × Int) := fin0 (mb_law_plus a.1 a.2)
abbrev i_law_plus (a : ((Int × Int) × (Int × Int))) : List Slot := [.val ((eP2 D.int D.int) a.1), .val ((eP2 D.int D.int) a.2)]
abbrev l_law_plus (b : (Int × Int)) : Slot := .val ((eP2 D.int D.int) b)
abbrev o_law_plus (b : (Int × Int)) : List Slot := [.non, .non]
theorem ok_law_plus {P : Program} {w : World} {K : PySem.W.Frag} {mg : Str → Option Value} {base : Heap} (T : Top K mg) : FnG P w K mg base CX0 2 T.law_plus.a T.law_plus.d ["_law_one", "_law_other"] (spM K i_law_plus m_law_plus l_law_plus o_law_plus) := by
  show FnG P w K mg base CX0 (1 + 1) T.law_plus.a T.law_plus.d ["_law_one", "_law_other"] (spM K i_law_plus (fun (a : ((Int × Int) × (Int × Int))) => fin0 (mb_law_plus a.1 a.2)) l_law_plus o_law_plus)
  refine fn_ok (n1 := fun _ => []) (c1 := fun _ => []) (k1 := fun _ => []) (ins := i_law_plus) (sl := l_law_plus) (outs := o_law_plus) (fun (a : ((Int × Int) × (Int × Int))) => mb_law_plus a.1 a.2) 0 T.law_plus.f sc_law_plus rfl (fun _ => rfl) (fun _ => rfl) (fun _ => rfl) (fun cdv A outer s H E hr B hB a => ?_)
  show JSs _ B _ _ (mb_law_plus a.1 a.2) _
  unfold mb_law_plus
  exact ((js_one (js_ret (fun (b187 : (((Unit × Unit × Unit) × Unit) × (Int × Int))) => b187.2) [false, false] (je_callVE (ρa := fun _ => _) (ins := i_law_low) (mf := m_law_low) (sl := l_law_low) (outs := o_law_low) (ok_law_low T) (hr.mono (by decide)) (by rfl) T.law_low.g T.law_low.f.kp T.law_low.b pass0 (arg := fun (c185 : ((Unit × Unit × Unit) × Unit)) => (((a.1.1 * a.2.2) + (a.2.1 * a.1.2)), (a.1.2 * a.2.2))) (ja_e (ρ' := fun _ _ => _) (ρa := fun _ => _) (xa := fun (x176 : (Unit × Unit × Unit)) => D.int ((a.1.1 * a.2.2) + (a.2.1 * a.1.2))) (je_op2 (ρa := fun _ => _) (ρb := fun _ _ => _) (s := fun (x168 : Unit) (y169 : Unit) (z0 : Unit) => (.val (D.int ((a.1.1 * a.2.2) + (a.2.1 * a.1.2))))) (xa := fun (x168 : Unit) => D.int (a.1.1 * a.2.2)) (xb := fun (x168 : Unit) (y169 : Unit) => D.int (a.2.1 * a.1.2)) (fun _ _ ha hb => pe_op op_add ha hb) (je_op (fun _ _ ha hb => pe_op op_mulX ha hb) (je_op (fun _ _ ha hb => pe_ix ix_tup ha hb (fun _ _ => rfl)) (jp_var 0) jp_int (od_ixTs rfl)) (je_op (fun _ _ ha hb => pe_ix ix_tup ha hb (fun _ _ => rfl)) (jp_var 1) jp_int (od_ixTs rfl)) od_mul) (fun x168 => (je_op (fun _ _ ha hb => pe_op op_mulX ha hb) (je_op (fun _ _ ha hb => pe_ix ix_tup ha hb (fun _ _ => rfl)) (jp_var 1) jp_int (od_ixTs rfl)) (je_op (fun _ _ ha hb => pe_ix ix_tup ha hb (fun _ _ => rfl)) (jp_var 0) jp_int (od_ixTs rfl)) od_mul)) (fun x168 y169 => od_add)) (fun x176 => (ja_el (ρa := fun _ => _) (xa := fun (x183 : Unit) => D.int (a.1.2 * a.2.2)) (je_op (fun _ _ ha hb => pe_op op_mulX ha hb) (je_op (fun _ _ ha hb => pe_ix ix_tup ha hb (fun _ _ => rfl)) (jp_var 0) jp_int (od_ixTs rfl)) (je_op (fun _ _ ha hb => pe_ix ix_tup ha hb (fun _ _ => rfl)) (jp_var 1) jp_int (od_ixTs rfl)) od_mul) (fun x183 => ja_nil)))) hB))))
/-! law_times -/
abbrev s_law_times : Stmt := topS 23
theorem sc_law_times : FnScope ["_law_one", "_law_other"] ["_law_one", "_law_other"] (defScope s_law_times) := ⟨rfl, rfl, rfl, by decide +kernel, rfl, by decide +kernel, by decide +kernel⟩
noncomputable def mb_law_times (v_one : (Int × Int)) (v_other : (Int × Int)) : R (Fl Unit Unit (Int × Int)) :=
((((R.guard (CMulX v_one.1 v_other.1)).bind fun (x194 : Unit) => (R.guard (CMulX v_one.2 v_other.2)).bind fun (z202 : Unit) => R.ok (x194, z202)).bind fun (c203 : (Unit × Unit)) => (m_law_low ((v_one.1 * v_other.1), (v_one.2 * v_other.2))).bind fun (z204 : (Int × Int)) => R.ok (c203, z204)).bind fun (b205 : ((Unit × Unit) × (Int × Int))) => R.ok (.rt b205.2))
noncomputable def m_law_times (a : ((Int × Int) × (Int × Int))) : R (Int × Int) := fin0 (mb_law_times a.1 a.2)
abbrev i_law_times (a : ((Int × Int) × (Int × Int))) : List Slot := [.val ((eP2 D.int D.int) a.1), .val ((eP2 D.int D.int) a.2)]
abbrev l_law_times (b : (Int × Int)) : Slot := .val ((eP2 D.int D.int) b)
abbrev o_law_times (b : (Int × Int)) : List Slot := [.non, .non]
theorem ok_law_times {P : Program} {w : World} {K : PySem.W.Frag} {mg : Str → Option Value} {base : Heap} (T : Top K mg) : FnG P w K mg base CX0 2 T.law_times.a T.law_times.d ["_law_one", "_law_other"] (spM K i_law_times m_law_times l_law_times o_law_times) := by
  show FnG P w K mg base CX0 (1 + 1) T.law_times.a T.law_times.d ["_law_one", "_law_other"] (spM K i_law_times (fun (a : ((Int × Int) × (Int × Int))) => fin0 (mb_law_times a.1 a.2)) l_law_times o_law_times)
  refine fn_ok (n1 := fun _ => []) (c1 := fun _ => []) (k1 := fun _ => []) (ins := i_law_times) (sl := l_law_times) (outs := o_law_times) (fun (a : ((Int × Int) × (Int × Int))) => mb_law_times a.1 a.2) 0 T.law_times.f sc_law_times rfl (fun _ => rfl) (fun _ => rfl) (fun _ => rfl) (fun cdv A outer s H E hr B hB a => ?_)
  show JSs _ B _ _ (mb_law_times a.1 a.2) _
  unfold mb_law_times
  exact ((js_one (js_ret (fun (b205 : ((Unit × Unit) × (Int × Int))) => b205.2) [false, false] (je_callVE (ρa := fun _ => _) (ins := i_law_low) (mf := m_law_low) (sl := l_law_low) (outs := o_law_low) (ok_law_low T) (hr.mono (by decide)) (by rfl) T.law_low.g T.law_low.f.kp T.law_low.b pass0 (arg := fun (c203 : (Unit × Unit)) => ((a.1.1 * a.2.1), (a.1.2 * a.2.2))) (ja_e (ρ' := fun _ _ => _) (ρa := fun _ => _) (xa := fun (x194 : Unit) => D.int (a.1.1 * a.2.1)) (je_op (fun _ _ ha hb => pe_op op_mulX ha hb) (je_op (fun _ _ ha hb => pe_ix ix_tup ha hb (fun _ _ => rfl)) (jp_var 0) jp_int (od_ixTs rfl)) (je_op (fun _ _ ha hb => pe_ix ix_tup ha hb (fun _ _ => rfl)) (jp_var 1) jp_int (od_ixTs rfl)) od_mul) (fun x194 => (ja_el (ρa := fun _ => _) (xa := fun (x201 : Unit) => D.int (a.1.2 * a.2.2)) (je_op (fun _ _ ha hb => pe_op op_mulX ha hb) (je_op (fun _ _ ha hb => pe_ix ix_tup ha hb (fun _ _ => rfl)) (jp_var 0) jp_int (od_ixTs rfl)) (je_op (fun _ _ ha hb => pe_ix ix_tup ha hb (fun _ _ => rfl)) (jp_var 1) jp_int (od_ixTs rfl)) od_mul) (fun x201 => ja_nil)))) hB))))
/-! law_less -/
abbrev s_law_less : Stmt := topS 22
theorem sc_law_less : FnScope ["_law_one", "_law_other"] ["_law_one", "_law_other"] (defScope s_law_less) := ⟨rfl, rfl, rfl, by decide +kernel, rfl, by decide +kernel, by decide +kernel⟩
noncomputable def mb_law_less (v_one : (Int × Int)) (v_other : (Int × Int)) : R (Fl Unit Unit (Int × Int)) :=
((((op2 (R.guard (CMulX v_one.1 v_other.2)) (fun (x212 : Unit) => R.guard (CMulX v_other.1 v_one.2)) (fun (x212 : Unit) (y213 : Unit) => R.ok ())).bind fun (x220 : (Unit × Unit × Unit)) => (R.guard (CMulX v_one.2 v_other.2)).bind fun (z228 : Unit) => R.ok (x220, z228)).bind fun (c229 : ((Unit × Unit × Unit) × Unit)) => (m_law_low (((v_one.1 * v_other.2) - (v_other.1 * v_one.2)), (v_one.2 * v_other.2))).bind fun (z230 : (Int × Int)) => R.ok (c229, z230)).bind fun (b231 : (((Unit × Unit × Unit) × Unit) × (Int × Int))) => R.ok (.rt b231.2))
noncomputable def m_law_less (a : ((Int × Int) × (Int × Int))) : R (Int × Int) := fin0 (mb_law_less a.1 a.2)
abbrev i_law_less (a : ((Int × Int) × (Int × Int))) : List Slot := [.val ((eP2 D.int D.int) a.1), .val ((eP2 D.int D.int) a.2)]
abbrev l_law_less (b : (Int × Int)) : Slot := .val ((eP2 D.int D.int) b)
abbrev o_law_less (b : (Int × Int)) : List Slot := [.non, .non]
theorem ok_law_less {P : Program} {w : World} {K : PySem.W.Frag} {mg : Str → Option Value} {base : Heap} (T : Top K mg) : FnG P w K mg base CX0 2 T.law_less.a T.law_less.d ["_law_one", "_law_other"] (spM K i_law_less m_law_less l_law_less o_law_less) := by
  show FnG P w K mg base CX0 (1 + 1) T.law_less.a T.law_less.d ["_law_one", "_law_other"] (spM K i_law_less (fun (a : ((Int × Int) × (Int × Int))) => fin0 (mb_law_less a.1 a.2)) l_law_less o_law_less)
  refine fn_ok (n1 := fun _ => []) (c1 := fun _ => []) (k1 := fun _ => []) (ins := i_law_less) (sl := l_law_less) (outs := o_law_less) (fun (a : ((Int × Int) × (Int × Int))) => mb_law_less a.1 a.2) 0 T.law_less.f sc_law_less rfl (fun _ => rfl) (fun _ => rfl) (fun _ => rfl) (fun cdv A outer s H E hr B hB a => ?_)
  show JSs _ B _ _ (mb_law_less a.1 a.2) _
  unfold mb_law_less
  exact ((js_one (js_ret (fun (b231 : (((Unit × Unit × Unit) × Unit) × (Int × Int))) => b231.2) [false, false] (je_callVE (ρa := fun _ => _) (ins := i_law_low) (mf := m_law_low) (sl := l_law_low) (outs := o_law_low) (ok_law_low T) (hr.mono (by decide)) (by rfl) T.law_low.g T.law_low.f.kp T.law_low.b pass0 (arg := fun (c229 : ((Unit × Unit × Unit) × Unit)) => (((a.1.1 * a.2.2) - (a.2.1 * a.1.2)), (a.1.2 * a.2.2))) (ja_e (ρ' := fun _ _ => _) (ρa := fun _ => _) (xa := fun (x220 : (Unit × Unit × Unit)) => D.int ((a.1.1 * a.2.2) - (a.2.1 * a.1.2))) (je_op2 (ρa := fun _ => _) (ρb := fun _ _ => _) (s := fun (x212 : Unit) (y213 : Unit) (z0 : Unit) => (.val (D.int ((a.1.1 * a.2.2) - (a.2.1 * a.1.2))))) (xa := fun (x212 : Unit) => D.int (a.1.1 * a.2.2)) (xb := fun (x212 : Unit) (y213 : Unit) => D.int (a.2.1 * a.1.2)) (fun _ _ ha hb => pe_op op_sub ha hb) (je_op (fun _ _ ha hb => pe_op op_mulX ha hb) (je_op (fun _ _ ha hb => pe_ix ix_tup ha hb (fun _ _ => rfl)) (jp_var 0) jp_int (od_ixTs rfl)) (je_op (fun _ _ ha hb => pe_ix ix_tup ha hb (fun _ _ => rfl)) (jp_var 1) jp_int (od_ixTs rfl)) od_mul) (fun x212 => (je_op (fun _ _ ha hb => pe_op op_mulX ha hb) (je_op (fun _ _ ha hb => pe_ix ix_tup ha hb (fun _ _ => rfl)) (jp_var 1) jp_int (od_ixTs rfl)) (je_op (fun _ _ ha hb => pe_ix ix_tup ha hb (fun _ _ => rfl)) (jp_var 0) jp_int (od_ixTs rfl)) od_mul)) (fun x212 y213 => od_sub)) (fun x220 => (ja_el (ρa := fun _ => _) (xa := fun (x227 : Unit) => D.int (a.1.2 * a.2.2)) (je_op (fun _ _ ha hb => pe_op op_mulX ha hb) (je_op (fun _ _ ha hb => pe_ix ix_tup ha hb (fun _ _ => rfl)) (jp_var 0) jp_int (od_ixTs rfl)) (je_op (fun _ _ ha hb => pe_ix ix_tup ha hb (fun _ _ => rfl)) (jp_var 1) jp_int (od_ixTs rfl)) od_mul) (fun x227 => ja_nil)))) hB))))
/-! law_between -/
abbrev s_law_between : Stmt := topS 26
theorem sc_law_between : FnScope ["_law_one", "_law_other", "_law_part"] ["_law_one", "_law_other", "_law_part"] (defScope s_law_between) := ⟨rfl, rfl, rfl, by decide +kernel, rfl, by decide +kernel, by decide +kernel⟩
noncomputable def mb_law_between (v_one : (Int × Int)) (v_other : (Int × Int)) (v_part : (Int × Int)) : R (Fl Unit Unit (Int × Int)) :=
((((m_law_less (v_other, v_one)).bind fun (c233 : (Int × Int)) => (m_law_times (v_part, c233)).bind fun (z234 : (Int × Int)) => R.ok (c233, z234)).bind fun (c236 : ((Int × Int) × (Int × Int))) => (m_law_plus (v_one, c236.2)).bind fun (z237 : (Int × Int)) => R.ok (c236, z237)).bind fun (b238 : (((Int × Int) × (Int × Int)) × (Int × Int))) => R.ok (.rt b238.2))
noncomputable def m_law_between (a : ((Int × Int) × (Int × Int) × (Int × Int))) : R (Int × Int) := fin0 (mb_law_between a.1 a.2.1 a.2.2)
abbrev i_law_between (a : ((Int × Int) × (Int × Int) × (Int × Int))) : List Slot := [.val ((eP2 D.int D.int) a.1), .val ((eP2 D.int D.int) a.2.1), .val ((eP2 D.int D.int) a.2.2)]
abbrev l_law_between (b : (Int × Int)) : Slot := .val ((eP2 D.int D.int) b)
abbrev o_law_between (b : (Int × Int)) : List Slot := [.non, .non, .non]
theorem ok_law_between {P : Program} {w : World} {K : PySem.W.Frag} {mg : Str → Option Value} {base : Heap} (T : Top K mg) : FnG P w K mg base CX0 3 T.law_between.a T.law_between.d ["_law_one", "_law_other", "_law_part"] (spM K i_law_between m_law_between l_law_between o_law_between) := by
  show FnG P w K mg base CX0 (2 + 1) T.law_between.a T.law_between.d ["_law_one", "_law_other", "_law_part"] (spM K i_law_between (fun (a : ((Int × Int) × (Int × Int) × (Int × Int))) => fin0 (mb_law_between a.1 a.2.1 a.2.2)) l_law_between o_law_between)
  refine fn_ok (n1 := fun _ => []) (c1 := fun _ => []) (k1 := fun _ => []) (ins := i_law_between) (sl := l_law_between) (outs := o_law_between) (fun (a : ((Int × Int) × (Int × Int) × (Int × Int))) => mb_law_between a.1 a.2.1 a.2.2) 0 T.law_between.f sc_law_between rfl (fun _ => rfl) (fun _ => rfl) (fun _ => rfl) (fun cdv A outer s H E hr B hB a => ?_)
  show JSs _ B _ _ (mb_law_between a.1 a.2.1 a.2.2) _
  unfold mb_law_between
  exact ((js_one (js_ret (fun (b238 : (((Int × Int) × (Int × Int)) × (Int × Int))) => b238.2) [false, false, false] (je_callVE (ρa := fun _ => _) (ins := i_law_plus) (mf := m_law_plus) (sl := l_law_plus) (outs := o_law_plus) (ok_law_plus T) (hr.mono (by decide)) (by rfl) T.law_plus.g T.law_plus.f.kp T.law_plus.b pass0 (arg := fun (c236 : ((Int × Int) × (Int × Int))) => (a.1, c236.2)) (ja_p (jp_var 0) (ja_el (ρa := fun _ => _) (xa := fun (x235 : ((Int × Int) × (Int × Int))) => (eP2 D.int D.int) x235.2) (je_callVE (ρa := fun _ => _) (ins := i_law_times) (mf := m_law_times) (sl := l_law_times) (outs := o_law_times) (ok_law_times T) (hr.mono (by decide)) (by rfl) T.law_times.g T.law_times.f.kp T.law_times.b pass0 (arg := fun (c233 : (Int × Int)) => (a.2.2, c233)) (ja_p (jp_var 2) (ja_el (ρa := fun _ => _) (xa := fun (x232 : (Int × Int)) => (eP2 D.int D.int) x232) (je_callV (ins := i_law_less) (mf := m_law_less) (sl := l_law_less) (outs := o_law_less) (ok_law_less T) (hr.mono (by decide)) (by rfl) T.law_less.g T.law_less.f.kp T.law_less.b pass0 (arg := (a.2.1, a.1)) (ja_p (jp_var 1) (ja_p (jp_var 0) ja_nil)) hB) (fun x232 => ja_nil))) hB) (fun x235 => ja_nil))) hB))))
/-! law_number -/
abbrev s_law_number : Stmt := topS 25
theorem sc_law_number : FnScope ["_law_pot_here", "_law_mode", "_law_far"] ["_law_pot_here", "_law_mode"] (defScope s_law_number) := ⟨rfl, rfl, rfl, by decide +kernel, rfl, by decide +kernel, by decide +kernel⟩
noncomputable def mb_law_number (v_pot_here : (List Int)) (v_mode : Int) : R (Fl Unit Unit ((Int × Int) × (List Int))) :=
(bindF (if (decide (v_mode = (0 : Int))) = true then ((((m_law_digit (v_pot_here, (9 : Int))).bind fun (x259 : (Int × (List Int))) => (m_law_digit (x259.2, (3 : Int))).bind fun (z265 : (Int × (List Int))) => R.ok (x259, z265)).bind fun (c266 : ((Int × (List Int)) × (Int × (List Int)))) => (m_law_low ((c266.1.1 - (4 : Int)), ((1 : Int) + c266.2.1))).bind fun (z267 : (Int × Int)) => R.ok (c266, z267)).bind fun (b268 : (((Int × (List Int)) × (Int × (List Int))) × (Int × Int))) => R.ok (.rt (b268.2, b268.1.2.2))) else (R.ok (.nx ()))) fun n269 =>
(bindF (if (decide (v_mode = (1 : Int))) = true then ((m_law_digit (v_pot_here, (7 : Int))).bind fun (b278 : (Int × (List Int))) => R.ok (.rt (((b278.1 - (3 : Int)), (1 : Int)), b278.2))) else (R.ok (.nx ()))) fun n279 =>
(((m_law_digit (v_pot_here, (3 : Int))).bind fun (y289 : (Int × (List Int))) => (R.some (atI [((10 : Int) ^ (Int.toNat (3 : Int))), ((10 : Int) ^ (Int.toNat (12 : Int))), ((10 : Int) ^ (Int.toNat (57 : Int)))] y289.1)).bind fun (z291 : Int) => R.ok (y289, z291)).bind fun (b293 : ((Int × (List Int)) × Int)) => lt b293.2 fun v_far_292 =>
((((m_law_digit (b293.1.2, ((2 : Int) * v_far_292))).bind fun (x300 : (Int × (List Int))) => (m_law_digit (x300.2, v_far_292)).bind fun (z306 : (Int × (List Int))) => R.ok (x300, z306)).bind fun (c307 : ((Int × (List Int)) × (Int × (List Int)))) => (m_law_low ((c307.1.1 - v_far_292), ((1 : Int) + c307.2.1))).bind fun (z308 : (Int × Int)) => R.ok (c307, z308)).bind fun (b309 : (((Int × (List Int)) × (Int × (List Int))) × (Int × Int))) => R.ok (.rt (b309.2, b309.1.2.2))))))
noncomputable def m_law_number (a : ((List Int) × Int)) : R ((Int × Int) × (List Int)) := fin0 (mb_law_number a.1 a.2)
abbrev i_law_number (a : ((List Int) × Int)) : List Slot := [.own 1 ((oL D.int) a.1), .val (D.int a.2)]
abbrev l_law_number (b : ((Int × Int) × (List Int))) : Slot := .val ((eP2 D.int D.int) b.1)
abbrev o_law_number (b : ((Int × Int) × (List Int))) : List Slot := [.own 1 ((oL D.int) b.2), .non]
theorem ok_law_number {P : Program} {w : World} {K : PySem.W.Frag} {mg : Str → Option Value} {base : Heap} (T : Top K mg) : FnG P w K mg base CX0 2 T.law_number.a T.law_number.d ["_law_pot_here", "_law_mode"] (spM K i_law_number m_law_number l_law_number o_law_number) := by
  show FnG P w K mg base CX0 (1 + 1) T.law_number.a T.law_number.d ["_law_pot_here", "_law_mode"] (spM K i_law_number (fun (a : ((List Int) × Int)) => fin0 (mb_law_number a.1 a.2)) l_law_number o_law_number)
  refine fn_ok (n1 := fun _ => []) (c1 := fun _ => []) (k1 := fun _ => []) (ins := i_law_number) (sl := l_law_number) (outs := o_law_number) (fun (a : ((List Int) × Int)) => mb_law_number a.1 a.2) 1 T.law_number.f sc_law_number rfl (fun _ => rfl) (fun _ => rfl) (fun _ => rfl) (fun cdv A outer s H E hr B hB a => ?_)
  show JSs _ B _ _ (mb_law_number a.1 a.2) _
  unfold mb_law_number
  exact ((js_cons (ρ1 := fun (n269 : Unit) => [.own 1 ((oL D.int) a.1), .val (D.int a.2), .non]) (js_ifP (jt_op (fun _ _ ha hb => pt_cmpR op_eq ha hb (nomark _)) (jp_var 1) jp_int od_eqI) (js_one (js_ret (fun (b268 : (((Int × (List Int)) × (Int × (List Int))) × (Int × Int))) => (b268.2, b268.1.2.2)) [true, false, true] (je_callVE (ins := i_law_low) (mf := m_law_low) (sl := l_law_low) (outs := o_law_low) (ok_law_low T) (hr.mono (by decide)) (by rfl) T.law_low.g T.law_low.f.kp T.law_low.b pass0 (arg := fun (c266 : ((Int × (List Int)) × (Int × (List Int)))) => ((c266.1.1 - (4 : Int)), ((1 : Int) + c266.2.1))) (ja_e (xa := fun (x259 : (Int × (List Int))) => D.int (x259.1 - (4 : Int))) (je_opL (s := fun (x256 : (Int × (List Int))) => (.val (D.int (x256.1 - (4 : Int))))) (xa := fun (x256 : (Int × (List Int))) => D.int x256.1) (y := fun (x256 : (Int × (List Int))) => D.int (4 : Int)) (fun _ _ ha hb => pe_op op_sub ha hb) (je_callQ (ins := i_law_digit) (mf := m_law_digit) (sl := l_law_digit) (outs := o_law_digit) (ok_law_digit T) (hr.mono (by decide)) (by rfl) T.law_digit.g T.law_digit.f.kp T.law_digit.b pass0 (arg := (a.1, (9 : Int))) (fun (b255 : (Int × (List Int))) => [.own 1 ((oL D.int) b255.2), .val (D.int a.2), .non]) (ja_s 0 (ja_p jp_int ja_nil)) hB) (fun x256 => jp_int) (fun x256 => od_sub)) (fun x259 => (ja_el (xa := fun (x264 : (Int × (List Int))) => D.int ((1 : Int) + x264.1)) (je_opR (s := fun (y261 : (Int × (List Int))) => (.val (D.int ((1 : Int) + y261.1)))) (xb := fun (y261 : (Int × (List Int))) => D.int y261.1) (fun _ _ ha hb => pe_op op_add ha hb) jp_int (je_callQ (ins := i_law_digit) (mf := m_law_digit) (sl := l_law_digit) (outs := o_law_digit) (ok_law_digit T) (hr.mono (by decide)) (by rfl) T.law_digit.g T.law_digit.f.kp T.law_digit.b pass0 (arg := (x259.2, (3 : Int))) (fun (b262 : (Int × (List Int))) => [.own 1 ((oL D.int) b262.2), .val (D.int a.2), .non]) (ja_s 0 (ja_p jp_int ja_nil)) hB) (fun y261 => od_add)) (fun x264 => ja_nil)))) hB))) (js_nil [true, true, true] ())) fun n269 =>
(js_cons (ρ1 := fun (n279 : Unit) => [.own 1 ((oL D.int) a.1), .val (D.int a.2), .non]) (js_ifP (jt_op (fun _ _ ha hb => pt_cmpR op_eq ha hb (nomark _)) (jp_var 1) jp_int od_eqI) (js_one (js_ret (fun (b278 : (Int × (List Int))) => (((b278.1 - (3 : Int)), (1 : Int)), b278.2)) [true, false, true] (je_tup (ja_el (xa := fun (x277 : (Int × (List Int))) => D.int (x277.1 - (3 : Int))) (je_opL (s := fun (x274 : (Int × (List Int))) => (.val (D.int (x274.1 - (3 : Int))))) (xa := fun (x274 : (Int × (List Int))) => D.int x274.1) (y := fun (x274 : (Int × (List Int))) => D.int (3 : Int)) (fun _ _ ha hb => pe_op op_sub ha hb) (je_callQ (ins := i_law_digit) (mf := m_law_digit) (sl := l_law_digit) (outs := o_law_digit) (ok_law_digit T) (hr.mono (by decide)) (by rfl) T.law_digit.g T.law_digit.f.kp T.law_digit.b pass0 (arg := (a.1, (7 : Int))) (fun (b273 : (Int × (List Int))) => [.own 1 ((oL D.int) b273.2), .val (D.int a.2), .non]) (ja_s 0 (ja_p jp_int ja_nil)) hB) (fun x274 => jp_int) (fun x274 => od_sub)) (fun x277 => (ja_p jp_int ja_nil)))))) (js_nil [true, true, true] ())) fun n279 =>
(js_setEQ 2 D.int (fun (b293 : ((Int × (List Int)) × Int)) => b293.2) (fun (b293 : ((Int × (List Int)) × Int)) (v_far_292 : Int) => [.own 1 ((oL D.int) b293.1.2), .val (D.int a.2), .val (D.int v_far_292)]) sc_law_number.nd (je_opRG (s := fun (y289 : (Int × (List Int))) (z291 : Int) => (.val (D.int z291))) (xb := fun (y289 : (Int × (List Int))) => D.int y289.1) (fun _ _ ha hb => pe_ix ix_list ha hb (fun _ _ => rfl)) (je_frzL (v := fun (b287 : Unit) => [((10 : Int) ^ (Int.toNat (3 : Int))), ((10 : Int) ^ (Int.toNat (12 : Int))), ((10 : Int) ^ (Int.toNat (57 : Int)))]) (je_lstT D.int (fun (b286 : Unit) => ([((10 : Int) ^ (Int.toNat (3 : Int))), ((10 : Int) ^ (Int.toNat (12 : Int))), ((10 : Int) ^ (Int.toNat (57 : Int)))] : List Int)) (ja_p (je_op (fun _ _ ha hb => pe_op op_pow ha hb) jp_int jp_int od_powC) (ja_p (je_op (fun _ _ ha hb => pe_op op_pow ha hb) jp_int jp_int od_powC) (ja_p (je_op (fun _ _ ha hb => pe_op op_pow ha hb) jp_int jp_int od_powC) ja_nil))))) (je_callQ (ins := i_law_digit) (mf := m_law_digit) (sl := l_law_digit) (outs := o_law_digit) (ok_law_digit T) (hr.mono (by decide)) (by rfl) T.law_digit.g T.law_digit.f.kp T.law_digit.b pass0 (arg := (a.1, (3 : Int))) (fun (b290 : (Int × (List Int))) => [.own 1 ((oL D.int) b290.2), .val (D.int a.2), .non]) (ja_s 0 (ja_p jp_int ja_nil)) hB) (fun y289 => od_ixLm)) fun b293 v_far_292 =>
(js_one (js_ret (fun (b309 : (((Int × (List Int)) × (Int × (List Int))) × (Int × Int))) => (b309.2, b309.1.2.2)) [true, false, false] (je_callVE (ins := i_law_low) (mf := m_law_low) (sl := l_law_low) (outs := o_law_low) (ok_law_low T) (hr.mono (by decide)) (by rfl) T.law_low.g T.law_low.f.kp T.law_low.b pass0 (arg := fun (c307 : ((Int × (List Int)) × (Int × (List Int)))) => ((c307.1.1 - v_far_292), ((1 : Int) + c307.2.1))) (ja_e (xa := fun (x300 : (Int × (List Int))) => D.int (x300.1 - v_far_292)) (je_opL (s := fun (x297 : (Int × (List Int))) => (.val (D.int (x297.1 - v_far_292)))) (xa := fun (x297 : (Int × (List Int))) => D.int x297.1) (y := fun (x297 : (Int × (List Int))) => D.int v_far_292) (fun _ _ ha hb => pe_op op_sub ha hb) (je_callQ (ins := i_law_digit) (mf := m_law_digit) (sl := l_law_digit) (outs := o_law_digit) (ok_law_digit T) (hr.mono (by decide)) (by rfl) T.law_digit.g T.law_digit.f.kp T.law_digit.b pass0 (arg := (b293.1.2, ((2 : Int) * v_far_292))) (fun (b296 : (Int × (List Int))) => [.own 1 ((oL D.int) b296.2), .val (D.int a.2), .val (D.int v_far_292)]) (ja_s 0 (ja_p (je_op (fun _ _ ha hb => pe_op op_mul ha hb) jp_int (jp_var 2) od_mulC) ja_nil)) hB) (fun x297 => (jp_var 2)) (fun x297 => od_sub)) (fun x300 => (ja_el (xa := fun (x305 : (Int × (List Int))) => D.int ((1 : Int) + x305.1)) (je_opR (s := fun (y302 : (Int × (List Int))) => (.val (D.int ((1 : Int) + y302.1)))) (xb := fun (y302 : (Int × (List Int))) => D.int y302.1) (fun _ _ ha hb => pe_op op_add ha hb) jp_int (je_callQ (ins := i_law_digit) (mf := m_law_digit) (sl := l_law_digit) (outs := o_law_digit) (ok_law_digit T) (hr.mono (by decide)) (by rfl) T.law_digit.g T.law_digit.f.kp T.law_digit.b pass0 (arg := (x300.2, v_far_292)) (fun (b303 : (Int × (List Int))) => [.own 1 ((oL D.int) b303.2), .val (D.int a.2), .val (D.int v_far_292)]) (ja_s 0 (ja_p (jp_var 2) ja_nil)) hB) (fun y302 => od_add)) (fun x305 => ja_nil)))) hB)))))))
/-! law_point -/
abbrev s_law_point : Stmt := topS 27
theorem sc_law_point : FnScope ["_law_pot_here", "_law_points_here", "_law_mode", "_law_p", "_law_q", "_law_part"] ["_law_pot_here", "_law_points_here", "_law_mode"] (defScope s_law_point) := ⟨rfl, rfl, rfl, by decide +kernel, rfl, by decide +kernel, by decide +kernel⟩
noncomputable def mb_law_point (v_pot_here : (List Int)) (v_points_here : (List ((Int × Int) × (Int × Int)))) (v_mode : Int) : R (Fl Unit Unit (((Int × Int) × (Int × Int)) × (List Int))) :=
(bindF (((R.ok ()).bind fun (y107 : Unit) => if (decide (v_mode < (2 : Int))) = true then ((R.ok ()).bind fun (y110 : Unit) => if (decide (((List.length v_points_here : Nat) : Int) > (1 : Int))) = true then ((m_law_digit (v_pot_here, (4 : Int))).bind fun (y115 : (Int × (List Int))) => R.ok ((decide (y115.1 = (0 : Int))), y115.2)) else (R.ok (false, v_pot_here))) else (R.ok (false, v_pot_here))).bind fun (b116 : (Bool × (List Int))) => if b116.1 = true then (((m_law_digit (b116.2, ((List.length v_points_here : Nat) : Int))).bind fun (y118 : (Int × (List Int))) => (R.some (atI v_points_here y118.1)).bind fun (z120 : ((Int × Int) × (Int × Int))) => R.ok (y118, z120)).bind fun (b122 : ((Int × (List Int)) × ((Int × Int) × (Int × Int)))) => lt b122.2 fun v_p_121 =>
(((m_law_digit (b122.1.2, ((List.length v_points_here : Nat) : Int))).bind fun (y124 : (Int × (List Int))) => (R.some (atI v_points_here y124.1)).bind fun (z126 : ((Int × Int) × (Int × Int))) => R.ok (y124, z126)).bind fun (b128 : ((Int × (List Int)) × ((Int × Int) × (Int × Int)))) => lt b128.2 fun v_q_127 =>
(((m_law_digit (b128.1.2, (4 : Int))).bind fun (y132 : (Int × (List Int))) => (R.some (atI [((1 : Int), (2 : Int)), ((2 : Int), (1 : Int)), ((-(1 : Int)), (1 : Int)), ((1 : Int), (3 : Int))] y132.1)).bind fun (z134 : (Int × Int)) => R.ok (y132, z134)).bind fun (b136 : ((Int × (List Int)) × (Int × Int))) => lt b136.2 fun v_part_135 =>
(((m_law_between (v_p_121.1, v_q_127.1, v_part_135)).bind fun (x243 : (Int × Int)) => (m_law_between (v_p_121.2, v_q_127.2, v_part_135)).bind fun (z249 : (Int × Int)) => R.ok (x243, z249)).bind fun (b250 : ((Int × Int) × (Int × Int))) => R.ok (.rt ((b250.1, b250.2), b136.1.2)))))) else (R.ok (.nx b116.2))) fun n251 =>
(((m_law_number (n251, v_mode)).bind fun (x311 : ((Int × Int) × (List Int))) => (m_law_number (x311.2, v_mode)).bind fun (z314 : ((Int × Int) × (List Int))) => R.ok (x311, z314)).bind fun (b315 : (((Int × Int) × (List Int)) × ((Int × Int) × (List Int)))) => R.ok (.rt ((b315.1.1, b315.2.1), b315.2.2))))
noncomputable def m_law_point (a : ((List Int) × (List ((Int × Int) × (Int × Int))) × Int)) : R (((Int × Int) × (Int × Int)) × (List Int)) := fin0 (mb_law_point a.1 a.2.1 a.2.2)
abbrev i_law_point (a : ((List Int) × (List ((Int × Int) × (Int × Int))) × Int)) : List Slot := [.own 1 ((oL D.int) a.1), .val ((eL (eP2 (eP2 D.int D.int) (eP2 D.int D.int))) a.2.1), .val (D.int a.2.2)]
abbrev l_law_point (b : (((Int × Int) × (Int × Int)) × (List Int))) : Slot := .val ((eP2 (eP2 D.int D.int) (eP2 D.int D.int)) b.1)
abbrev o_law_point (b : (((Int × Int) × (Int × Int)) × (List Int))) : List Slot := [.own 1 ((oL D.int) b.2), .non, .non]
theorem ok_law_point {P : Program} {w : World} {K : PySem.W.Frag} {mg : Str → Option Value} {base : Heap} (T : Top K mg) : FnG P w K mg base CX0 4 T.law_point.a T.law_point.d ["_law_pot_here", "_law_points_here", "_law_mode"] (spM K i_law_point m_law_point l_law_point o_law_point) := by
  show FnG P w K mg base CX0 (3 + 1) T.law_point.a T.law_point.d ["_law_pot_here", "_law_points_here", "_law_mode"] (spM K i_law_point (fun (a : ((List Int) × (List ((Int × Int) × (Int × Int))) × Int)) => fin0 (mb_law_point a.1 a.2.1 a.2.2)) l_law_point o_law_point)
  refine fn_ok (n1 := fun _ => []) (c1 := fun _ => []) (k1 := fun _ => []) (ins := i_law_point) (sl := l_law_point) (outs := o_law_point) (fun (a : ((List Int) × (List ((Int × Int) × (Int × Int))) × Int)) => mb_law_point a.1 a.2.1 a.2.2) 3 T.law_point.f sc_law_point rfl (fun _ => rfl) (fun _ => rfl) (fun _ => rfl) (fun cdv A outer s H E hr B hB a => ?_)
  show JSs _ B _ _ (mb_law_point a.1 a.2.1 a.2.2) _
  unfold mb_law_point
  exact ((js_cons (ρ1 := fun (n251 : (List Int)) => [.own 1 ((oL D.int) n251), .val ((eL (eP2 (eP2 D.int D.int) (eP2 D.int D.int))) a.2.1), .val (D.int a.2.2), .non, .non, .non]) (js_if (jt_w (jw_andS (xa := fun (y107 : Unit) => (decide (a.2.2 < (2 : Int)))) (fun (y107 : Unit) => a.1) (fun (s104 : (List Int)) => [.own 1 ((oL D.int) s104), .val ((eL (eP2 (eP2 D.int D.int) (eP2 D.int D.int))) a.2.1), .val (D.int a.2.2), .non, .non, .non]) (jt_op (fun _ _ ha hb => pt_cmpR op_lt ha hb (nomark _)) (jp_var 2) jp_int od_lt) (fun y107 => (jw_andS (xa := fun (y110 : Unit) => (decide (((List.length a.2.1 : Nat) : Int) > (1 : Int)))) (fun (y110 : Unit) => a.1) (fun (s104 : (List Int)) => [.own 1 ((oL D.int) s104), .val ((eL (eP2 (eP2 D.int D.int) (eP2 D.int D.int))) a.2.1), .val (D.int a.2.2), .non, .non, .non]) (jt_op (fun _ _ ha hb => pt_cmpR op_gt ha hb (nomark _)) (je_cb (fun _ ht => pe_callB call_len_seq (by rfl) T.z_len (by decide +kernel) ht) (ja_p (jp_var 1) ja_nil) cb_lenLm) jp_int od_gt) (fun y110 => (jw_and1 (jt_mapS (bn := fun (y115 : (Int × (List Int))) => (decide (y115.1 = (0 : Int)))) (st := fun (y115 : (Int × (List Int))) => y115.2) (ρS := (fun (s104 : (List Int)) => [.own 1 ((oL D.int) s104), .val ((eL (eP2 (eP2 D.int D.int) (eP2 D.int D.int))) a.2.1), .val (D.int a.2.2), .non, .non, .non])) (jt_opL (bn := fun (x112 : (Int × (List Int))) => (decide (x112.1 = (0 : Int)))) (xa := fun (x112 : (Int × (List Int))) => D.int x112.1) (y := fun (x112 : (Int × (List Int))) => D.int (0 : Int)) (fun _ _ ha hb => pt_cmpR op_eq ha hb (nomark _)) (je_callQ (ins := i_law_digit) (mf := m_law_digit) (sl := l_law_digit) (outs := o_law_digit) (ok_law_digit T) (hr.mono (by decide)) (by rfl) T.law_digit.g T.law_digit.f.kp T.law_digit.b pass0 (arg := (a.1, (4 : Int))) (fun (b111 : (Int × (List Int))) => [.own 1 ((oL D.int) b111.2), .val ((eL (eP2 (eP2 D.int D.int) (eP2 D.int D.int))) a.2.1), .val (D.int a.2.2), .non, .non, .non]) (ja_s 0 (ja_p jp_int ja_nil)) hB) (fun x112 => jp_int) (fun x112 => od_eqI))))))))) (fun b116 => (js_setEQ 3 (eP2 (eP2 D.int D.int) (eP2 D.int D.int)) (fun (b122 : ((Int × (List Int)) × ((Int × Int) × (Int × Int)))) => b122.2) (fun (b122 : ((Int × (List Int)) × ((Int × Int) × (Int × Int)))) (v_p_121 : ((Int × Int) × (Int × Int))) => [.own 1 ((oL D.int) b122.1.2), .val ((eL (eP2 (eP2 D.int D.int) (eP2 D.int D.int))) a.2.1), .val (D.int a.2.2), .val ((eP2 (eP2 D.int D.int) (eP2 D.int D.int)) v_p_121), .non, .non]) sc_law_point.nd (je_opRG (s := fun (y118 : (Int × (List Int))) (z120 : ((Int × Int) × (Int × Int))) => (.val ((eP2 (eP2 D.int D.int) (eP2 D.int D.int)) z120))) (xb := fun (y118 : (Int × (List Int))) => D.int y118.1) (fun _ _ ha hb => pe_ix ix_list ha hb (fun _ _ => rfl)) (jp_var 1) (je_callQ (ins := i_law_digit) (mf := m_law_digit) (sl := l_law_digit) (outs := o_law_digit) (ok_law_digit T) (hr.mono (by decide)) (by rfl) T.law_digit.g T.law_digit.f.kp T.law_digit.b pass0 (arg := (b116.2, ((List.length a.2.1 : Nat) : Int))) (fun (b119 : (Int × (List Int))) => [.own 1 ((oL D.int) b119.2), .val ((eL (eP2 (eP2 D.int D.int) (eP2 D.int D.int))) a.2.1), .val (D.int a.2.2), .non, .non, .non]) (ja_s 0 (ja_p (je_cb (fun _ ht => pe_callB call_len_seq (by rfl) T.z_len (by decide +kernel) ht) (ja_p (jp_var 1) ja_nil) cb_lenLm) ja_nil)) hB) (fun y118 => od_ixLm)) fun b122 v_p_121 =>
(js_setEQ 4 (eP2 (eP2 D.int D.int) (eP2 D.int D.int)) (fun (b128 : ((Int × (List Int)) × ((Int × Int) × (Int × Int)))) => b128.2) (fun (b128 : ((Int × (List Int)) × ((Int × Int) × (Int × Int)))) (v_q_127 : ((Int × Int) × (Int × Int))) => [.own 1 ((oL D.int) b128.1.2), .val ((eL (eP2 (eP2 D.int D.int) (eP2 D.int D.int))) a.2.1), .val (D.int a.2.2), .val ((eP2 (eP2 D.int D.int) (eP2 D.int D.int)) v_p_121), .val ((eP2 (eP2 D.int D.int) (eP2 D.int D.int)) v_q_127), .non]) sc_law_point.nd (je_opRG (s := fun (y124 : (Int × (List Int))) (z126 : ((Int × Int) × (Int × Int))) => (.val ((eP2 (eP2 D.int D.int) (eP2 D.int D.int)) z126))) (xb := fun (y124 : (Int × (List Int))) => D.int y124.1) (fun _ _ ha hb => pe_ix ix_list ha hb (fun _ _ => rfl)) (jp_var 1) (je_callQ (ins := i_law_digit) (mf := m_law_digit) (sl := l_law_digit) (outs := o_law_digit) (ok_law_digit T) (hr.mono (by decide)) (by rfl) T.law_digit.g T.law_digit.f.kp T.law_digit.b pass0 (arg := (b122.1.2, ((List.length a.2.1 : Nat) : Int))) (fun (b125 : (Int × (List Int))) => [.own 1 ((oL D.int) b125.2), .val ((eL (eP2 (eP2 D.int D.int) (eP2 D.int D.int))) a.2.1), .val (D.int a.2.2), .val ((eP2 (eP2 D.int D.int) (eP2 D.int D.int)) v_p_121), .non, .non]) (ja_s 0 (ja_p (je_cb (fun _ ht => pe_callB call_len_seq (by rfl) T.z_len (by decide +kernel) ht) (ja_p (jp_var 1) ja_nil) cb_lenLm) ja_nil)) hB) (fun y124 => od_ixLm)) fun b128 v_q_127 =>
(js_setEQ 5 (eP2 D.int D.int) (fun (b136 : ((Int × (List Int)) × (Int × Int))) => b136.2) (fun (b136 : ((Int × (List Int)) × (Int × Int))) (v_part_135 : (Int × Int)) => [.own 1 ((oL D.int) b136.1.2), .val ((eL (eP2 (eP2 D.int D.int) (eP2 D.int D.int))) a.2.1), .val (D.int a.2.2), .val ((eP2 (eP2 D.int D.int) (eP2 D.int D.int)) v_p_121), .val ((eP2 (eP2 D.int D.int) (eP2 D.int D.int)) v_q_127), .val ((eP2 D.int D.int) v_part_135)]) sc_law_point.nd (je_opRG (s := fun (y132 : (Int × (List Int))) (z134 : (Int × Int)) => (.val ((eP2 D.int D.int) z134))) (xb := fun (y132 : (Int × (List Int))) => D.int y132.1) (fun _ _ ha hb => pe_ix ix_list ha hb (fun _ _ => rfl)) (je_frzL (v := fun (b130 : Unit) => [((1 : Int), (2 : Int)), ((2 : Int), (1 : Int)), ((-(1 : Int)), (1 : Int)), ((1 : Int), (3 : Int))]) (je_lstT (eP2 D.int D.int) (fun (b129 : Unit) => ([((1 : Int), (2 : Int)), ((2 : Int), (1 : Int)), ((-(1 : Int)), (1 : Int)), ((1 : Int), (3 : Int))] : List (Int × Int))) (ja_p (je_tup (ja_p jp_int (ja_p jp_int ja_nil))) (ja_p (je_tup (ja_p jp_int (ja_p jp_int ja_nil))) (ja_p (je_tup (ja_p (jp_neg jp_int) (ja_p jp_int ja_nil))) (ja_p (je_tup (ja_p jp_int (ja_p jp_int ja_nil))) ja_nil)))))) (je_callQ (ins := i_law_digit) (mf := m_law_digit) (sl := l_law_digit) (outs := o_law_digit) (ok_law_digit T) (hr.mono (by decide)) (by rfl) T.law_digit.g T.law_digit.f.kp T.law_digit.b pass0 (arg := (b128.1.2, (4 : Int))) (fun (b133 : (Int × (List Int))) => [.own 1 ((oL D.int) b133.2), .val ((eL (eP2 (eP2 D.int D.int) (eP2 D.int D.int))) a.2.1), .val (D.int a.2.2), .val ((eP2 (eP2 D.int D.int) (eP2 D.int D.int)) v_p_121), .val ((eP2 (eP2 D.int D.int) (eP2 D.int D.int)) v_q_127), .non]) (ja_s 0 (ja_p jp_int ja_nil)) hB) (fun y132 => od_ixLm)) fun b136 v_part_135 =>
(js_one (js_ret (fun (b250 : ((Int × Int) × (Int × Int))) => ((b250.1, b250.2), b136.1.2)) [true, false, false, false, false, false] (je_tup (ja_e (ρ' := fun _ _ => _) (ρa := fun _ => _) (xa := fun (x243 : (Int × Int)) => (eP2 D.int D.int) x243) (je_callV (ins := i_law_between) (mf := m_law_between) (sl := l_law_between) (outs := o_law_between) (ok_law_between T) (hr.mono (by decide)) (by rfl) T.law_between.g T.law_between.f.kp T.law_between.b pass0 (arg := (v_p_121.1, v_q_127.1, v_part_135)) (ja_p (je_op (fun _ _ ha hb => pe_ix ix_tup ha hb (fun _ _ => rfl)) (jp_var 3) jp_int (od_ixTs rfl)) (ja_p (je_op (fun _ _ ha hb => pe_ix ix_tup ha hb (fun _ _ => rfl)) (jp_var 4) jp_int (od_ixTs rfl)) (ja_p (jp_var 5) ja_nil))) hB) (fun x243 => (ja_el (ρa := fun _ => _) (xa := fun (x248 : (Int × Int)) => (eP2 D.int D.int) x248) (je_callV (ins := i_law_between) (mf := m_law_between) (sl := l_law_between) (outs := o_law_between) (ok_law_between T) (hr.mono (by decide)) (by rfl) T.law_between.g T.law_between.f.kp T.law_between.b pass0 (arg := (v_p_121.2, v_q_127.2, v_part_135)) (ja_p (je_op (fun _ _ ha hb => pe_ix ix_tup ha hb (fun _ _ => rfl)) (jp_var 3) jp_int (od_ixTs rfl)) (ja_p (je_op (fun _ _ ha hb => pe_ix ix_tup ha hb (fun _ _ => rfl)) (jp_var 4) jp_int (od_ixTs rfl)) (ja_p (jp_var 5) ja_nil))) hB) (fun x248 => ja_nil))))))))))) (fun b116 => (js_nil [true, true, true, true, true, true] b116.2))) fun n251 =>
(js_one (js_ret (fun (b315 : (((Int × Int) × (List Int)) × ((Int × Int) × (List Int)))) => ((b315.1.1, b315.2.1), b315.2.2)) [true, false, false, true, true, true] (je_tup (ja_e (xa := fun (x311 : ((Int × Int) × (List Int))) => (eP2 D.int D.int) x311.1) (je_callQ (ins := i_law_number) (mf := m_law_number) (sl := l_law_number) (outs := o_law_number) (ok_law_number T) (hr.mono (by decide)) (by rfl) T.law_number.g T.law_number.f.kp T.law_number.b pass0 (arg := (n251, a.2.2)) (fun (b310 : ((Int × Int) × (List Int))) => [.own 1 ((oL D.int) b310.2), .val ((eL (eP2 (eP2 D.int D.int) (eP2 D.int D.int))) a.2.1), .val (D.int a.2.2), .non, .non, .non]) (ja_s 0 (ja_p (jp_var 2) ja_nil)) hB) (fun x311 => (ja_el (xa := fun (x313 : ((Int × Int) × (List Int))) => (eP2 D.int D.int) x313.1) (je_callQ (ins := i_law_number) (mf := m_law_number) (sl := l_law_number) (outs := o_law_number) (ok_law_number T) (hr.mono (by decide)) (by rfl) T.law_number.g T.law_number.f.kp T.law_number.b pass0 (arg := (x311.2, a.2.2)) (fun (b312 : ((Int × Int) × (List Int))) => [.own 1 ((oL D.int) b312.2), .val ((eL (eP2 (eP2 D.int D.int) (eP2 D.int D.int))) a.2.1), .val (D.int a.2.2), .non, .non, .non]) (ja_s 0 (ja_p (jp_var 2) ja_nil)) hB) (fun x313 => ja_nil)))))))))
/-! law_points -/
abbrev s_law_points : Stmt := topS 28
theorem sc_law_points : FnScope ["_law_pot_here", "_law_many", "_law_mode", "_law_found", "_law_k", "_law_point_here"] ["_law_pot_here", "_law_many"] (defScope s_law_points) := ⟨rfl, rfl, rfl, by decide +kernel, rfl, by decide +kernel, by decide +kernel⟩
noncomputable def mb_law_points (v_pot_here : (List Int)) (v_many : Int) : R (Fl Unit Unit ((List ((Int × Int) × (Int × Int))) × (List Int))) :=
((m_law_digit (v_pot_here, (3 : Int))).bind fun (b81 : (Int × (List Int))) => lt b81.1 fun v_mode_80 =>
((R.ok ()).bind fun (b83 : Unit) => lt ([] : List ((Int × Int) × (Int × Int))) fun v_found_82 =>
(bindF ((R.guard (rngOk v_many)).bind fun (b84 : Unit) => forR (fun (x87 : Int) (s85 : ((List Int) × (List ((Int × Int) × (Int × Int))))) =>
((m_law_point (s85.1, s85.2, v_mode_80)).bind fun (b320 : (((Int × Int) × (Int × Int)) × (List Int))) => lt b320.1 fun v_point_here_319 =>
(bindF (((R.ok ()).bind fun (y342 : Unit) => if (hasL v_point_here_319 s85.2) = true then ((m_law_digit (b320.2, (8 : Int))).bind fun (y347 : (Int × (List Int))) => R.ok ((decide (y347.1 > (0 : Int))), y347.2)) else (R.ok (false, b320.2))).bind fun (b348 : (Bool × (List Int))) => if b348.1 = true then (((m_law_plus (v_point_here_319.1, ((x87 + (1 : Int)), ((7 : Int) + x87)))).bind fun (x385 : (Int × Int)) => (m_law_plus (v_point_here_319.2, ((1 : Int), ((11 : Int) + x87)))).bind fun (z391 : (Int × Int)) => R.ok (x385, z391)).bind fun (b393 : ((Int × Int) × (Int × Int))) => lt (b393.1, b393.2) fun v_point_here_392 =>
(R.ok (.nx (b348.2, v_point_here_392)))) else (R.ok (.nx (b348.2, v_point_here_319)))) fun n394 =>
(((R.ok ()).bind fun (b395 : Unit) => (R.guard (List.length s85.2 < sizeLine)).bind fun _ => R.ok b395).bind fun (b396 : Unit) =>
(R.ok (.nx (n394.1, (s85.2 ++ [n394.2])))))))) (rng 0 v_many) (b81.2, v_found_82)) fun n86 =>
(R.ok (.rt (n86.2, n86.1))))))
noncomputable def m_law_points (a : ((List Int) × Int)) : R ((List ((Int × Int) × (Int × Int))) × (List Int)) := fin0 (mb_law_points a.1 a.2)
abbrev i_law_points (a : ((List Int) × Int)) : List Slot := [.own 1 ((oL D.int) a.1), .val (D.int a.2)]
abbrev l_law_points (b : ((List ((Int × Int) × (Int × Int))) × (List Int))) : Slot := .val ((eT (eP2 (eP2 D.int D.int) (eP2 D.int D.int))) b.1)
abbrev o_law_points (b : ((List ((Int × Int) × (Int × Int))) × (List Int))) : List Slot := [.own 1 ((oL D.int) b.2), .non]
theorem ok_law_points {P : Program} {w : World} {K : PySem.W.Frag} {mg : Str → Option Value} {base : Heap} (T : Top K mg) : FnG P w K mg base CX0 5 T.law_points.a T.law_points.d ["_law_pot_here", "_law_many"] (spM K i_law_points m_law_points l_law_points o_law_points) := by
  show FnG P w K mg base CX0 (4 + 1) T.law_points.a T.law_points.d ["_law_pot_here", "_law_many"] (spM K i_law_points (fun (a : ((List Int) × Int)) => fin0 (mb_law_points a.1 a.2)) l_law_points o_law_points)
  refine fn_ok (n1 := fun _ => []) (c1 := fun _ => []) (k1 := fun _ => []) (ins := i_law_points) (sl := l_law_points) (outs := o_law_points) (fun (a : ((List Int) × Int)) => mb_law_points a.1 a.2) 4 T.law_points.f sc_law_points rfl (fun _ => rfl) (fun _ => rfl) (fun _ => rfl) (fun cdv A outer s H E hr B hB a => ?_)
  show JSs _ B _ _ (mb_law_points a.1 a.2) _
  unfold mb_law_points
  exact ((js_setEQ 2 D.int (fun (b81 : (Int × (List Int))) => b81.1) (fun (b81 : (Int × (List Int))) (v_mode_80 : Int) => [.own 1 ((oL D.int) b81.2), .val (D.int a.2), .val (D.int v_mode_80), .non, .non, .non]) sc_law_points.nd (je_callQ (ins := i_law_digit) (mf := m_law_digit) (sl := l_law_digit) (outs := o_law_digit) (ok_law_digit T) (hr.mono (by decide)) (by rfl) T.law_digit.g T.law_digit.f.kp T.law_digit.b pass0 (arg := (a.1, (3 : Int))) (fun (b79 : (Int × (List Int))) => [.own 1 ((oL D.int) b79.2), .val (D.int a.2), .non, .non, .non, .non]) (ja_s 0 (ja_p jp_int ja_nil)) hB) fun b81 v_mode_80 =>
(js_setOQ 3 (oL (eP2 (eP2 D.int D.int) (eP2 D.int D.int))) (fun (b83 : Unit) => ([] : List ((Int × Int) × (Int × Int)))) (fun (b83 : Unit) (v_found_82 : (List ((Int × Int) × (Int × Int)))) => [.own 1 ((oL D.int) b81.2), .val (D.int a.2), .val (D.int v_mode_80), .own 0 ((oL (eP2 (eP2 D.int D.int) (eP2 D.int D.int))) v_found_82), .non, .non]) sc_law_points.nd (je_lstT (eP2 (eP2 D.int D.int) (eP2 D.int D.int)) (fun (_ : Unit) => ([] : List ((Int × Int) × (Int × Int)))) ja_nil) fun b83 v_found_82 =>
(js_cons (ρ1 := fun (n86 : ((List Int) × (List ((Int × Int) × (Int × Int))))) => [.own 1 ((oL D.int) n86.1), .val (D.int a.2), .val (D.int v_mode_80), .own 0 ((oL (eP2 (eP2 D.int D.int) (eP2 D.int D.int))) n86.2), .non, .non]) (js_for (en := D.int) (xs := fun (b84 : Unit) => (rng 0 a.2)) (s0 := fun (b84 : Unit) => (b81.2, v_found_82)) (fun (s85 : ((List Int) × (List ((Int × Int) × (Int × Int))))) => [.own 1 ((oL D.int) s85.1), .val (D.int a.2), .val (D.int v_mode_80), .own 0 ((oL (eP2 (eP2 D.int D.int) (eP2 D.int D.int))) s85.2), .non, .non]) (fun (x87 : Int) (s85 : ((List Int) × (List ((Int × Int) × (Int × Int))))) => [.own 1 ((oL D.int) s85.1), .val (D.int a.2), .val (D.int v_mode_80), .own 0 ((oL (eP2 (eP2 D.int D.int) (eP2 D.int D.int))) s85.2), .val (D.int x87), .non]) PassesOwn.never rfl (ji_rng1P (i := a.2) T.z_range (ja_p (jp_var 1) ja_nil)) [true, true, true, true, true, true] (fun _ => rfl) (fun x87 s85 => (jg_name 4 sc_law_points.nd)) (fun x87 s85 =>
(js_setEQ 5 (eP2 (eP2 D.int D.int) (eP2 D.int D.int)) (fun (b320 : (((Int × Int) × (Int × Int)) × (List Int))) => b320.1) (fun (b320 : (((Int × Int) × (Int × Int)) × (List Int))) (v_point_here_319 : ((Int × Int) × (Int × Int))) => [.own 1 ((oL D.int) b320.2), .val (D.int a.2), .val (D.int v_mode_80), .own 0 ((oL (eP2 (eP2 D.int D.int) (eP2 D.int D.int))) s85.2), .val (D.int x87), .val ((eP2 (eP2 D.int D.int) (eP2 D.int D.int)) v_point_here_319)]) sc_law_points.nd (je_bor 3 (d := (eL (eP2 (eP2 D.int D.int) (eP2 D.int D.int))) s85.2) (ρ1 := fun (b317 : (((Int × Int) × (Int × Int)) × (List Int))) => [.own 1 ((oL D.int) b317.2), .val (D.int a.2), .val (D.int v_mode_80), .val ((eL (eP2 (eP2 D.int D.int) (eP2 D.int D.int))) s85.2), .val (D.int x87), .non]) (ρ2 := fun (b317 : (((Int × Int) × (Int × Int)) × (List Int))) => [.own 1 ((oL D.int) b317.2), .val (D.int a.2), .val (D.int v_mode_80), .non, .val (D.int x87), .non]) (ρ' := fun (b317 : (((Int × Int) × (Int × Int)) × (List Int))) => [.own 1 ((oL D.int) b317.2), .val (D.int a.2), .val (D.int v_mode_80), .own 0 ((oL (eP2 (eP2 D.int D.int) (eP2 D.int D.int))) s85.2), .val (D.int x87), .non]) (sl := fun (b317 : (((Int × Int) × (Int × Int)) × (List Int))) => .val ((eP2 (eP2 D.int D.int) (eP2 D.int D.int)) b317.1)) rfl (toD_oL _ _) (fun _ hB318 => (have hB := noRs hB318 hB; (je_callQ (ins := i_law_point) (mf := m_law_point) (sl := l_law_point) (outs := o_law_point) (ok_law_point T) (hr.mono (by decide)) (by rfl) T.law_point.g T.law_point.f.kp T.law_point.b pass0 (arg := (s85.1, s85.2, v_mode_80)) (fun (b316 : (((Int × Int) × (Int × Int)) × (List Int))) => [.own 1 ((oL D.int) b316.2), .val (D.int a.2), .val (D.int v_mode_80), .val ((eL (eP2 (eP2 D.int D.int) (eP2 D.int D.int))) s85.2), .val (D.int x87), .non]) (ja_s 0 (ja_p (jp_var 3) (ja_p (jp_var 2) ja_nil))) hB))) (fun (b317 : (((Int × Int) × (Int × Int)) × (List Int))) => (.cons (.o (fl_oL fl_int b317.2)) (.cons .k (.cons .k (.cons .f (.cons .k (.cons .f .nil))))))) (fun (b317 : (((Int × Int) × (Int × Int)) × (List Int))) => (fl_P2 (fl_P2 fl_int fl_int) (fl_P2 fl_int fl_int)) b317.1) (fun _ => rfl)) fun b320 v_point_here_319 =>
(js_cons (ρ1 := fun (n394 : ((List Int) × ((Int × Int) × (Int × Int)))) => [.own 1 ((oL D.int) n394.1), .val (D.int a.2), .val (D.int v_mode_80), .own 0 ((oL (eP2 (eP2 D.int D.int) (eP2 D.int D.int))) s85.2), .val (D.int x87), .val ((eP2 (eP2 D.int D.int) (eP2 D.int D.int)) n394.2)]) (js_if (jt_w (jw_andS (xa := fun (y342 : Unit) => (hasL v_point_here_319 s85.2)) (fun (y342 : Unit) => b320.2) (fun (s337 : (List Int)) => [.own 1 ((oL D.int) s337), .val (D.int a.2), .val (D.int v_mode_80), .own 0 ((oL (eP2 (eP2 D.int D.int) (eP2 D.int D.int))) s85.2), .val (D.int x87), .val ((eP2 (eP2 D.int D.int) (eP2 D.int D.int)) v_point_here_319)]) (jt_bor 3 (d := (eL (eP2 (eP2 D.int D.int) (eP2 D.int D.int))) s85.2) (ρ1 := fun (b340 : Unit) => [.own 1 ((oL D.int) b320.2), .val (D.int a.2), .val (D.int v_mode_80), .val ((eL (eP2 (eP2 D.int D.int) (eP2 D.int D.int))) s85.2), .val (D.int x87), .val ((eP2 (eP2 D.int D.int) (eP2 D.int D.int)) v_point_here_319)]) (ρ2 := fun (b340 : Unit) => [.own 1 ((oL D.int) b320.2), .val (D.int a.2), .val (D.int v_mode_80), .non, .val (D.int x87), .val ((eP2 (eP2 D.int D.int) (eP2 D.int D.int)) v_point_here_319)]) (ρ' := fun (b340 : Unit) => [.own 1 ((oL D.int) b320.2), .val (D.int a.2), .val (D.int v_mode_80), .own 0 ((oL (eP2 (eP2 D.int D.int) (eP2 D.int D.int))) s85.2), .val (D.int x87), .val ((eP2 (eP2 D.int D.int) (eP2 D.int D.int)) v_point_here_319)]) (bn := fun (b340 : Unit) => (hasL v_point_here_319 s85.2)) rfl (toD_oL _ _) (fun _ hB341 => (have hB := noRs hB341 hB; (jt_op (fun _ _ ha hb => pt_cmpR (op_inD (un65 hr)) ha hb (by rfl)) (jp_var 5) (jp_var 3) (od_inL (ee_p2 (ee_p2 ee_int ee_int) (ee_p2 ee_int ee_int)))))) (fun (b340 : Unit) => (.cons (.o (fl_oL fl_int b320.2)) (.cons .k (.cons .k (.cons .f (.cons .k (.cons .k .nil))))))) (fun _ => rfl)) (fun y342 => (jw_and1 (jt_mapS (bn := fun (y347 : (Int × (List Int))) => (decide (y347.1 > (0 : Int)))) (st := fun (y347 : (Int × (List Int))) => y347.2) (ρS := (fun (s337 : (List Int)) => [.own 1 ((oL D.int) s337), .val (D.int a.2), .val (D.int v_mode_80), .own 0 ((oL (eP2 (eP2 D.int D.int) (eP2 D.int D.int))) s85.2), .val (D.int x87), .val ((eP2 (eP2 D.int D.int) (eP2 D.int D.int)) v_point_here_319)])) (jt_opL (bn := fun (x344 : (Int × (List Int))) => (decide (x344.1 > (0 : Int)))) (xa := fun (x344 : (Int × (List Int))) => D.int x344.1) (y := fun (x344 : (Int × (List Int))) => D.int (0 : Int)) (fun _ _ ha hb => pt_cmpR op_gt ha hb (nomark _)) (je_callQ (ins := i_law_digit) (mf := m_law_digit) (sl := l_law_digit) (outs := o_law_digit) (ok_law_digit T) (hr.mono (by decide)) (by rfl) T.law_digit.g T.law_digit.f.kp T.law_digit.b pass0 (arg := (b320.2, (8 : Int))) (fun (b343 : (Int × (List Int))) => [.own 1 ((oL D.int) b343.2), .val (D.int a.2), .val (D.int v_mode_80), .own 0 ((oL (eP2 (eP2 D.int D.int) (eP2 D.int D.int))) s85.2), .val (D.int x87), .val ((eP2 (eP2 D.int D.int) (eP2 D.int D.int)) v_point_here_319)]) (ja_s 0 (ja_p jp_int ja_nil)) hB) (fun x344 => jp_int) (fun x344 => od_gt))))))) (fun b348 => (js_setEQ 5 (eP2 (eP2 D.int D.int) (eP2 D.int D.int)) (fun (b393 : ((Int × Int) × (Int × Int))) => (b393.1, b393.2)) (fun (b393 : ((Int × Int) × (Int × Int))) (v_point_here_392 : ((Int × Int) × (Int × Int))) => [.own 1 ((oL D.int) b348.2), .val (D.int a.2), .val (D.int v_mode_80), .own 0 ((oL (eP2 (eP2 D.int D.int) (eP2 D.int D.int))) s85.2), .val (D.int x87), .val ((eP2 (eP2 D.int D.int) (eP2 D.int D.int)) v_point_here_392)]) sc_law_points.nd (je_tup (ja_e (ρ' := fun _ _ => _) (ρa := fun _ => _) (xa := fun (x385 : (Int × Int)) => (eP2 D.int D.int) x385) (je_callV (ins := i_law_plus) (mf := m_law_plus) (sl := l_law_plus) (outs := o_law_plus) (ok_law_plus T) (hr.mono (by decide)) (by rfl) T.law_plus.g T.law_plus.f.kp T.law_plus.b pass0 (arg := (v_point_here_319.1, ((x87 + (1 : Int)), ((7 : Int) + x87)))) (ja_p (je_op (fun _ _ ha hb => pe_ix ix_tup ha hb (fun _ _ => rfl)) (jp_var 5) jp_int (od_ixTs rfl)) (ja_p (je_tup (ja_p (je_op (fun _ _ ha hb => pe_op op_add ha hb) (jp_var 4) jp_int od_add) (ja_p (je_op (fun _ _ ha hb => pe_op op_add ha hb) jp_int (jp_var 4) od_add) ja_nil))) ja_nil)) hB) (fun x385 => (ja_el (ρa := fun _ => _) (xa := fun (x390 : (Int × Int)) => (eP2 D.int D.int) x390) (je_callV (ins := i_law_plus) (mf := m_law_plus) (sl := l_law_plus) (outs := o_law_plus) (ok_law_plus T) (hr.mono (by decide)) (by rfl) T.law_plus.g T.law_plus.f.kp T.law_plus.b pass0 (arg := (v_point_here_319.2, ((1 : Int), ((11 : Int) + x87)))) (ja_p (je_op (fun _ _ ha hb => pe_ix ix_tup ha hb (fun _ _ => rfl)) (jp_var 5) jp_int (od_ixTs rfl)) (ja_p (je_tup (ja_p jp_int (ja_p (je_op (fun _ _ ha hb => pe_op op_add ha hb) jp_int (jp_var 4) od_add) ja_nil))) ja_nil)) hB) (fun x390 => ja_nil))))) fun b393 v_point_here_392 =>
(js_nil [true, true, true, true, true, true] (b348.2, v_point_here_392)))) (fun b348 => (js_nil [true, true, true, true, true, true] (b348.2, v_point_here_319)))) fun n394 =>
(js_consQ1 (fun (b396 : Unit) => [.own 1 ((oL D.int) n394.1), .val (D.int a.2), .val (D.int v_mode_80), .own 0 ((oL (eP2 (eP2 D.int D.int) (eP2 D.int D.int))) (s85.2 ++ [n394.2])), .val (D.int x87), .val ((eP2 (eP2 D.int D.int) (eP2 D.int D.int)) n394.2)]) (j1_expr (je_app 3 (f := (eP2 (eP2 D.int D.int) (eP2 D.int D.int))) (y := fun (b395 : Unit) => n394.2) (ρ' := fun (b395 : Unit) => [.own 1 ((oL D.int) n394.1), .val (D.int a.2), .val (D.int v_mode_80), .own 0 ((oL (eP2 (eP2 D.int D.int) (eP2 D.int D.int))) s85.2), .val (D.int x87), .val ((eP2 (eP2 D.int D.int) (eP2 D.int D.int)) n394.2)]) (fun (b395 : Unit) => s85.2) (jp_var 5))) fun b396 =>
(js_nil [true, true, true, true, false, false] (n394.1, (s85.2 ++ [n394.2])))))))) fun n86 =>
(js_one (js_retP (n86.2, n86.1) [true, false, false, false, true, true] (je_bor 3 (d := (eL (eP2 (eP2 D.int D.int) (eP2 D.int D.int))) n86.2) (ρ1 := fun (b397 : Unit) => [.own 1 ((oL D.int) n86.1), .val (D.int a.2), .val (D.int v_mode_80), .val ((eL (eP2 (eP2 D.int D.int) (eP2 D.int D.int))) n86.2), .non, .non]) (ρ2 := fun (b397 : Unit) => [.own 1 ((oL D.int) n86.1), .val (D.int a.2), .val (D.int v_mode_80), .non, .non, .non]) (ρ' := fun (b397 : Unit) => [.own 1 ((oL D.int) n86.1), .val (D.int a.2), .val (D.int v_mode_80), .own 0 ((oL (eP2 (eP2 D.int D.int) (eP2 D.int D.int))) n86.2), .non, .non]) (sl := fun (b397 : Unit) => .val ((eT (eP2 (eP2 D.int D.int) (eP2 D.int D.int))) n86.2)) rfl (toD_oL _ _) (fun _ hB398 => (have hB := noRs hB398 hB; (je_cb (fun _ ht => pe_callTy call_tuple_of (by rfl) T.z_tuple (by decide +kernel) ht) (ja_p (jp_var 3) ja_nil) cb_tupL))) (fun (b397 : Unit) => (.cons (.o (fl_oL fl_int n86.1)) (.cons .k (.cons .k (.cons .f (.cons .f (.cons .f .nil))))))) (fun (b397 : Unit) => (fl_T (fl_P2 (fl_P2 fl_int fl_int) (fl_P2 fl_int fl_int))) n86.2) (fun _ => rfl))))))))
/-! law_bow -/
abbrev s_law_bow : Stmt := topS 32
theorem sc_law_bow : FnScope ["_law_pot_here", "_law_many", "_law_left", "_law_found", "_law_at", "_law_k"] ["_law_pot_here", "_law_many"] (defScope s_law_bow) := ⟨rfl, rfl, rfl, by decide +kernel, rfl, by decide +kernel, by decide +kernel⟩
noncomputable def mb_law_bow (v_pot_here : (List Int)) (v_many : Int) : R (Fl Unit Unit ((List ((Int × Int) × (Int × Int))) × (List Int))) :=
((m_law_digit (v_pot_here, (9 : Int))).bind fun (b404 : (Int × (List Int))) => lt ((1 : Int) + b404.1) fun v_left_403 =>
(((R.guard (rngOk v_many)).bind fun (b405 : Unit) => (R.guard (List.length (rng 0 v_many) ≤ sizeLine)).bind fun _ => compR (compF (fun (x407 : Int) (s406 : (List Int)) => R.ok ()) (fun (z427 : Unit) => true) (fun (x407 : Int) (s406 : (List Int)) => ((((op2 (R.guard (CMulX x407 v_left_403)) (fun (x411 : Unit) => (m_law_digit (s406, (2 : Int)))) (fun (x411 : Unit) (y412 : (Int × (List Int))) => R.ok ())).bind fun (c415 : (Unit × (Int × (List Int)) × Unit)) => (m_law_low (((x407 * v_left_403) + c415.2.1.1), (3 : Int))).bind fun (z416 : (Int × Int)) => R.ok (c415, z416)).bind fun (x417 : ((Unit × (Int × (List Int)) × Unit) × (Int × Int))) => ((R.guard (CMulX x407 x407)).bind fun (x420 : Unit) => (R.guard (CMulX (x407 * x407) v_left_403)).bind fun (z422 : Unit) => R.ok (x420, z422)).bind fun (z425 : (Unit × Unit)) => R.ok (x417, z425)).bind fun (y426 : (((Unit × (Int × (List Int)) × Unit) × (Int × Int)) × (Unit × Unit))) => R.ok ((y426.1.2, (((x407 * x407) * v_left_403), (1 : Int))), y426.1.1.2.1.2))) Prod.fst Prod.snd) (rng 0 v_many) [] b404.2).bind fun (b429 : ((List ((Int × Int) × (Int × Int))) × (List Int))) => lt b429.1 fun v_found_430 =>
((m_law_digit (b429.2, v_many)).bind fun (b433 : (Int × (List Int))) => lt b433.1 fun v_at_432 =>
(bindF ((m_law_digit (b433.2, (3 : Int))).bind fun (b438 : (Int × (List Int))) => if (decide (b438.1 = (0 : Int))) = true then ((((R.some (atI v_found_430 v_at_432)).bind fun (x462 : ((Int × Int) × (Int × Int))) => (m_law_number (b438.2, (1 : Int))).bind fun (z465 : ((Int × Int) × (List Int))) => R.ok (x462, z465)).bind fun (b466 : (((Int × Int) × (Int × Int)) × ((Int × Int) × (List Int)))) => (R.some (ixN (List.length v_found_430) v_at_432)).bind fun (j467 : Nat) => R.ok (b466, j467)).bind fun (p468 : (((Int × Int) × (Int × Int)) × ((Int × Int) × (List Int))) × Nat) =>
(R.ok (.nx (p468.1.2.2, (List.set v_found_430 p468.2 (p468.1.1.1, p468.1.2.1)))))) else (R.ok (.nx (b438.2, v_found_430)))) fun n469 =>
(R.ok (.rt (n469.2, n469.1)))))))
noncomputable def m_law_bow (a : ((List Int) × Int)) : R ((List ((Int × Int) × (Int × Int))) × (List Int)) := fin0 (mb_law_bow a.1 a.2)
abbrev i_law_bow (a : ((List Int) × Int)) : List Slot := [.own 1 ((oL D.int) a.1), .val (D.int a.2)]
abbrev l_law_bow (b : ((List ((Int × Int) × (Int × Int))) × (List Int))) : Slot := .val ((eT (eP2 (eP2 D.int D.int) (eP2 D.int D.int))) b.1)
abbrev o_law_bow (b : ((List ((Int × Int) × (Int × Int))) × (List Int))) : List Slot := [.own 1 ((oL D.int) b.2), .non]
theorem ok_law_bow {P : Program} {w : World} {K : PySem.W.Frag} {mg : Str → Option Value} {base : Heap} (T : Top K mg) : FnG P w K mg base CX0 3 T.law_bow.a T.law_bow.d ["_law_pot_here", "_law_many"] (spM K i_law_bow m_law_bow l_law_bow o_law_bow) := by
  show FnG P w K mg base CX0 (2 + 1) T.law_bow.a T.law_bow.d ["_law_pot_here", "_law_many"] (spM K i_law_bow (fun (a : ((List Int) × Int)) => fin0 (mb_law_bow a.1 a.2)) l_law_bow o_law_bow)
  refine fn_ok (n1 := fun _ => []) (c1 := fun _ => []) (k1 := fun _ => []) (ins := i_law_bow) (sl := l_law_bow) (outs := o_law_bow) (fun (a : ((List Int) × Int)) => mb_law_bow a.1 a.2) 4 T.law_bow.f sc_law_bow rfl (fun _ => rfl) (fun _ => rfl) (fun _ => rfl) (fun cdv A outer s H E hr B hB a => ?_)
  show JSs _ B _ _ (mb_law_bow a.1 a.2) _
  unfold mb_law_bow
  exact ((js_setEQ 2 D.int (fun (b404 : (Int × (List Int))) => ((1 : Int) + b404.1)) (fun (b404 : (Int × (List Int))) (v_left_403 : Int) => [.own 1 ((oL D.int) b404.2), .val (D.int a.2), .val (D.int v_left_403), .non, .non, .non]) sc_law_bow.nd (je_opR (s := fun (y400 : (Int × (List Int))) => (.val (D.int ((1 : Int) + y400.1)))) (xb := fun (y400 : (Int × (List Int))) => D.int y400.1) (fun _ _ ha hb => pe_op op_add ha hb) jp_int (je_callQ (ins := i_law_digit) (mf := m_law_digit) (sl := l_law_digit) (outs := o_law_digit) (ok_law_digit T) (hr.mono (by decide)) (by rfl) T.law_digit.g T.law_digit.f.kp T.law_digit.b pass0 (arg := (a.1, (9 : Int))) (fun (b401 : (Int × (List Int))) => [.own 1 ((oL D.int) b401.2), .val (D.int a.2), .non, .non, .non, .non]) (ja_s 0 (ja_p jp_int ja_nil)) hB) (fun y400 => od_add)) fun b404 v_left_403 =>
(js_cons1 (j1_setLc 3 (xs := fun (b405 : Unit) => (rng 0 a.2)) (ea := D.int) (ts := [5]) (c := fun (x407 : Int) (s406 : (List Int)) => R.ok ()) (bn := fun (z427 : Unit) => true) (me := fun (x407 : Int) (s406 : (List Int)) => ((((op2 (R.guard (CMulX x407 v_left_403)) (fun (x411 : Unit) => (m_law_digit (s406, (2 : Int)))) (fun (x411 : Unit) (y412 : (Int × (List Int))) => R.ok ())).bind fun (c415 : (Unit × (Int × (List Int)) × Unit)) => (m_law_low (((x407 * v_left_403) + c415.2.1.1), (3 : Int))).bind fun (z416 : (Int × Int)) => R.ok (c415, z416)).bind fun (x417 : ((Unit × (Int × (List Int)) × Unit) × (Int × Int))) => ((R.guard (CMulX x407 x407)).bind fun (x420 : Unit) => (R.guard (CMulX (x407 * x407) v_left_403)).bind fun (z422 : Unit) => R.ok (x420, z422)).bind fun (z425 : (Unit × Unit)) => R.ok (x417, z425)).bind fun (y426 : (((Unit × (Int × (List Int)) × Unit) × (Int × Int)) × (Unit × Unit))) => R.ok ((y426.1.2, (((x407 * x407) * v_left_403), (1 : Int))), y426.1.1.2.1.2))) [("_law_k", 5)] (eP2 (eP2 D.int D.int) (eP2 D.int D.int)) (fun (s406 : (List Int)) => [.own 1 ((oL D.int) s406), .val (D.int a.2), .val (D.int v_left_403), .non, .non, .non]) (fun (b405 : Unit) => b404.2) (fun (x407 : Int) (s406 : (List Int)) => [.own 1 ((oL D.int) s406), .val (D.int a.2), .val (D.int v_left_403), .non, .non, .val (D.int x407)]) Prod.fst Prod.snd rfl sc_law_bow.nd (ji_rng1P (i := a.2) T.z_range (ja_p (jp_var 1) ja_nil)) (blkOk_by (N := ["_law_pot_here", "_law_many", "_law_left", "_law_found", "_law_at", "_law_k"]) (sc := defScope s_law_bow) (by decide +kernel)) (fun _ => rfl) (fun _ _ _ _ _ _ hB408 x407 s406 => (have hB := noRs hB408 hB; (jn_name 5 sc_law_bow.nd))) (fun _ _ _ _ _ _ hB408 x407 s406 => (have hB := noRs hB408 hB; jts_nil)) (fun _ _ _ _ _ _ hB408 x407 s406 => (have hB := noRs hB408 hB; (je_mapS (en := (eP2 (eP2 D.int D.int) (eP2 D.int D.int))) (v := fun (y426 : (((Unit × (Int × (List Int)) × Unit) × (Int × Int)) × (Unit × Unit))) => (y426.1.2, (((x407 * x407) * v_left_403), (1 : Int)))) (st := fun (y426 : (((Unit × (Int × (List Int)) × Unit) × (Int × Int)) × (Unit × Unit))) => y426.1.1.2.1.2) (ρ' := fun (s428 : (List Int)) => [.own 1 ((oL D.int) s428), .val (D.int a.2), .val (D.int v_left_403), .non, .non, .val (D.int x407)]) (je_tup (ja_e (xa := fun (x417 : ((Unit × (Int × (List Int)) × Unit) × (Int × Int))) => (eP2 D.int D.int) x417.2) (je_callVE (ins := i_law_low) (mf := m_law_low) (sl := l_law_low) (outs := o_law_low) (ok_law_low T) (hr.mono (by decide)) (by rfl) T.law_low.g T.law_low.f.kp T.law_low.b pass0 (arg := fun (c415 : (Unit × (Int × (List Int)) × Unit)) => (((x407 * v_left_403) + c415.2.1.1), (3 : Int))) (ja_el (xa := fun (x414 : (Unit × (Int × (List Int)) × Unit)) => D.int ((x407 * v_left_403) + x414.2.1.1)) (je_op2 (ρa := fun _ => _) (s := fun (x411 : Unit) (y412 : (Int × (List Int))) (z0 : Unit) => (.val (D.int ((x407 * v_left_403) + y412.1)))) (xa := fun (x411 : Unit) => D.int (x407 * v_left_403)) (xb := fun (x411 : Unit) (y412 : (Int × (List Int))) => D.int y412.1) (fun _ _ ha hb => pe_op op_add ha hb) (je_op (fun _ _ ha hb => pe_op op_mulX ha hb) (jp_var 5) (jp_var 2) od_mul) (fun x411 => (je_callQ (ins := i_law_digit) (mf := m_law_digit) (sl := l_law_digit) (outs := o_law_digit) (ok_law_digit T) (hr.mono (by decide)) (by rfl) T.law_digit.g T.law_digit.f.kp T.law_digit.b pass0 (arg := (s406, (2 : Int))) (fun (b413 : (Int × (List Int))) => [.own 1 ((oL D.int) b413.2), .val (D.int a.2), .val (D.int v_left_403), .non, .non, .val (D.int x407)]) (ja_s 0 (ja_p jp_int ja_nil)) hB)) (fun x411 y412 => od_add)) (fun x414 => (ja_p jp_int ja_nil))) hB) (fun x417 => (ja_el (ρa := fun _ => _) (xa := fun (x424 : (Unit × Unit)) => (eP2 D.int D.int) (((x407 * x407) * v_left_403), (1 : Int))) (je_tup (ja_el (ρa := fun _ => _) (xa := fun (x423 : (Unit × Unit)) => D.int ((x407 * x407) * v_left_403)) (je_opLG (ρa := fun _ => _) (s := fun (x420 : Unit) (z422 : Unit) => (.val (D.int ((x407 * x407) * v_left_403)))) (xa := fun (x420 : Unit) => D.int (x407 * x407)) (y := fun (x420 : Unit) => D.int v_left_403) (fun _ _ ha hb => pe_op op_mulX ha hb) (je_op (fun _ _ ha hb => pe_op op_mulX ha hb) (jp_var 5) (jp_var 5) od_mul) (fun x420 => (jp_var 2)) (fun x420 => od_mul)) (fun x423 => (ja_p jp_int ja_nil)))) (fun x424 => ja_nil))))))))) fun (b429 : ((List ((Int × Int) × (Int × Int))) × (List Int))) => (js_lt (fun (v_found_430 : List ((Int × Int) × (Int × Int))) => [.own 1 ((oL D.int) b429.2), .val (D.int a.2), .val (D.int v_left_403), .own 0 ((oL (eP2 (eP2 D.int D.int) (eP2 D.int D.int))) v_found_430), .non, .non]) b429.1 fun v_found_430 =>
(js_setEQ 4 D.int (fun (b433 : (Int × (List Int))) => b433.1) (fun (b433 : (Int × (List Int))) (v_at_432 : Int) => [.own 1 ((oL D.int) b433.2), .val (D.int a.2), .val (D.int v_left_403), .own 0 ((oL (eP2 (eP2 D.int D.int) (eP2 D.int D.int))) v_found_430), .val (D.int v_at_432), .non]) sc_law_bow.nd (je_callQ (ins := i_law_digit) (mf := m_law_digit) (sl := l_law_digit) (outs := o_law_digit) (ok_law_digit T) (hr.mono (by decide)) (by rfl) T.law_digit.g T.law_digit.f.kp T.law_digit.b pass0 (arg := (b429.2, a.2)) (fun (b431 : (Int × (List Int))) => [.own 1 ((oL D.int) b431.2), .val (D.int a.2), .val (D.int v_left_403), .own 0 ((oL (eP2 (eP2 D.int D.int) (eP2 D.int D.int))) v_found_430), .non, .non]) (ja_s 0 (ja_p (jp_var 1) ja_nil)) hB) fun b433 v_at_432 =>
(js_cons (ρ1 := fun (n469 : ((List Int) × (List ((Int × Int) × (Int × Int))))) => [.own 1 ((oL D.int) n469.1), .val (D.int a.2), .val (D.int v_left_403), .own 0 ((oL (eP2 (eP2 D.int D.int) (eP2 D.int D.int))) n469.2), .val (D.int v_at_432), .non]) (js_if (jt_opL (bn := fun (x435 : (Int × (List Int))) => (decide (x435.1 = (0 : Int)))) (xa := fun (x435 : (Int × (List Int))) => D.int x435.1) (y := fun (x435 : (Int × (List Int))) => D.int (0 : Int)) (fun _ _ ha hb => pt_cmpR op_eq ha hb (nomark _)) (je_callQ (ins := i_law_digit) (mf := m_law_digit) (sl := l_law_digit) (outs := o_law_digit) (ok_law_digit T) (hr.mono (by decide)) (by rfl) T.law_digit.g T.law_digit.f.kp T.law_digit.b pass0 (arg := (b433.2, (3 : Int))) (fun (b434 : (Int × (List Int))) => [.own 1 ((oL D.int) b434.2), .val (D.int a.2), .val (D.int v_left_403), .own 0 ((oL (eP2 (eP2 D.int D.int) (eP2 D.int D.int))) v_found_430), .val (D.int v_at_432), .non]) (ja_s 0 (ja_p jp_int ja_nil)) hB) (fun x435 => jp_int) (fun x435 => od_eqI)) (fun b438 => (js_consQ1 (fun (p468 : (((Int × Int) × (Int × Int)) × ((Int × Int) × (List Int))) × Nat) => [.own 1 ((oL D.int) p468.1.2.2), .val (D.int a.2), .val (D.int v_left_403), .own 0 ((oL (eP2 (eP2 D.int D.int) (eP2 D.int D.int))) (List.set v_found_430 p468.2 (p468.1.1.1, p468.1.2.1))), .val (D.int v_at_432), .non]) (j1_asg (d := fun (b466 : (((Int × Int) × (Int × Int)) × ((Int × Int) × (List Int)))) => (eP2 (eP2 D.int D.int) (eP2 D.int D.int)) (b466.1.1, b466.2.1)) (je_tup (ja_e (ρa := fun _ => _) (xa := fun (x462 : ((Int × Int) × (Int × Int))) => (eP2 D.int D.int) x462.1) (je_opL (ρa := fun _ => _) (s := fun (x459 : ((Int × Int) × (Int × Int))) => (.val ((eP2 D.int D.int) x459.1))) (xa := fun (x459 : ((Int × Int) × (Int × Int))) => (eP2 (eP2 D.int D.int) (eP2 D.int D.int)) x459) (y := fun (x459 : ((Int × Int) × (Int × Int))) => D.int (0 : Int)) (fun _ _ ha hb => pe_ix ix_tup ha hb (fun _ _ => rfl)) (je_ixO 3 (xs := v_found_430) (en := (eP2 (eP2 D.int D.int) (eP2 D.int D.int))) (k := v_at_432) rfl (jp_var 4)) (fun x459 => jp_int) (fun x459 => (od_ixTs rfl))) (fun x462 => (ja_el (xa := fun (x464 : ((Int × Int) × (List Int))) => (eP2 D.int D.int) x464.1) (je_callQ (ins := i_law_number) (mf := m_law_number) (sl := l_law_number) (outs := o_law_number) (ok_law_number T) (hr.mono (by decide)) (by rfl) T.law_number.g T.law_number.f.kp T.law_number.b pass0 (arg := (b438.2, (1 : Int))) (fun (b463 : ((Int × Int) × (List Int))) => [.own 1 ((oL D.int) b463.2), .val (D.int a.2), .val (D.int v_left_403), .own 0 ((oL (eP2 (eP2 D.int D.int) (eP2 D.int D.int))) v_found_430), .val (D.int v_at_432), .non]) (ja_s 0 (ja_p jp_int ja_nil)) hB) (fun x464 => ja_nil))))) (fun b466 => (jg_sub 3 (xs := v_found_430) (en := (eP2 (eP2 D.int D.int) (eP2 D.int D.int))) (y := (b466.1.1, b466.2.1)) (k := v_at_432) rfl (jp_var 4)))) fun p468 =>
(js_nil [true, true, true, true, true, true] (p468.1.2.2, (List.set v_found_430 p468.2 (p468.1.1.1, p468.1.2.1)))))) (fun b438 => (js_nil [true, true, true, true, true, true] (b438.2, v_found_430)))) fun n469 =>
(js_one (js_retP (n469.2, n469.1) [true, false, false, false, false, true] (je_bor 3 (d := (eL (eP2 (eP2 D.int D.int) (eP2 D.int D.int))) n469.2) (ρ1 := fun (b470 : Unit) => [.own 1 ((oL D.int) n469.1), .val (D.int a.2), .val (D.int v_left_403), .val ((eL (eP2 (eP2 D.int D.int) (eP2 D.int D.int))) n469.2), .val (D.int v_at_432), .non]) (ρ2 := fun (b470 : Unit) => [.own 1 ((oL D.int) n469.1), .val (D.int a.2), .val (D.int v_left_403), .non, .val (D.int v_at_432), .non]) (ρ' := fun (b470 : Unit) => [.own 1 ((oL D.int) n469.1), .val (D.int a.2), .val (D.int v_left_403), .own 0 ((oL (eP2 (eP2 D.int D.int) (eP2 D.int D.int))) n469.2), .val (D.int v_at_432), .non]) (sl := fun (b470 : Unit) => .val ((eT (eP2 (eP2 D.int D.int) (eP2 D.int D.int))) n469.2)) rfl (toD_oL _ _) (fun _ hB471 => (have hB := noRs hB471 hB; (je_cb (fun _ ht => pe_callTy call_tuple_of (by rfl) T.z_tuple (by decide +kernel) ht) (ja_p (jp_var 3) ja_nil) cb_tupL))) (fun (b470 : Unit) => (.cons (.o (fl_oL fl_int n469.1)) (.cons .k (.cons .k (.cons .f (.cons .k (.cons .f .nil))))))) (fun (b470 : Unit) => (fl_T (fl_P2 (fl_P2 fl_int fl_int) (fl_P2 fl_int fl_int))) n469.2) (fun _ => rfl))))))))))
/-! law_area -/
abbrev s_law_area : Stmt := topS 31
theorem sc_law_area : FnScope ["_law_drawing", "_law_row_here", "_law_found", "_law_p", "_law_q", "_law_one", "_law_other"] ["_law_drawing", "_law_row_here"] (defScope s_law_area) := ⟨rfl, rfl, rfl, by decide +kernel, rfl, by decide +kernel, by decide +kernel⟩
noncomputable def mb_law_area (v_drawing : (List ((Int × Int) × (Int × Int)))) (v_row_here : (List Int)) : R (Fl Unit Unit (Int × Int)) :=
(lt ((0 : Int), (1 : Int)) fun v_found_478 =>
(bindF (forR (fun (x483 : (Int × Int)) (s481 : (Int × Int)) =>
((((((R.some (atI v_drawing x483.1)).bind fun (x489 : ((Int × Int) × (Int × Int))) => ((R.some (atI v_row_here (0 : Int))).bind fun (y491 : Int) => (R.some (atI v_drawing y491)).bind fun (z494 : ((Int × Int) × (Int × Int))) => R.ok (y491, z494)).bind fun (z499 : (Int × ((Int × Int) × (Int × Int)))) => R.ok (x489, z499)).bind fun (c500 : (((Int × Int) × (Int × Int)) × (Int × ((Int × Int) × (Int × Int))))) => (m_law_less (c500.1.1, c500.2.2.1)).bind fun (z501 : (Int × Int)) => R.ok (c500, z501)).bind fun (x502 : ((((Int × Int) × (Int × Int)) × (Int × ((Int × Int) × (Int × Int)))) × (Int × Int))) => (((R.some (atI v_drawing x483.2)).bind fun (x508 : ((Int × Int) × (Int × Int))) => ((R.some (atI v_row_here (0 : Int))).bind fun (y510 : Int) => (R.some (atI v_drawing y510)).bind fun (z513 : ((Int × Int) × (Int × Int))) => R.ok (y510, z513)).bind fun (z518 : (Int × ((Int × Int) × (Int × Int)))) => R.ok (x508, z518)).bind fun (c519 : (((Int × Int) × (Int × Int)) × (Int × ((Int × Int) × (Int × Int))))) => (m_law_less (c519.1.2, c519.2.2.2)).bind fun (z520 : (Int × Int)) => R.ok (c519, z520)).bind fun (z522 : ((((Int × Int) × (Int × Int)) × (Int × ((Int × Int) × (Int × Int)))) × (Int × Int))) => R.ok (x502, z522)).bind fun (c523 : (((((Int × Int) × (Int × Int)) × (Int × ((Int × Int) × (Int × Int)))) × (Int × Int)) × ((((Int × Int) × (Int × Int)) × (Int × ((Int × Int) × (Int × Int)))) × (Int × Int)))) => (m_law_times (c523.1.2, c523.2.2)).bind fun (z524 : (Int × Int)) => R.ok (c523, z524)).bind fun (b526 : ((((((Int × Int) × (Int × Int)) × (Int × ((Int × Int) × (Int × Int)))) × (Int × Int)) × ((((Int × Int) × (Int × Int)) × (Int × ((Int × Int) × (Int × Int)))) × (Int × Int))) × (Int × Int))) => lt b526.2 fun v_one_525 =>
((((((R.some (atI v_drawing x483.1)).bind fun (x532 : ((Int × Int) × (Int × Int))) => ((R.some (atI v_row_here (0 : Int))).bind fun (y534 : Int) => (R.some (atI v_drawing y534)).bind fun (z537 : ((Int × Int) × (Int × Int))) => R.ok (y534, z537)).bind fun (z542 : (Int × ((Int × Int) × (Int × Int)))) => R.ok (x532, z542)).bind fun (c543 : (((Int × Int) × (Int × Int)) × (Int × ((Int × Int) × (Int × Int))))) => (m_law_less (c543.1.2, c543.2.2.2)).bind fun (z544 : (Int × Int)) => R.ok (c543, z544)).bind fun (x545 : ((((Int × Int) × (Int × Int)) × (Int × ((Int × Int) × (Int × Int)))) × (Int × Int))) => (((R.some (atI v_drawing x483.2)).bind fun (x551 : ((Int × Int) × (Int × Int))) => ((R.some (atI v_row_here (0 : Int))).bind fun (y553 : Int) => (R.some (atI v_drawing y553)).bind fun (z556 : ((Int × Int) × (Int × Int))) => R.ok (y553, z556)).bind fun (z561 : (Int × ((Int × Int) × (Int × Int)))) => R.ok (x551, z561)).bind fun (c562 : (((Int × Int) × (Int × Int)) × (Int × ((Int × Int) × (Int × Int))))) => (m_law_less (c562.1.1, c562.2.2.1)).bind fun (z563 : (Int × Int)) => R.ok (c562, z563)).bind fun (z565 : ((((Int × Int) × (Int × Int)) × (Int × ((Int × Int) × (Int × Int)))) × (Int × Int))) => R.ok (x545, z565)).bind fun (c566 : (((((Int × Int) × (Int × Int)) × (Int × ((Int × Int) × (Int × Int)))) × (Int × Int)) × ((((Int × Int) × (Int × Int)) × (Int × ((Int × Int) × (Int × Int)))) × (Int × Int)))) => (m_law_times (c566.1.2, c566.2.2)).bind fun (z567 : (Int × Int)) => R.ok (c566, z567)).bind fun (b569 : ((((((Int × Int) × (Int × Int)) × (Int × ((Int × Int) × (Int × Int)))) × (Int × Int)) × ((((Int × Int) × (Int × Int)) × (Int × ((Int × Int) × (Int × Int)))) × (Int × Int))) × (Int × Int))) => lt b569.2 fun v_other_568 =>
(((m_law_less (v_one_525, v_other_568)).bind fun (c571 : (Int × Int)) => (m_law_plus (s481, c571)).bind fun (z572 : (Int × Int)) => R.ok (c571, z572)).bind fun (b574 : ((Int × Int) × (Int × Int))) => lt b574.2 fun v_found_573 =>
(R.ok (.nx v_found_573)))))) (List.zip (cut v_row_here (some (1 : Int)) none) (cut v_row_here (some (2 : Int)) none)) v_found_478) fun n482 =>
(R.ok (.rt n482))))
noncomputable def m_law_area (a : ((List ((Int × Int) × (Int × Int))) × (List Int))) : R (Int × Int) := fin0 (mb_law_area a.1 a.2)
abbrev i_law_area (a : ((List ((Int × Int) × (Int × Int))) × (List Int))) : List Slot := [.val ((eT (eP2 (eP2 D.int D.int) (eP2 D.int D.int))) a.1), .val ((eT D.int) a.2)]
abbrev l_law_area (b : (Int × Int)) : Slot := .val ((eP2 D.int D.int) b)
abbrev o_law_area (b : (Int × Int)) : List Slot := [.non, .non]
theorem ok_law_area {P : Program} {w : World} {K : PySem.W.Frag} {mg : Str → Option Value} {base : Heap} (T : Top K mg) : FnG P w K mg base CX0 3 T.law_area.a T.law_area.d ["_law_drawing", "_law_row_here"] (spM K i_law_area m_law_area l_law_area o_law_area) := by
  show FnG P w K mg base CX0 (2 + 1) T.law_area.a T.law_area.d ["_law_drawing", "_law_row_here"] (spM K i_law_area (fun (a : ((List ((Int × Int) × (Int × Int))) × (List Int))) => fin0 (mb_law_area a.1 a.2)) l_law_area o_law_area)
  refine fn_ok (n1 := fun _ => []) (c1 := fun _ => []) (k1 := fun _ => []) (ins := i_law_area) (sl := l_law_area) (outs := o_law_area) (fun (a : ((List ((Int × Int) × (Int × Int))) × (List Int))) => mb_law_area a.1 a.2) 5 T.law_area.f sc_law_area rfl (fun _ => rfl) (fun _ => rfl) (fun _ => rfl) (fun cdv A outer s H E hr B hB a => ?_)
  show JSs _ B _ _ (mb_law_area a.1 a.2) _
  unfold mb_law_area
  exact ((js_setPQ 2 (eP2 D.int D.int) ((0 : Int), (1 : Int)) (fun (v_found_478 : (Int × Int)) => [.val ((eT (eP2 (eP2 D.int D.int) (eP2 D.int D.int))) a.1), .val ((eT D.int) a.2), .val ((eP2 D.int D.int) v_found_478), .non, .non, .non, .non]) sc_law_area.nd (je_tup (ja_p jp_int (ja_p jp_int ja_nil))) fun v_found_478 =>
(js_cons (ρ1 := fun (n482 : (Int × Int)) => [.val ((eT (eP2 (eP2 D.int D.int) (eP2 D.int D.int))) a.1), .val ((eT D.int) a.2), .val ((eP2 D.int D.int) n482), .non, .non, .non, .non]) (js_forP (en := (eP2 D.int D.int)) (fun (s481 : (Int × Int)) => [.val ((eT (eP2 (eP2 D.int D.int) (eP2 D.int D.int))) a.1), .val ((eT D.int) a.2), .val ((eP2 D.int D.int) s481), .non, .non, .non, .non]) (fun (x483 : (Int × Int)) (s481 : (Int × Int)) => [.val ((eT (eP2 (eP2 D.int D.int) (eP2 D.int D.int))) a.1), .val ((eT D.int) a.2), .val ((eP2 D.int D.int) s481), .val (D.int x483.1), .val (D.int x483.2), .non, .non]) PassesOwn.never rfl (ji_zipT (f := D.int) (g := D.int) (xs := fun (b479 : Unit) => (cut a.2 (some (1 : Int)) none)) (ys := fun (b479 : Unit) => (cut a.2 (some (2 : Int)) none)) (by rfl) T.z_zip (ja_p (je_slTm (jp_var 1) (fun _ => (jo_some jp_int)) (fun _ => jo_none)) (ja_p (je_slTm (jp_var 1) (fun _ => (jo_some jp_int)) (fun _ => jo_none)) ja_nil))) [true, true, true, true, true, true, true] rfl (fun x483 s481 => (jg_tup rfl (jgs_p (jg_name 3 sc_law_area.nd) (jgs_p (jg_name 4 sc_law_area.nd) jgs_nil)))) (fun x483 s481 =>
(js_setEQ 5 (eP2 D.int D.int) (fun (b526 : ((((((Int × Int) × (Int × Int)) × (Int × ((Int × Int) × (Int × Int)))) × (Int × Int)) × ((((Int × Int) × (Int × Int)) × (Int × ((Int × Int) × (Int × Int)))) × (Int × Int))) × (Int × Int))) => b526.2) (fun (b526 : ((((((Int × Int) × (Int × Int)) × (Int × ((Int × Int) × (Int × Int)))) × (Int × Int)) × ((((Int × Int) × (Int × Int)) × (Int × ((Int × Int) × (Int × Int)))) × (Int × Int))) × (Int × Int))) (v_one_525 : (Int × Int)) => [.val ((eT (eP2 (eP2 D.int D.int) (eP2 D.int D.int))) a.1), .val ((eT D.int) a.2), .val ((eP2 D.int D.int) s481), .val (D.int x483.1), .val (D.int x483.2), .val ((eP2 D.int D.int) v_one_525), .non]) sc_law_area.nd (je_callVE (ρa := fun _ => _) (ins := i_law_times) (mf := m_law_times) (sl := l_law_times) (outs := o_law_times) (ok_law_times T) (hr.mono (by decide)) (by rfl) T.law_times.g T.law_times.f.kp T.law_times.b pass0 (arg := fun (c523 : (((((Int × Int) × (Int × Int)) × (Int × ((Int × Int) × (Int × Int)))) × (Int × Int)) × ((((Int × Int) × (Int × Int)) × (Int × ((Int × Int) × (Int × Int)))) × (Int × Int)))) => (c523.1.2, c523.2.2)) (ja_e (ρ' := fun _ _ => _) (ρa := fun _ => _) (xa := fun (x502 : ((((Int × Int) × (Int × Int)) × (Int × ((Int × Int) × (Int × Int)))) × (Int × Int))) => (eP2 D.int D.int) x502.2) (je_callVE (ρa := fun _ => _) (ins := i_law_less) (mf := m_law_less) (sl := l_law_less) (outs := o_law_less) (ok_law_less T) (hr.mono (by decide)) (by rfl) T.law_less.g T.law_less.f.kp T.law_less.b pass0 (arg := fun (c500 : (((Int × Int) × (Int × Int)) × (Int × ((Int × Int) × (Int × Int))))) => (c500.1.1, c500.2.2.1)) (ja_e (ρ' := fun _ _ => _) (ρa := fun _ => _) (xa := fun (x489 : ((Int × Int) × (Int × Int))) => (eP2 D.int D.int) x489.1) (je_opL (ρa := fun _ => _) (s := fun (x486 : ((Int × Int) × (Int × Int))) => (.val ((eP2 D.int D.int) x486.1))) (xa := fun (x486 : ((Int × Int) × (Int × Int))) => (eP2 (eP2 D.int D.int) (eP2 D.int D.int)) x486) (y := fun (x486 : ((Int × Int) × (Int × Int))) => D.int (0 : Int)) (fun _ _ ha hb => pe_ix ix_tup ha hb (fun _ _ => rfl)) (je_op (fun _ _ ha hb => pe_ix ix_tup ha hb (fun _ _ => rfl)) (jp_var 0) (jp_var 3) od_ixTm) (fun x486 => jp_int) (fun x486 => (od_ixTs rfl))) (fun x489 => (ja_el (ρa := fun _ => _) (xa := fun (x498 : (Int × ((Int × Int) × (Int × Int)))) => (eP2 D.int D.int) x498.2.1) (je_opL (ρa := fun _ => _) (s := fun (x495 : (Int × ((Int × Int) × (Int × Int)))) => (.val ((eP2 D.int D.int) x495.2.1))) (xa := fun (x495 : (Int × ((Int × Int) × (Int × Int)))) => (eP2 (eP2 D.int D.int) (eP2 D.int D.int)) x495.2) (y := fun (x495 : (Int × ((Int × Int) × (Int × Int)))) => D.int (0 : Int)) (fun _ _ ha hb => pe_ix ix_tup ha hb (fun _ _ => rfl)) (je_opRG (ρb := fun _ => _) (s := fun (y491 : Int) (z494 : ((Int × Int) × (Int × Int))) => (.val ((eP2 (eP2 D.int D.int) (eP2 D.int D.int)) z494))) (xb := fun (y491 : Int) => D.int y491) (fun _ _ ha hb => pe_ix ix_tup ha hb (fun _ _ => rfl)) (jp_var 0) (je_op (fun _ _ ha hb => pe_ix ix_tup ha hb (fun _ _ => rfl)) (jp_var 1) jp_int od_ixTm) (fun y491 => od_ixTm)) (fun x495 => jp_int) (fun x495 => (od_ixTs rfl))) (fun x498 => ja_nil)))) hB) (fun x502 => (ja_el (ρa := fun _ => _) (xa := fun (x521 : ((((Int × Int) × (Int × Int)) × (Int × ((Int × Int) × (Int × Int)))) × (Int × Int))) => (eP2 D.int D.int) x521.2) (je_callVE (ρa := fun _ => _) (ins := i_law_less) (mf := m_law_less) (sl := l_law_less) (outs := o_law_less) (ok_law_less T) (hr.mono (by decide)) (by rfl) T.law_less.g T.law_less.f.kp T.law_less.b pass0 (arg := fun (c519 : (((Int × Int) × (Int × Int)) × (Int × ((Int × Int) × (Int × Int))))) => (c519.1.2, c519.2.2.2)) (ja_e (ρ' := fun _ _ => _) (ρa := fun _ => _) (xa := fun (x508 : ((Int × Int) × (Int × Int))) => (eP2 D.int D.int) x508.2) (je_opL (ρa := fun _ => _) (s := fun (x505 : ((Int × Int) × (Int × Int))) => (.val ((eP2 D.int D.int) x505.2))) (xa := fun (x505 : ((Int × Int) × (Int × Int))) => (eP2 (eP2 D.int D.int) (eP2 D.int D.int)) x505) (y := fun (x505 : ((Int × Int) × (Int × Int))) => D.int (1 : Int)) (fun _ _ ha hb => pe_ix ix_tup ha hb (fun _ _ => rfl)) (je_op (fun _ _ ha hb => pe_ix ix_tup ha hb (fun _ _ => rfl)) (jp_var 0) (jp_var 4) od_ixTm) (fun x505 => jp_int) (fun x505 => (od_ixTs rfl))) (fun x508 => (ja_el (ρa := fun _ => _) (xa := fun (x517 : (Int × ((Int × Int) × (Int × Int)))) => (eP2 D.int D.int) x517.2.2) (je_opL (ρa := fun _ => _) (s := fun (x514 : (Int × ((Int × Int) × (Int × Int)))) => (.val ((eP2 D.int D.int) x514.2.2))) (xa := fun (x514 : (Int × ((Int × Int) × (Int × Int)))) => (eP2 (eP2 D.int D.int) (eP2 D.int D.int)) x514.2) (y := fun (x514 : (Int × ((Int × Int) × (Int × Int)))) => D.int (1 : Int)) (fun _ _ ha hb => pe_ix ix_tup ha hb (fun _ _ => rfl)) (je_opRG (ρb := fun _ => _) (s := fun (y510 : Int) (z513 : ((Int × Int) × (Int × Int))) => (.val ((eP2 (eP2 D.int D.int) (eP2 D.int D.int)) z513))) (xb := fun (y510 : Int) => D.int y510) (fun _ _ ha hb => pe_ix ix_tup ha hb (fun _ _ => rfl)) (jp_var 0) (je_op (fun _ _ ha hb => pe_ix ix_tup ha hb (fun _ _ => rfl)) (jp_var 1) jp_int od_ixTm) (fun y510 => od_ixTm)) (fun x514 => jp_int) (fun x514 => (od_ixTs rfl))) (fun x517 => ja_nil)))) hB) (fun x521 => ja_nil)))) hB) fun b526 v_one_525 =>
(js_setEQ 6 (eP2 D.int D.int) (fun (b569 : ((((((Int × Int) × (Int × Int)) × (Int × ((Int × Int) × (Int × Int)))) × (Int × Int)) × ((((Int × Int) × (Int × Int)) × (Int × ((Int × Int) × (Int × Int)))) × (Int × Int))) × (Int × Int))) => b569.2) (fun (b569 : ((((((Int × Int) × (Int × Int)) × (Int × ((Int × Int) × (Int × Int)))) × (Int × Int)) × ((((Int × Int) × (Int × Int)) × (Int × ((Int × Int) × (Int × Int)))) × (Int × Int))) × (Int × Int))) (v_other_568 : (Int × Int)) => [.val ((eT (eP2 (eP2 D.int D.int) (eP2 D.int D.int))) a.1), .val ((eT D.int) a.2), .val ((eP2 D.int D.int) s481), .val (D.int x483.1), .val (D.int x483.2), .val ((eP2 D.int D.int) v_one_525), .val ((eP2 D.int D.int) v_other_568)]) sc_law_area.nd (je_callVE (ρa := fun _ => _) (ins := i_law_times) (mf := m_law_times) (sl := l_law_times) (outs := o_law_times) (ok_law_times T) (hr.mono (by decide)) (by rfl) T.law_times.g T.law_times.f.kp T.law_times.b pass0 (arg := fun (c566 : (((((Int × Int) × (Int × Int)) × (Int × ((Int × Int) × (Int × Int)))) × (Int × Int)) × ((((Int × Int) × (Int × Int)) × (Int × ((Int × Int) × (Int × Int)))) × (Int × Int)))) => (c566.1.2, c566.2.2)) (ja_e (ρ' := fun _ _ => _) (ρa := fun _ => _) (xa := fun (x545 : ((((Int × Int) × (Int × Int)) × (Int × ((Int × Int) × (Int × Int)))) × (Int × Int))) => (eP2 D.int D.int) x545.2) (je_callVE (ρa := fun _ => _) (ins := i_law_less) (mf := m_law_less) (sl := l_law_less) (outs := o_law_less) (ok_law_less T) (hr.mono (by decide)) (by rfl) T.law_less.g T.law_less.f.kp T.law_less.b pass0 (arg := fun (c543 : (((Int × Int) × (Int × Int)) × (Int × ((Int × Int) × (Int × Int))))) => (c543.1.2, c543.2.2.2)) (ja_e (ρ' := fun _ _ => _) (ρa := fun _ => _) (xa := fun (x532 : ((Int × Int) × (Int × Int))) => (eP2 D.int D.int) x532.2) (je_opL (ρa := fun _ => _) (s := fun (x529 : ((Int × Int) × (Int × Int))) => (.val ((eP2 D.int D.int) x529.2))) (xa := fun (x529 : ((Int × Int) × (Int × Int))) => (eP2 (eP2 D.int D.int) (eP2 D.int D.int)) x529) (y := fun (x529 : ((Int × Int) × (Int × Int))) => D.int (1 : Int)) (fun _ _ ha hb => pe_ix ix_tup ha hb (fun _ _ => rfl)) (je_op (fun _ _ ha hb => pe_ix ix_tup ha hb (fun _ _ => rfl)) (jp_var 0) (jp_var 3) od_ixTm) (fun x529 => jp_int) (fun x529 => (od_ixTs rfl))) (fun x532 => (ja_el (ρa := fun _ => _) (xa := fun (x541 : (Int × ((Int × Int) × (Int × Int)))) => (eP2 D.int D.int) x541.2.2) (je_opL (ρa := fun _ => _) (s := fun (x538 : (Int × ((Int × Int) × (Int × Int)))) => (.val ((eP2 D.int D.int) x538.2.2))) (xa := fun (x538 : (Int × ((Int × Int) × (Int × Int)))) => (eP2 (eP2 D.int D.int) (eP2 D.int D.int)) x538.2) (y := fun (x538 : (Int × ((Int × Int) × (Int × Int)))) => D.int (1 : Int)) (fun _ _ ha hb => pe_ix ix_tup ha hb (fun _ _ => rfl)) (je_opRG (ρb := fun _ => _) (s := fun (y534 : Int) (z537 : ((Int × Int) × (Int × Int))) => (.val ((eP2 (eP2 D.int D.int) (eP2 D.int D.int)) z537))) (xb := fun (y534 : Int) => D.int y534) (fun _ _ ha hb => pe_ix ix_tup ha hb (fun _ _ => rfl)) (jp_var 0) (je_op (fun _ _ ha hb => pe_ix ix_tup ha hb (fun _ _ => rfl)) (jp_var 1) jp_int od_ixTm) (fun y534 => od_ixTm)) (fun x538 => jp_int) (fun x538 => (od_ixTs rfl))) (fun x541 => ja_nil)))) hB) (fun x545 => (ja_el (ρa := fun _ => _) (xa := fun (x564 : ((((Int × Int) × (Int × Int)) × (Int × ((Int × Int) × (Int × Int)))) × (Int × Int))) => (eP2 D.int D.int) x564.2) (je_callVE (ρa := fun _ => _) (ins := i_law_less) (mf := m_law_less) (sl := l_law_less) (outs := o_law_less) (ok_law_less T) (hr.mono (by decide)) (by rfl) T.law_less.g T.law_less.f.kp T.law_less.b pass0 (arg := fun (c562 : (((Int × Int) × (Int × Int)) × (Int × ((Int × Int) × (Int × Int))))) => (c562.1.1, c562.2.2.1)) (ja_e (ρ' := fun _ _ => _) (ρa := fun _ => _) (xa := fun (x551 : ((Int × Int) × (Int × Int))) => (eP2 D.int D.int) x551.1) (je_opL (ρa := fun _ => _) (s := fun (x548 : ((Int × Int) × (Int × Int))) => (.val ((eP2 D.int D.int) x548.1))) (xa := fun (x548 : ((Int × Int) × (Int × Int))) => (eP2 (eP2 D.int D.int) (eP2 D.int D.int)) x548) (y := fun (x548 : ((Int × Int) × (Int × Int))) => D.int (0 : Int)) (fun _ _ ha hb => pe_ix ix_tup ha hb (fun _ _ => rfl)) (je_op (fun _ _ ha hb => pe_ix ix_tup ha hb (fun _ _ => rfl)) (jp_var 0) (jp_var 4) od_ixTm) (fun x548 => jp_int) (fun x548 => (od_ixTs rfl))) (fun x551 => (ja_el (ρa := fun _ => _) (xa := fun (x560 : (Int × ((Int × Int) × (Int × Int)))) => (eP2 D.int D.int) x560.2.1) (je_opL (ρa := fun _ => _) (s := fun (x557 : (Int × ((Int × Int) × (Int × Int)))) => (.val ((eP2 D.int D.int) x557.2.1))) (xa := fun (x557 : (Int × ((Int × Int) × (Int × Int)))) => (eP2 (eP2 D.int D.int) (eP2 D.int D.int)) x557.2) (y := fun (x557 : (Int × ((Int × Int) × (Int × Int)))) => D.int (0 : Int)) (fun _ _ ha hb => pe_ix ix_tup ha hb (fun _ _ => rfl)) (je_opRG (ρb := fun _ => _) (s := fun (y553 : Int) (z556 : ((Int × Int) × (Int × Int))) => (.val ((eP2 (eP2 D.int D.int) (eP2 D.int D.int)) z556))) (xb := fun (y553 : Int) => D.int y553) (fun _ _ ha hb => pe_ix ix_tup ha hb (fun _ _ => rfl)) (jp_var 0) (je_op (fun _ _ ha hb => pe_ix ix_tup ha hb (fun _ _ => rfl)) (jp_var 1) jp_int od_ixTm) (fun y553 => od_ixTm)) (fun x557 => jp_int) (fun x557 => (od_ixTs rfl))) (fun x560 => ja_nil)))) hB) (fun x564 => ja_nil)))) hB) fun b569 v_other_568 =>
(js_setEQ 2 (eP2 D.int D.int) (fun (b574 : ((Int × Int) × (Int × Int))) => b574.2) (fun (b574 : ((Int × Int) × (Int × Int))) (v_found_573 : (Int × Int)) => [.val ((eT (eP2 (eP2 D.int D.int) (eP2 D.int D.int))) a.1), .val ((eT D.int) a.2), .val ((eP2 D.int D.int) v_found_573), .val (D.int x483.1), .val (D.int x483.2), .val ((eP2 D.int D.int) v_one_525), .val ((eP2 D.int D.int) v_other_568)]) sc_law_area.nd (je_callVE (ρa := fun _ => _) (ins := i_law_plus) (mf := m_law_plus) (sl := l_law_plus) (outs := o_law_plus) (ok_law_plus T) (hr.mono (by decide)) (by rfl) T.law_plus.g T.law_plus.f.kp T.law_plus.b pass0 (arg := fun (c571 : (Int × Int)) => (s481, c571)) (ja_p (jp_var 2) (ja_el (ρa := fun _ => _) (xa := fun (x570 : (Int × Int)) => (eP2 D.int D.int) x570) (je_callV (ins := i_law_less) (mf := m_law_less) (sl := l_law_less) (outs := o_law_less) (ok_law_less T) (hr.mono (by decide)) (by rfl) T.law_less.g T.law_less.f.kp T.law_less.b pass0 (arg := (v_one_525, v_other_568)) (ja_p (jp_var 5) (ja_p (jp_var 6) ja_nil)) hB) (fun x570 => ja_nil))) hB) fun b574 v_found_573 =>
(js_nil [true, true, true, false, false, false, false] v_found_573)))))) fun n482 =>
(js_one (js_retP n482 [false, false, false, true, true, true, true] (jp_var 2))))))
/-! divisor -/
abbrev s_divisor : Stmt := topS 1
theorem sc_divisor : FnScope ["one", "other"] ["one", "other"] (defScope s_divisor) := ⟨rfl, rfl, rfl, by decide +kernel, rfl, by decide +kernel, by decide +kernel⟩
noncomputable def mb_divisor (v_one : Int) (v_other : Int) : R (Fl Unit Unit Int) :=
(bindF (whR (fun (s589 : (Int × Int)) => R.ok (decide (s589.2 > (0 : Int)))) (fun s589 =>
((R.guard (s589.2 ≠ (0 : Int))).bind fun (b597 : Unit) =>
(R.ok (.nx (s589.2, (Int.fmod s589.1 s589.2)))))) ((if v_one < 0 then -v_one else v_one), (if v_other < 0 then -v_other else v_other))) fun n590 =>
(R.ok (.rt n590.1)))
noncomputable def m_divisor (a : (Int × Int)) : R Int := fin0 (mb_divisor a.1 a.2)
abbrev i_divisor (a : (Int × Int)) : List Slot := [.val (D.int a.1), .val (D.int a.2)]
abbrev l_divisor (b : Int) : Slot := .val (D.int b)
abbrev o_divisor (b : Int) : List Slot := [.non, .non]
theorem ok_divisor {P : Program} {w : World} {K : PySem.W.Frag} {mg : Str → Option Value} {base : Heap} (T : Top K mg) : FnG P w K mg base CX0 1 T.divisor.a T.divisor.d ["one", "other"] (spM K i_divisor m_divisor l_divisor o_divisor) := by
  show FnG P w K mg base CX0 (0 + 1) T.divisor.a T.divisor.d ["one", "other"] (spM K i_divisor (fun (a : (Int × Int)) => fin0 (mb_divisor a.1 a.2)) l_divisor o_divisor)
  refine fn_ok (n1 := fun _ => []) (c1 := fun _ => []) (k1 := fun _ => []) (ins := i_divisor) (sl := l_divisor) (outs := o_divisor) (fun (a : (Int × Int)) => mb_divisor a.1 a.2) 0 T.divisor.f sc_divisor rfl (fun _ => rfl) (fun _ => rfl) (fun _ => rfl) (fun cdv A outer s H E hr B hB a => ?_)
  show JSs _ B _ _ (mb_divisor a.1 a.2) _
  unfold mb_divisor
  exact ((js_consQP [.val (D.int (if a.1 < 0 then -a.1 else a.1)), .val (D.int (if a.2 < 0 then -a.2 else a.2))] (j1_par 0 1 (d1 := fun (b588 : Unit) => D.int (if a.1 < 0 then -a.1 else a.1)) (d2 := fun (b588 : Unit) => D.int (if a.2 < 0 then -a.2 else a.2)) rfl sc_divisor.nd (ja_p (je_cb (fun _ ht => pe_callB call_abs (by rfl) T.z_abs (by decide +kernel) ht) (ja_p (jp_var 0) ja_nil) cb_abs) (ja_p (je_cb (fun _ ht => pe_callB call_abs (by rfl) T.z_abs (by decide +kernel) ht) (ja_p (jp_var 1) ja_nil) cb_abs) ja_nil)))
(js_cons (ρ1 := fun (n590 : (Int × Int)) => [.val (D.int n590.1), .val (D.int n590.2)]) (js_while (fun (s589 : (Int × Int)) => [.val (D.int s589.1), .val (D.int s589.2)]) PassesOwn.never ((if a.1 < 0 then -a.1 else a.1), (if a.2 < 0 then -a.2 else a.2)) [true, true] rfl (fun s589 => (jt_pb (jt_op (fun _ _ ha hb => pt_cmpR op_gt ha hb (nomark _)) (jp_var 1) jp_int od_gt))) (fun s589 =>
(js_consQ1 (fun (b597 : Unit) => [.val (D.int s589.2), .val (D.int (Int.fmod s589.1 s589.2))]) (j1_par 0 1 (d1 := fun (b597 : Unit) => D.int s589.2) (d2 := fun (b597 : Unit) => D.int (Int.fmod s589.1 s589.2)) rfl sc_divisor.nd (ja_p (jp_var 1) (ja_el (ρa := fun _ => _) (xa := fun (x596 : Unit) => D.int (Int.fmod s589.1 s589.2)) (je_op (fun _ _ ha hb => pe_op op_modN ha hb) (jp_var 0) (jp_var 1) od_mod) (fun x596 => ja_nil)))) fun b597 =>
(js_nil [true, true] (s589.2, (Int.fmod s589.1 s589.2)))))) fun n590 =>
(js_one (js_retP n590.1 [false, false] (jp_var 0))))))
/-! fraction -/
abbrev s_fraction : Stmt := topS 2
theorem sc_fraction : FnScope ["n", "d", "by"] ["n", "d"] (defScope s_fraction) := ⟨rfl, rfl, rfl, by decide +kernel, rfl, by decide +kernel, by decide +kernel⟩
noncomputable def mb_fraction (v_n : Int) (v_d : Int) : R (Fl Unit Unit (Int × Int)) :=
((m_divisor (v_n, v_d)).bind fun (b599 : Int) => lt b599 fun v_by_598 =>
(bindF (if (decide (v_d < (0 : Int))) = true then (lt (-v_by_598) fun v_by_605 =>
(R.ok (.nx v_by_605))) else (R.ok (.nx v_by_598))) fun n606 =>
(((R.guard (divOk v_n n606)).bind fun (x609 : Unit) => (R.guard (divOk v_d n606)).bind fun (z613 : Unit) => R.ok (x609, z613)).bind fun (b614 : (Unit × Unit)) => R.ok (.rt ((Int.fdiv v_n n606), (Int.fdiv v_d n606))))))
noncomputable def m_fraction (a : (Int × Int)) : R (Int × Int) := fin0 (mb_fraction a.1 a.2)
abbrev i_fraction (a : (Int × Int)) : List Slot := [.val (D.int a.1), .val (D.int a.2)]
abbrev l_fraction (b : (Int × Int)) : Slot := .val ((eP2 D.int D.int) b)
abbrev o_fraction (b : (Int × Int)) : List Slot := [.non, .non]
theorem ok_fraction {P : Program} {w : World} {K : PySem.W.Frag} {mg : Str → Option Value} {base : Heap} (T : Top K mg) : FnG P w K mg base CX0 2 T.fraction.a T.fraction.d ["n", "d"] (spM K i_fraction m_fraction l_fraction o_fraction) := by
  show FnG P w K mg base CX0 (1 + 1) T.fraction.a T.fraction.d ["n", "d"] (spM K i_fraction (fun (a : (Int × Int)) => fin0 (mb_fraction a.1 a.2)) l_fraction o_fraction)
  refine fn_ok (n1 := fun _ => []) (c1 := fun _ => []) (k1 := fun _ => []) (ins := i_fraction) (sl := l_fraction) (outs := o_fraction) (fun (a : (Int × Int)) => mb_fraction a.1 a.2) 1 T.fraction.f sc_fraction rfl (fun _ => rfl) (fun _ => rfl) (fun _ => rfl) (fun cdv A outer s H E hr B hB a => ?_)
  show JSs _ B _ _ (mb_fraction a.1 a.2) _
  unfold mb_fraction
  exact ((js_setEQ 2 D.int (fun (b599 : Int) => b599) (fun (b599 : Int) (v_by_598 : Int) => [.val (D.int a.1), .val (D.int a.2), .val (D.int v_by_598)]) sc_fraction.nd (je_callV (ins := i_divisor) (mf := m_divisor) (sl := l_divisor) (outs := o_divisor) (ok_divisor T) (hr.mono (by decide)) (by rfl) T.divisor.g T.divisor.f.kp T.divisor.b pass0 (arg := (a.1, a.2)) (ja_p (jp_var 0) (ja_p (jp_var 1) ja_nil)) hB) fun b599 v_by_598 =>
(js_cons (ρ1 := fun (n606 : Int) => [.val (D.int a.1), .val (D.int a.2), .val (D.int n606)]) (js_ifP (jt_op (fun _ _ ha hb => pt_cmpR op_lt ha hb (nomark _)) (jp_var 1) jp_int od_lt) (js_setPQ 2 D.int (-v_by_598) (fun (v_by_605 : Int) => [.val (D.int a.1), .val (D.int a.2), .val (D.int v_by_605)]) sc_fraction.nd (jp_neg (jp_var 2)) fun v_by_605 =>
(js_nil [true, true, true] v_by_605)) (js_nil [true, true, true] v_by_598)) fun n606 =>
(js_one (js_ret (fun (b614 : (Unit × Unit)) => ((Int.fdiv a.1 n606), (Int.fdiv a.2 n606))) [false, false, false] (je_tup (ja_e (ρ' := fun _ _ => _) (ρa := fun _ => _) (xa := fun (x609 : Unit) => D.int (Int.fdiv a.1 n606)) (je_op (fun _ _ ha hb => pe_op op_fdivZ ha hb) (jp_var 0) (jp_var 2) od_fdiv) (fun x609 => (ja_el (ρa := fun _ => _) (xa := fun (x612 : Unit) => D.int (Int.fdiv a.2 n606)) (je_op (fun _ _ ha hb => pe_op op_fdivZ ha hb) (jp_var 1) (jp_var 2) od_fdiv) (fun x612 => ja_nil))))))))))
/-! plus -/
abbrev s_plus : Stmt := topS 3
theorem sc_plus : FnScope ["one", "other"] ["one", "other"] (defScope s_plus) := ⟨rfl, rfl, rfl, by decide +kernel, rfl, by decide +kernel, by decide +kernel⟩
noncomputable def mb_plus (v_one : (Int × Int)) (v_other : (Int × Int)) : R (Fl Unit Unit (Int × Int)) :=
((((op2 (R.guard (CMulX v_one.1 v_other.2)) (fun (x621 : Unit) => R.guard (CMulX v_other.1 v_one.2)) (fun (x621 : Unit) (y622 : Unit) => R.ok ())).bind fun (x629 : (Unit × Unit × Unit)) => (R.guard (CMulX v_one.2 v_other.2)).bind fun (z637 : Unit) => R.ok (x629, z637)).bind fun (c638 : ((Unit × Unit × Unit) × Unit)) => (m_fraction (((v_one.1 * v_other.2) + (v_other.1 * v_one.2)), (v_one.2 * v_other.2))).bind fun (z639 : (Int × Int)) => R.ok (c638, z639)).bind fun (b640 : (((Unit × Unit × Unit) × Unit) × (Int × Int))) => R.ok (.rt b640.2))
noncomputable def m_plus (a : ((Int × Int) × (Int × Int))) : R (Int × Int) := fin0 (mb_plus a.1 a.2)
abbrev i_plus (a : ((Int × Int) × (Int × Int))) : List Slot := [.val ((eP2 D.int D.int) a.1), .val ((eP2 D.int D.int) a.2)]
abbrev l_plus (b : (Int × Int)) : Slot := .val ((eP2 D.int D.int) b)
abbrev o_plus (b : (Int × Int)) : List Slot := [.non, .non]
theorem ok_plus {P : Program} {w : World} {K : PySem.W.Frag} {mg : Str → Option Value} {base : Heap} (T : Top K mg) : FnG P w K mg base CX0 3 T.plus.a T.plus.d ["one", "other"] (spM K i_plus m_plus l_plus o_plus) := by
  show FnG P w K mg base CX0 (2 + 1) T.plus.a T.plus.d ["one", "other"] (spM K i_plus (fun (a : ((Int × Int) × (Int × Int))) => fin0 (mb_plus a.1 a.2)) l_plus o_plus)
  refine fn_ok (n1 := fun _ => []) (c1 := fun _ => []) (k1 := fun _ => []) (ins := i_plus) (sl := l_plus) (outs := o_plus) (fun (a : ((Int × Int) × (Int × Int))) => mb_plus a.1 a.2) 0 T.plus.f sc_plus rfl (fun _ => rfl) (fun _ => rfl) (fun _ => rfl) (fun cdv A outer s H E hr B hB a => ?_)
  show JSs _ B _ _ (mb_plus a.1 a.2) _
  unfold mb_plus
  exact ((js_one (js_ret (fun (b640 : (((Unit × Unit × Unit) × Unit) × (Int × Int))) => b640.2) [false, false] (je_callVE (ρa := fun _ => _) (ins := i_fraction) (mf := m_fraction) (sl := l_fraction) (outs := o_fraction) (ok_fraction T) (hr.mono (by decide)) (by rfl) T.fraction.g T.fraction.f.kp T.fraction.b pass0 (arg := fun (c638 : ((Unit × Unit × Unit) × Unit)) => (((a.1.1 * a.2.2) + (a.2.1 * a.1.2)), (a.1.2 * a.2.2))) (ja_e (ρ' := fun _ _ => _) (ρa := fun _ => _) (xa := fun (x629 : (Unit × Unit × Unit)) => D.int ((a.1.1 * a.2.2) + (a.2.1 * a.1.2))) (je_op2 (ρa := fun _ => _) (ρb := fun _ _ => _) (s := fun (x621 : Unit) (y622 : Unit) (z0 : Unit) => (.val (D.int ((a.1.1 * a.2.2) + (a.2.1 * a.1.2))))) (xa := fun (x621 : Unit) => D.int (a.1.1 * a.2.2)) (xb := fun (x621 : Unit) (y622 : Unit) => D.int (a.2.1 * a.1.2)) (fun _ _ ha hb => pe_op op_add ha hb) (je_op (fun _ _ ha hb => pe_op op_mulX ha hb) (je_op (fun _ _ ha hb => pe_ix ix_tup ha hb (fun _ _ => rfl)) (jp_var 0) jp_int (od_ixTs rfl)) (je_op (fun _ _ ha hb => pe_ix ix_tup ha hb (fun _ _ => rfl)) (jp_var 1) jp_int (od_ixTs rfl)) od_mul) (fun x621 => (je_op (fun _ _ ha hb => pe_op op_mulX ha hb) (je_op (fun _ _ ha hb => pe_ix ix_tup ha hb (fun _ _ => rfl)) (jp_var 1) jp_int (od_ixTs rfl)) (je_op (fun _ _ ha hb => pe_ix ix_tup ha hb (fun _ _ => rfl)) (jp_var 0) jp_int (od_ixTs rfl)) od_mul)) (fun x621 y622 => od_add)) (fun x629 => (ja_el (ρa := fun _ => _) (xa := fun (x636 : Unit) => D.int (a.1.2 * a.2.2)) (je_op (fun _ _ ha hb => pe_op op_mulX ha hb) (je_op (fun _ _ ha hb => pe_ix ix_tup ha hb (fun _ _ => rfl)) (jp_var 0) jp_int (od_ixTs rfl)) (je_op (fun _ _ ha hb => pe_ix ix_tup ha hb (fun _ _ => rfl)) (jp_var 1) jp_int (od_ixTs rfl)) od_mul) (fun x636 => ja_nil)))) hB))))
/-! less -/
abbrev s_less : Stmt := topS 4
theorem sc_less : FnScope ["one", "other"] ["one", "other"] (defScope s_less) := ⟨rfl, rfl, rfl, by decide +kernel, rfl, by decide +kernel, by decide +kernel⟩
noncomputable def mb_less (v_one : (Int × Int)) (v_other : (Int × Int)) : R (Fl Unit Unit (Int × Int)) :=
((((op2 (R.guard (CMulX v_one.1 v_other.2)) (fun (x647 : Unit) => R.guard (CMulX v_other.1 v_one.2)) (fun (x647 : Unit) (y648 : Unit) => R.ok ())).bind fun (x655 : (Unit × Unit × Unit)) => (R.guard (CMulX v_one.2 v_other.2)).bind fun (z663 : Unit) => R.ok (x655, z663)).bind fun (c664 : ((Unit × Unit × Unit) × Unit)) => (m_fraction (((v_one.1 * v_other.2) - (v_other.1 * v_one.2)), (v_one.2 * v_other.2))).bind fun (z665 : (Int × Int)) => R.ok (c664, z665)).bind fun (b666 : (((Unit × Unit × Unit) × Unit) × (Int × Int))) => R.ok (.rt b666.2))
noncomputable def m_less (a : ((Int × Int) × (Int × Int))) : R (Int × Int) := fin0 (mb_less a.1 a.2)
abbrev i_less (a : ((Int × Int) × (Int × Int))) : List Slot := [.val ((eP2 D.int D.int) a.1), .val ((eP2 D.int D.int) a.2)]
abbrev l_less (b : (Int × Int)) : Slot := .val ((eP2 D.int D.int) b)
abbrev o_less (b : (Int × Int)) : List Slot := [.non, .non]
theorem ok_less {P : Program} {w : World} {K : PySem.W.Frag} {mg : Str → Option Value} {base : Heap} (T : Top K mg) : FnG P w K mg base CX0 3 T.less.a T.less.d ["one", "other"] (spM K i_less m_less l_less o_less) := by
  show FnG P w K mg base CX0 (2 + 1) T.less.a T.less.d ["one", "other"] (spM K i_less (fun (a : ((Int × Int) × (Int × Int))) => fin0 (mb_less a.1 a.2)) l_less o_less)
  refine fn_ok (n1 := fun _ => []) (c1 := fun _ => []) (k1 := fun _ => []) (ins := i_less) (sl := l_less) (outs := o_less) (fun (a : ((Int × Int) × (Int × Int))) => mb_less a.1 a.2) 0 T.less.f sc_less rfl (fun _ => rfl) (fun _ => rfl) (fun _ => rfl) (fun cdv A outer s H E hr B hB a => ?_)
  show JSs _ B _ _ (mb_less a.1 a.2) _
  unfold mb_less
  exact ((js_one (js_ret (fun (b666 : (((Unit × Unit × Unit) × Unit) × (Int × Int))) => b666.2) [false, false] (je_callVE (ρa := fun _ => _) (ins := i_fraction) (mf := m_fraction) (sl := l_fraction) (outs := o_fraction) (ok_fraction T) (hr.mono (by decide)) (by rfl) T.fraction.g T.fraction.f.kp T.fraction.b pass0 (arg := fun (c664 : ((Unit × Unit × Unit) × Unit)) => (((a.1.1 * a.2.2) - (a.2.1 * a.1.2)), (a.1.2 * a.2.2))) (ja_e (ρ' := fun _ _ => _) (ρa := fun _ => _) (xa := fun (x655 : (Unit × Unit × Unit)) => D.int ((a.1.1 * a.2.2) - (a.2.1 * a.1.2))) (je_op2 (ρa := fun _ => _) (ρb := fun _ _ => _) (s := fun (x647 : Unit) (y648 : Unit) (z0 : Unit) => (.val (D.int ((a.1.1 * a.2.2) - (a.2.1 * a.1.2))))) (xa := fun (x647 : Unit) => D.int (a.1.1 * a.2.2)) (xb := fun (x647 : Unit) (y648 : Unit) => D.int (a.2.1 * a.1.2)) (fun _ _ ha hb => pe_op op_sub ha hb) (je_op (fun _ _ ha hb => pe_op op_mulX ha hb) (je_op (fun _ _ ha hb => pe_ix ix_tup ha hb (fun _ _ => rfl)) (jp_var 0) jp_int (od_ixTs rfl)) (je_op (fun _ _ ha hb => pe_ix ix_tup ha hb (fun _ _ => rfl)) (jp_var 1) jp_int (od_ixTs rfl)) od_mul) (fun x647 => (je_op (fun _ _ ha hb => pe_op op_mulX ha hb) (je_op (fun _ _ ha hb => pe_ix ix_tup ha hb (fun _ _ => rfl)) (jp_var 1) jp_int (od_ixTs rfl)) (je_op (fun _ _ ha hb => pe_ix ix_tup ha hb (fun _ _ => rfl)) (jp_var 0) jp_int (od_ixTs rfl)) od_mul)) (fun x647 y648 => od_sub)) (fun x655 => (ja_el (ρa := fun _ => _) (xa := fun (x662 : Unit) => D.int (a.1.2 * a.2.2)) (je_op (fun _ _ ha hb => pe_op op_mulX ha hb) (je_op (fun _ _ ha hb => pe_ix ix_tup ha hb (fun _ _ => rfl)) (jp_var 0) jp_int (od_ixTs rfl)) (je_op (fun _ _ ha hb => pe_ix ix_tup ha hb (fun _ _ => rfl)) (jp_var 1) jp_int (od_ixTs rfl)) od_mul) (fun x662 => ja_nil)))) hB))))
/-! times -/
abbrev s_times : Stmt := topS 5
theorem sc_times : FnScope ["one", "other"] ["one", "other"] (defScope s_times) := ⟨rfl, rfl, rfl, by decide +kernel, rfl, by decide +kernel, by decide +kernel⟩
noncomputable def mb_times (v_one : (Int × Int)) (v_other : (Int × Int)) : R (Fl Unit Unit (Int × Int)) :=
((((R.guard (CMulX v_one.1 v_other.1)).bind fun (x673 : Unit) => (R.guard (CMulX v_one.2 v_other.2)).bind fun (z681 : Unit) => R.ok (x673, z681)).bind fun (c682 : (Unit × Unit)) => (m_fraction ((v_one.1 * v_other.1), (v_one.2 * v_other.2))).bind fun (z683 : (Int × Int)) => R.ok (c682, z683)).bind fun (b684 : ((Unit × Unit) × (Int × Int))) => R.ok (.rt b684.2))
noncomputable def m_times (a : ((Int × Int) × (Int × Int))) : R (Int × Int) := fin0 (mb_times a.1 a.2)
abbrev i_times (a : ((Int × Int) × (Int × Int))) : List Slot := [.val ((eP2 D.int D.int) a.1), .val ((eP2 D.int D.int) a.2)]
abbrev l_times (b : (Int × Int)) : Slot := .val ((eP2 D.int D.int) b)
abbrev o_times (b : (Int × Int)) : List Slot := [.non, .non]
theorem ok_times {P : Program} {w : World} {K : PySem.W.Frag} {mg : Str → Option Value} {base : Heap} (T : Top K mg) : FnG P w K mg base CX0 3 T.times.a T.times.d ["one", "other"] (spM K i_times m_times l_times o_times) := by
  show FnG P w K mg base CX0 (2 + 1) T.times.a T.times.d ["one", "other"] (spM K i_times (fun (a : ((Int × Int) × (Int × Int))) => fin0 (mb_times a.1 a.2)) l_times o_times)
  refine fn_ok (n1 := fun _ => []) (c1 := fun _ => []) (k1 := fun _ => []) (ins := i_times) (sl := l_times) (outs := o_times) (fun (a : ((Int × Int) × (Int × Int))) => mb_times a.1 a.2) 0 T.times.f sc_times rfl (fun _ => rfl) (fun _ => rfl) (fun _ => rfl) (fun cdv A outer s H E hr B hB a => ?_)
  show JSs _ B _ _ (mb_times a.1 a.2) _
  unfold mb_times
  exact ((js_one (js_ret (fun (b684 : ((Unit × Unit) × (Int × Int))) => b684.2) [false, false] (je_callVE (ρa := fun _ => _) (ins := i_fraction) (mf := m_fraction) (sl := l_fraction) (outs := o_fraction) (ok_fraction T) (hr.mono (by decide)) (by rfl) T.fraction.g T.fraction.f.kp T.fraction.b pass0 (arg := fun (c682 : (Unit × Unit)) => ((a.1.1 * a.2.1), (a.1.2 * a.2.2))) (ja_e (ρ' := fun _ _ => _) (ρa := fun _ => _) (xa := fun (x673 : Unit) => D.int (a.1.1 * a.2.1)) (je_op (fun _ _ ha hb => pe_op op_mulX ha hb) (je_op (fun _ _ ha hb => pe_ix ix_tup ha hb (fun _ _ => rfl)) (jp_var 0) jp_int (od_ixTs rfl)) (je_op (fun _ _ ha hb => pe_ix ix_tup ha hb (fun _ _ => rfl)) (jp_var 1) jp_int (od_ixTs rfl)) od_mul) (fun x673 => (ja_el (ρa := fun _ => _) (xa := fun (x680 : Unit) => D.int (a.1.2 * a.2.2)) (je_op (fun _ _ ha hb => pe_op op_mulX ha hb) (je_op (fun _ _ ha hb => pe_ix ix_tup ha hb (fun _ _ => rfl)) (jp_var 0) jp_int (od_ixTs rfl)) (je_op (fun _ _ ha hb => pe_ix ix_tup ha hb (fun _ _ => rfl)) (jp_var 1) jp_int (od_ixTs rfl)) od_mul) (fun x680 => ja_nil)))) hB))))
/-! crossed -/
abbrev s_crossed : Stmt := topS 9
theorem sc_crossed : FnScope ["one", "other"] ["one", "other"] (defScope s_crossed) := ⟨rfl, rfl, rfl, by decide +kernel, rfl, by decide +kernel, by decide +kernel⟩
noncomputable def mb_crossed (v_one : ((Int × Int) × (Int × Int))) (v_other : ((Int × Int) × (Int × Int))) : R (Fl Unit Unit (Int × Int)) :=
((((m_times (v_one.1, v_other.2)).bind fun (x689 : (Int × Int)) => (m_times (v_one.2, v_other.1)).bind fun (z695 : (Int × Int)) => R.ok (x689, z695)).bind fun (c696 : ((Int × Int) × (Int × Int))) => (m_less (c696.1, c696.2)).bind fun (z697 : (Int × Int)) => R.ok (c696, z697)).bind fun (b698 : (((Int × Int) × (Int × Int)) × (Int × Int))) => R.ok (.rt b698.2))
noncomputable def m_crossed (a : (((Int × Int) × (Int × Int)) × ((Int × Int) × (Int × Int)))) : R (Int × Int) := fin0 (mb_crossed a.1 a.2)
abbrev i_crossed (a : (((Int × Int) × (Int × Int)) × ((Int × Int) × (Int × Int)))) : List Slot := [.val ((eP2 (eP2 D.int D.int) (eP2 D.int D.int)) a.1), .val ((eP2 (eP2 D.int D.int) (eP2 D.int D.int)) a.2)]
abbrev l_crossed (b : (Int × Int)) : Slot := .val ((eP2 D.int D.int) b)
abbrev o_crossed (b : (Int × Int)) : List Slot := [.non, .non]
theorem ok_crossed {P : Program} {w : World} {K : PySem.W.Frag} {mg : Str → Option Value} {base : Heap} (T : Top K mg) : FnG P w K mg base CX0 4 T.crossed.a T.crossed.d ["one", "other"] (spM K i_crossed m_crossed l_crossed o_crossed) := by
  show FnG P w K mg base CX0 (3 + 1) T.crossed.a T.crossed.d ["one", "other"] (spM K i_crossed (fun (a : (((Int × Int) × (Int × Int)) × ((Int × Int) × (Int × Int)))) => fin0 (mb_crossed a.1 a.2)) l_crossed o_crossed)
  refine fn_ok (n1 := fun _ => []) (c1 := fun _ => []) (k1 := fun _ => []) (ins := i_crossed) (sl := l_crossed) (outs := o_crossed) (fun (a : (((Int × Int) × (Int × Int)) × ((Int × Int) × (Int × Int)))) => mb_crossed a.1 a.2) 0 T.crossed.f sc_crossed rfl (fun _ => rfl) (fun _ => rfl) (fun _ => rfl) (fun cdv A outer s H E hr B hB a => ?_)
  show JSs _ B _ _ (mb_crossed a.1 a.2) _
  unfold mb_crossed
  exact ((js_one (js_ret (fun (b698 : (((Int × Int) × (Int × Int)) × (Int × Int))) => b698.2) [false, false] (je_callVE (ρa := fun _ => _) (ins := i_less) (mf := m_less) (sl := l_less) (outs := o_less) (ok_less T) (hr.mono (by decide)) (by rfl) T.less.g T.less.f.kp T.less.b pass0 (arg := fun (c696 : ((Int × Int) × (Int × Int))) => (c696.1, c696.2)) (ja_e (ρ' := fun _ _ => _) (ρa := fun _ => _) (xa := fun (x689 : (Int × Int)) => (eP2 D.int D.int) x689) (je_callV (ins := i_times) (mf := m_times) (sl := l_times) (outs := o_times) (ok_times T) (hr.mono (by decide)) (by rfl) T.times.g T.times.f.kp T.times.b pass0 (arg := (a.1.1, a.2.2)) (ja_p (je_op (fun _ _ ha hb => pe_ix ix_tup ha hb (fun _ _ => rfl)) (jp_var 0) jp_int (od_ixTs rfl)) (ja_p (je_op (fun _ _ ha hb => pe_ix ix_tup ha hb (fun _ _ => rfl)) (jp_var 1) jp_int (od_ixTs rfl)) ja_nil)) hB) (fun x689 => (ja_el (ρa := fun _ => _) (xa := fun (x694 : (Int × Int)) => (eP2 D.int D.int) x694) (je_callV (ins := i_times) (mf := m_times) (sl := l_times) (outs := o_times) (ok_times T) (hr.mono (by decide)) (by rfl) T.times.g T.times.f.kp T.times.b pass0 (arg := (a.1.2, a.2.1)) (ja_p (je_op (fun _ _ ha hb => pe_ix ix_tup ha hb (fun _ _ => rfl)) (jp_var 0) jp_int (od_ixTs rfl)) (ja_p (je_op (fun _ _ ha hb => pe_ix ix_tup ha hb (fun _ _ => rfl)) (jp_var 1) jp_int (od_ixTs rfl)) ja_nil)) hB) (fun x694 => ja_nil)))) hB))))
/-! area -/
abbrev s_area : Stmt := topS 15
theorem sc_area : FnScope ["drawing", "row", "found", "k", "p"] ["drawing", "row"] (defScope s_area) := ⟨rfl, rfl, rfl, by decide +kernel, rfl, by decide +kernel, by decide +kernel⟩
noncomputable def mb_area (v_drawing : (List ((Int × Int) × (Int × Int)))) (v_row : (List Int)) : R (Fl Unit Unit (Int × Int)) :=
(lt ((0 : Int), (1 : Int)) fun v_found_582 =>
(bindF (forR (fun (x587 : (Int × Int)) (s585 : (Int × Int)) =>
(((((R.some (atI v_drawing x587.2)).bind fun (x701 : ((Int × Int) × (Int × Int))) => (((R.guard (((List.length v_row : Nat) : Int) ≠ (0 : Int))).bind fun (y705 : Unit) => (R.some (atI v_row (Int.fmod (x587.1 + (1 : Int)) ((List.length v_row : Nat) : Int)))).bind fun (z710 : Int) => R.ok (y705, z710)).bind fun (y703 : (Unit × Int)) => (R.some (atI v_drawing y703.2)).bind fun (z711 : ((Int × Int) × (Int × Int))) => R.ok (y703, z711)).bind fun (z713 : ((Unit × Int) × ((Int × Int) × (Int × Int)))) => R.ok (x701, z713)).bind fun (c714 : (((Int × Int) × (Int × Int)) × ((Unit × Int) × ((Int × Int) × (Int × Int))))) => (m_crossed (c714.1, c714.2.2)).bind fun (z715 : (Int × Int)) => R.ok (c714, z715)).bind fun (c717 : ((((Int × Int) × (Int × Int)) × ((Unit × Int) × ((Int × Int) × (Int × Int)))) × (Int × Int))) => (m_plus (s585, c717.2)).bind fun (z718 : (Int × Int)) => R.ok (c717, z718)).bind fun (b720 : (((((Int × Int) × (Int × Int)) × ((Unit × Int) × ((Int × Int) × (Int × Int)))) × (Int × Int)) × (Int × Int))) => lt b720.2 fun v_found_719 =>
(R.ok (.nx v_found_719)))) (enumL v_row) v_found_582) fun n586 =>
(R.ok (.rt n586))))
noncomputable def m_area (a : ((List ((Int × Int) × (Int × Int))) × (List Int))) : R (Int × Int) := fin0 (mb_area a.1 a.2)
abbrev i_area (a : ((List ((Int × Int) × (Int × Int))) × (List Int))) : List Slot := [.val ((eT (eP2 (eP2 D.int D.int) (eP2 D.int D.int))) a.1), .val ((eT D.int) a.2)]
abbrev l_area (b : (Int × Int)) : Slot := .val ((eP2 D.int D.int) b)
abbrev o_area (b : (Int × Int)) : List Slot := [.non, .non]
theorem ok_area {P : Program} {w : World} {K : PySem.W.Frag} {mg : Str → Option Value} {base : Heap} (T : Top K mg) : FnG P w K mg base CX0 5 T.area.a T.area.d ["drawing", "row"] (spM K i_area m_area l_area o_area) := by
  show FnG P w K mg base CX0 (4 + 1) T.area.a T.area.d ["drawing", "row"] (spM K i_area (fun (a : ((List ((Int × Int) × (Int × Int))) × (List Int))) => fin0 (mb_area a.1 a.2)) l_area o_area)
  refine fn_ok (n1 := fun _ => []) (c1 := fun _ => []) (k1 := fun _ => []) (ins := i_area) (sl := l_area) (outs := o_area) (fun (a : ((List ((Int × Int) × (Int × Int))) × (List Int))) => mb_area a.1 a.2) 3 T.area.f sc_area rfl (fun _ => rfl) (fun _ => rfl) (fun _ => rfl) (fun cdv A outer s H E hr B hB a => ?_)
  show JSs _ B _ _ (mb_area a.1 a.2) _
  unfold mb_area
  exact ((js_setPQ 2 (eP2 D.int D.int) ((0 : Int), (1 : Int)) (fun (v_found_582 : (Int × Int)) => [.val ((eT (eP2 (eP2 D.int D.int) (eP2 D.int D.int))) a.1), .val ((eT D.int) a.2), .val ((eP2 D.int D.int) v_found_582), .non, .non]) sc_area.nd (jp_gtup2 T.t_NOUGHT) fun v_found_582 =>
(js_cons (ρ1 := fun (n586 : (Int × Int)) => [.val ((eT (eP2 (eP2 D.int D.int) (eP2 D.int D.int))) a.1), .val ((eT D.int) a.2), .val ((eP2 D.int D.int) n586), .non, .non]) (js_forP (en := (eP2 D.int D.int)) (fun (s585 : (Int × Int)) => [.val ((eT (eP2 (eP2 D.int D.int) (eP2 D.int D.int))) a.1), .val ((eT D.int) a.2), .val ((eP2 D.int D.int) s585), .non, .non]) (fun (x587 : (Int × Int)) (s585 : (Int × Int)) => [.val ((eT (eP2 (eP2 D.int D.int) (eP2 D.int D.int))) a.1), .val ((eT D.int) a.2), .val ((eP2 D.int D.int) s585), .val (D.int x587.1), .val (D.int x587.2)]) PassesOwn.never rfl (ji_enumT (f := D.int) (xs := fun (b583 : Unit) => a.2) (by rfl) T.z_enumerate (jp_var 1)) [true, true, true, true, true] rfl (fun x587 s585 => (jg_tup rfl (jgs_p (jg_name 3 sc_area.nd) (jgs_p (jg_name 4 sc_area.nd) jgs_nil)))) (fun x587 s585 =>
(js_setEQ 2 (eP2 D.int D.int) (fun (b720 : (((((Int × Int) × (Int × Int)) × ((Unit × Int) × ((Int × Int) × (Int × Int)))) × (Int × Int)) × (Int × Int))) => b720.2) (fun (b720 : (((((Int × Int) × (Int × Int)) × ((Unit × Int) × ((Int × Int) × (Int × Int)))) × (Int × Int)) × (Int × Int))) (v_found_719 : (Int × Int)) => [.val ((eT (eP2 (eP2 D.int D.int) (eP2 D.int D.int))) a.1), .val ((eT D.int) a.2), .val ((eP2 D.int D.int) v_found_719), .val (D.int x587.1), .val (D.int x587.2)]) sc_area.nd (je_callVE (ρa := fun _ => _) (ins := i_plus) (mf := m_plus) (sl := l_plus) (outs := o_plus) (ok_plus T) (hr.mono (by decide)) (by rfl) T.plus.g T.plus.f.kp T.plus.b pass0 (arg := fun (c717 : ((((Int × Int) × (Int × Int)) × ((Unit × Int) × ((Int × Int) × (Int × Int)))) × (Int × Int))) => (s585, c717.2)) (ja_p (jp_var 2) (ja_el (ρa := fun _ => _) (xa := fun (x716 : ((((Int × Int) × (Int × Int)) × ((Unit × Int) × ((Int × Int) × (Int × Int)))) × (Int × Int))) => (eP2 D.int D.int) x716.2) (je_callVE (ρa := fun _ => _) (ins := i_crossed) (mf := m_crossed) (sl := l_crossed) (outs := o_crossed) (ok_crossed T) (hr.mono (by decide)) (by rfl) T.crossed.g T.crossed.f.kp T.crossed.b pass0 (arg := fun (c714 : (((Int × Int) × (Int × Int)) × ((Unit × Int) × ((Int × Int) × (Int × Int))))) => (c714.1, c714.2.2)) (ja_e (ρ' := fun _ _ => _) (ρa := fun _ => _) (xa := fun (x701 : ((Int × Int) × (Int × Int))) => (eP2 (eP2 D.int D.int) (eP2 D.int D.int)) x701) (je_op (fun _ _ ha hb => pe_ix ix_tup ha hb (fun _ _ => rfl)) (jp_var 0) (jp_var 4) od_ixTm) (fun x701 => (ja_el (ρa := fun _ => _) (xa := fun (x712 : ((Unit × Int) × ((Int × Int) × (Int × Int)))) => (eP2 (eP2 D.int D.int) (eP2 D.int D.int)) x712.2) (je_opRG (ρb := fun _ => _) (s := fun (y703 : (Unit × Int)) (z711 : ((Int × Int) × (Int × Int))) => (.val ((eP2 (eP2 D.int D.int) (eP2 D.int D.int)) z711))) (xb := fun (y703 : (Unit × Int)) => D.int y703.2) (fun _ _ ha hb => pe_ix ix_tup ha hb (fun _ _ => rfl)) (jp_var 0) (je_opRG (ρb := fun _ => _) (s := fun (y705 : Unit) (z710 : Int) => (.val (D.int z710))) (xb := fun (y705 : Unit) => D.int (Int.fmod (x587.1 + (1 : Int)) ((List.length a.2 : Nat) : Int))) (fun _ _ ha hb => pe_ix ix_tup ha hb (fun _ _ => rfl)) (jp_var 1) (je_op (fun _ _ ha hb => pe_op op_modN ha hb) (je_op (fun _ _ ha hb => pe_op op_add ha hb) (jp_var 3) jp_int od_add) (je_cb (fun _ ht => pe_callB call_len_seq (by rfl) T.z_len (by decide +kernel) ht) (ja_p (jp_var 1) ja_nil) cb_lenTm) od_mod) (fun y705 => od_ixTm)) (fun y703 => od_ixTm)) (fun x712 => ja_nil)))) hB) (fun x716 => ja_nil))) hB) fun b720 v_found_719 =>
(js_nil [true, true, true, false, false] v_found_719)))) fun n586 =>
(js_one (js_retP n586 [false, false, false, true, true] (jp_var 2))))))
/-! law_is_fraction -/
abbrev s_law_is_fraction : Stmt := topS 35
theorem sc_law_is_fraction : FnScope ["_law_one", "_law_n"] ["_law_one"] (defScope s_law_is_fraction) := ⟨rfl, rfl, rfl, by decide +kernel, rfl, by decide +kernel, by decide +kernel⟩
noncomputable def mb_law_is_fraction (v_one : (Int × Int)) : R (Fl Unit Unit Bool) :=
(bindF ((or2 (R.ok ()) (fun (b736 : Unit) => (!(isTup ((eP2 D.int D.int) v_one)))) (or2 (R.ok ()) (fun (b735 : Unit) => (!decide ((2 : Int) = (2 : Int)))) (((R.ok ()).bind fun (b725 : Unit) => (R.guard (List.length [v_one.1, v_one.2] ≤ sizeLine)).bind fun _ => R.ok b725).bind fun (b734 : Unit) => R.ok (!decide ((List.map (fun (x727 : Int) => x727) (List.filter (fun (x727 : Int) => (isBool (D.int x727))) [v_one.1, v_one.2])) = ([] : List Int)))))).bind fun (b737 : Bool) => if b737 = true then (R.ok (.rt false)) else (R.ok (.nx ()))) fun n738 =>
((and2 (R.ok ()) (fun (b757 : Unit) => (isInt (D.int v_one.1))) (and2 (R.ok ()) (fun (b756 : Unit) => (isInt (D.int v_one.2))) (and2 (R.ok ()) (fun (b755 : Unit) => (decide (v_one.2 > (0 : Int)))) ((m_law_low (v_one.1, v_one.2)).bind fun (b754 : (Int × Int)) => R.ok (decide (b754 = v_one)))))).bind fun (b758 : Bool) => R.ok (.rt b758)))
noncomputable def m_law_is_fraction (a : (Int × Int)) : R Bool := fin0 (mb_law_is_fraction a)
abbrev i_law_is_fraction (a : (Int × Int)) : List Slot := [.val ((eP2 D.int D.int) a)]
abbrev l_law_is_fraction (b : Bool) : Slot := .val (D.bool b)
abbrev o_law_is_fraction (b : Bool) : List Slot := [.non]
theorem ok_law_is_fraction {P : Program} {w : World} {K : PySem.W.Frag} {mg : Str → Option Value} {base : Heap} (T : Top K mg) : FnG P w K mg base CX0 2 T.law_is_fraction.a T.law_is_fraction.d ["_law_one"] (spM K i_law_is_fraction m_law_is_fraction l_law_is_fraction o_law_is_fraction) := by
  show FnG P w K mg base CX0 (1 + 1) T.law_is_fraction.a T.law_is_fraction.d ["_law_one"] (spM K i_law_is_fraction (fun (a : (Int × Int)) => fin0 (mb_law_is_fraction a)) l_law_is_fraction o_law_is_fraction)
  refine fn_ok (n1 := fun _ => []) (c1 := fun _ => []) (k1 := fun _ => []) (ins := i_law_is_fraction) (sl := l_law_is_fraction) (outs := o_law_is_fraction) (fun (a : (Int × Int)) => mb_law_is_fraction a) 1 T.law_is_fraction.f sc_law_is_fraction rfl (fun _ => rfl) (fun _ => rfl) (fun _ => rfl) (fun cdv A outer s H E hr B hB a => ?_)
  show JSs _ B _ _ (mb_law_is_fraction a) _
  unfold mb_law_is_fraction
  exact ((js_cons (ρ1 := fun (n738 : Unit) => [.val ((eP2 D.int D.int) a), .non]) (js_if (jt_w (jw_or (xa := fun (b736 : Unit) => (!(isTup ((eP2 D.int D.int) a)))) (jt_not (jt_val (je_isi isi_tuple (jp_var 0) T.z_isinstance T.z_tuple (by decide +kernel)))) (jw_or (xa := fun (b735 : Unit) => (!decide ((2 : Int) = (2 : Int)))) (jt_op (fun _ _ ha hb => pt_cmpR op_ne ha hb (nomark _)) (je_cb (fun _ ht => pe_callB call_len_seq (by rfl) T.z_len (by decide +kernel) ht) (ja_p (jp_var 0) ja_nil) cb_lenP2) jp_int od_neI) (jw_or1 (jt_map (jt_opL (ρa := fun _ => _) (bn := fun (x730 : Unit) => (!decide ((List.map (fun (x727 : Int) => x727) (List.filter (fun (x727 : Int) => (isBool (D.int x727))) [a.1, a.2])) = ([] : List Int)))) (xa := fun (x730 : Unit) => (eL D.int) (List.map (fun (x727 : Int) => x727) (List.filter (fun (x727 : Int) => (isBool (D.int x727))) [a.1, a.2]))) (y := fun (x730 : Unit) => (eL D.int) ([] : List Int)) (fun _ _ ha hb => pt_cmpR (op_neD (un64 hr)) ha hb (nomark _)) (je_frzL (v := fun (b729 : Unit) => (List.map (fun (x727 : Int) => x727) (List.filter (fun (x727 : Int) => (isBool (D.int x727))) [a.1, a.2]))) (je_lcP (xs := fun (b725 : Unit) => [a.1, a.2]) (ea := D.int) (ts := [1]) [("_law_n", 1)] D.int (fun (x727 : Int) => [.val ((eP2 D.int D.int) a), .val (D.int x727)]) (fun (x727 : Int) => (isBool (D.int x727))) (fun (x727 : Int) => x727) rfl sc_law_is_fraction.nd (ji_tup (show JP _ _ _ _ ((eT D.int) [a.1, a.2]) from (jp_var 0))) (blkOk_by (N := ["_law_one", "_law_n"]) (sc := defScope s_law_is_fraction) (by decide +kernel)) (fun _ _ _ _ _ _ hB728 x727 => (have hB := noRs hB728 hB; (jn_name 1 sc_law_is_fraction.nd))) (fun _ _ _ _ _ _ hB728 x727 => (have hB := noRs hB728 hB; (jts_one (jt_pb (jt_val (je_isi isi_bool (jp_var 1) T.z_isinstance T.z_bool (by decide +kernel))))))) (fun _ _ _ _ _ _ hB728 x727 => (have hB := noRs hB728 hB; (jp_var 1))))) (fun x730 => (je_frzL (v := fun (b732 : Unit) => ([] : List Int)) (je_lstT D.int (fun (_ : Unit) => ([] : List Int)) ja_nil))) (fun x730 => (od_neD (ee_L ee_int))))))))) (fun b737 => (js_one (js_retP false [false, true] jp_bl))) (fun b737 => (js_nil [true, true] ()))) fun n738 =>
(js_one (js_ret (fun (b758 : Bool) => b758) [false, true] (je_and (xa := fun (b757 : Unit) => (isInt (D.int a.1))) (je_isi isi_int (je_op (fun _ _ ha hb => pe_ix ix_tup ha hb (fun _ _ => rfl)) (jp_var 0) jp_int (od_ixTs rfl)) T.z_isinstance T.z_int (by decide +kernel)) (je_and (xa := fun (b756 : Unit) => (isInt (D.int a.2))) (je_isi isi_int (je_op (fun _ _ ha hb => pe_ix ix_tup ha hb (fun _ _ => rfl)) (jp_var 0) jp_int (od_ixTs rfl)) T.z_isinstance T.z_int (by decide +kernel)) (je_and (xa := fun (b755 : Unit) => (decide (a.2 > (0 : Int)))) (je_op (fun _ _ ha hb => pe_cmpR op_gt ha hb (nomark _)) (je_op (fun _ _ ha hb => pe_ix ix_tup ha hb (fun _ _ => rfl)) (jp_var 0) jp_int (od_ixTs rfl)) jp_int od_gt) (jp_one (je_map (sl' := fun y => .val (.bool y)) (f := fun (b754 : (Int × Int)) => (decide (b754 = a))) (je_opL (ρa := fun _ => _) (s := fun (x751 : (Int × Int)) => (.val (D.bool (decide (x751 = a))))) (xa := fun (x751 : (Int × Int)) => (eP2 D.int D.int) x751) (y := fun (x751 : (Int × Int)) => (eP2 D.int D.int) a) (fun _ _ ha hb => pe_cmpR (op_eqD (un64 hr)) ha hb (nomark _)) (je_callV (ins := i_law_low) (mf := m_law_low) (sl := l_law_low) (outs := o_law_low) (ok_law_low T) (hr.mono (by decide)) (by rfl) T.law_low.g T.law_low.f.kp T.law_low.b pass0 (arg := (a.1, a.2)) (ja_p (je_op (fun _ _ ha hb => pe_ix ix_tup ha hb (fun _ _ => rfl)) (jp_var 0) jp_int (od_ixTs rfl)) (ja_p (je_op (fun _ _ ha hb => pe_ix ix_tup ha hb (fun _ _ => rfl)) (jp_var 0) jp_int (od_ixTs rfl)) ja_nil)) hB) (fun x751 => (jp_var 0)) (fun x751 => (od_eqD (ee_p2 ee_int ee_int)))) (fun _ => rfl))))))))))
/-! law_area_right -/
abbrev s_law_area_right : Stmt := topS 36
theorem sc_law_area_right : FnScope ["_law_pot_here", "_law_drawing", "_law_row_here", "_law_due", "_law_at", "_law_found", "_law_first", "_law_rest"] ["_law_pot_here", "_law_drawing", "_law_row_here"] (defScope s_law_area_right) := ⟨rfl, rfl, rfl, by decide +kernel, rfl, by decide +kernel, by decide +kernel⟩
noncomputable def mb_law_area_right (v_pot_here : (List Int)) (v_drawing : (List ((Int × Int) × (Int × Int)))) (v_row_here : (List Int)) : R (Fl Unit Unit (Bool × (List Int))) :=
((m_law_area (v_drawing, v_row_here)).bind fun (b576 : (Int × Int)) => lt b576 fun v_due_575 =>
((m_law_digit (v_pot_here, (((List.length v_row_here : Nat) : Int) + (1 : Int)))).bind fun (b581 : (Int × (List Int))) => lt b581.1 fun v_at_580 =>
((m_area (v_drawing, v_row_here)).bind fun (b722 : (Int × Int)) => lt b722 fun v_found_721 =>
(bindF ((or2 (m_law_is_fraction v_found_721) (fun (b762 : Bool) => (!b762)) ((R.ok ()).bind fun (b761 : Unit) => R.ok (!decide (v_found_721 = v_due_575)))).bind fun (b763 : Bool) => if b763 = true then (R.ok (.rt (false, b581.2))) else (R.ok (.nx ()))) fun n764 =>
(bindF ((or2 (((R.ok ()).bind fun (b765 : Unit) => (R.guard (0 ≤ List.length v_row_here)).bind fun _ => R.ok b765).bind fun (c767 : Unit) => (m_area (v_drawing, (List.reverse (List.drop 0 v_row_here)))).bind fun (z768 : (Int × Int)) => R.ok (c767, z768)) (fun (b785 : (Unit × (Int × Int))) => (!decide (b785.2 = ((-v_due_575.1), v_due_575.2)))) (((R.guard (List.length (cut v_row_here (some v_at_580) none) + List.length (cut v_row_here none (some v_at_580)) ≤ sizeLine)).bind fun (c779 : Unit) => (m_area (v_drawing, ((cut v_row_here (some v_at_580) none) ++ (cut v_row_here none (some v_at_580))))).bind fun (z780 : (Int × Int)) => R.ok (c779, z780)).bind fun (b784 : (Unit × (Int × Int))) => R.ok (!decide (b784.2 = v_due_575)))).bind fun (b786 : Bool) => if b786 = true then (R.ok (.rt (false, b581.2))) else (R.ok (.nx ()))) fun n787 =>
(((m_area (v_drawing, (cut v_row_here none (some (v_at_580 + (1 : Int)))))).bind fun (x792 : (Int × Int)) => ((R.guard (List.length (cut v_row_here none (some (1 : Int))) + List.length (cut v_row_here (some v_at_580) none) ≤ sizeLine)).bind fun (c796 : Unit) => (m_area (v_drawing, ((cut v_row_here none (some (1 : Int))) ++ (cut v_row_here (some v_at_580) none)))).bind fun (z797 : (Int × Int)) => R.ok (c796, z797)).bind fun (z799 : (Unit × (Int × Int))) => R.ok (x792, z799)).bind fun (b800 : ((Int × Int) × (Unit × (Int × Int)))) =>
((or2 (R.ok ()) (fun (b807 : Unit) => (decide (((List.length v_row_here : Nat) : Int) < (2 : Int)))) ((m_law_plus (b800.1, b800.2.2)).bind fun (b806 : (Int × Int)) => R.ok (decide (b806 = v_due_575)))).bind fun (b808 : Bool) => R.ok (.rt (b808, b581.2)))))))))
noncomputable def m_law_area_right (a : ((List Int) × (List ((Int × Int) × (Int × Int))) × (List Int))) : R (Bool × (List Int)) := fin0 (mb_law_area_right a.1 a.2.1 a.2.2)
abbrev i_law_area_right (a : ((List Int) × (List ((Int × Int) × (Int × Int))) × (List Int))) : List Slot := [.own 1 ((oL D.int) a.1), .val ((eT (eP2 (eP2 D.int D.int) (eP2 D.int D.int))) a.2.1), .val ((eT D.int) a.2.2)]
abbrev l_law_area_right (b : (Bool × (List Int))) : Slot := .val (D.bool b.1)
abbrev o_law_area_right (b : (Bool × (List Int))) : List Slot := [.own 1 ((oL D.int) b.2), .non, .non]
theorem ok_law_area_right {P : Program} {w : World} {K : PySem.W.Frag} {mg : Str → Option Value} {base : Heap} (T : Top K mg) : FnG P w K mg base CX0 6 T.law_area_right.a T.law_area_right.d ["_law_pot_here", "_law_drawing", "_law_row_here"] (spM K i_law_area_right m_law_area_right l_law_area_right o_law_area_right) := by
  show FnG P w K mg base CX0 (5 + 1) T.law_area_right.a T.law_area_right.d ["_law_pot_here", "_law_drawing", "_law_row_here"] (spM K i_law_area_right (fun (a : ((List Int) × (List ((Int × Int) × (Int × Int))) × (List Int))) => fin0 (mb_law_area_right a.1 a.2.1 a.2.2)) l_law_area_right o_law_area_right)
  refine fn_ok (n1 := fun _ => []) (c1 := fun _ => []) (k1 := fun _ => []) (ins := i_law_area_right) (sl := l_law_area_right) (outs := o_law_area_right) (fun (a : ((List Int) × (List ((Int × Int) × (Int × Int))) × (List Int))) => mb_law_area_right a.1 a.2.1 a.2.2) 5 T.law_area_right.f sc_law_area_right rfl (fun _ => rfl) (fun _ => rfl) (fun _ => rfl) (fun cdv A outer s H E hr B hB a => ?_)
  show JSs _ B _ _ (mb_law_area_right a.1 a.2.1 a.2.2) _
  unfold mb_law_area_right
  exact ((js_setEQ 3 (eP2 D.int D.int) (fun (b576 : (Int × Int)) => b576) (fun (b576 : (Int × Int)) (v_due_575 : (Int × Int)) => [.own 1 ((oL D.int) a.1), .val ((eT (eP2 (eP2 D.int D.int) (eP2 D.int D.int))) a.2.1), .val ((eT D.int) a.2.2), .val ((eP2 D.int D.int) v_due_575), .non, .non, .non, .non]) sc_law_area_right.nd (je_callV (ins := i_law_area) (mf := m_law_area) (sl := l_law_area) (outs := o_law_area) (ok_law_area T) (hr.mono (by decide)) (by rfl) T.law_area.g T.law_area.f.kp T.law_area.b pass0 (arg := (a.2.1, a.2.2)) (ja_p (jp_var 1) (ja_p (jp_var 2) ja_nil)) hB) fun b576 v_due_575 =>
(js_setEQ 4 D.int (fun (b581 : (Int × (List Int))) => b581.1) (fun (b581 : (Int × (List Int))) (v_at_580 : Int) => [.own 1 ((oL D.int) b581.2), .val ((eT (eP2 (eP2 D.int D.int) (eP2 D.int D.int))) a.2.1), .val ((eT D.int) a.2.2), .val ((eP2 D.int D.int) v_due_575), .val (D.int v_at_580), .non, .non, .non]) sc_law_area_right.nd (je_callQ (ins := i_law_digit) (mf := m_law_digit) (sl := l_law_digit) (outs := o_law_digit) (ok_law_digit T) (hr.mono (by decide)) (by rfl) T.law_digit.g T.law_digit.f.kp T.law_digit.b pass0 (arg := (a.1, (((List.length a.2.2 : Nat) : Int) + (1 : Int)))) (fun (b579 : (Int × (List Int))) => [.own 1 ((oL D.int) b579.2), .val ((eT (eP2 (eP2 D.int D.int) (eP2 D.int D.int))) a.2.1), .val ((eT D.int) a.2.2), .val ((eP2 D.int D.int) v_due_575), .non, .non, .non, .non]) (ja_s 0 (ja_p (je_op (fun _ _ ha hb => pe_op op_add ha hb) (je_cb (fun _ ht => pe_callB call_len_seq (by rfl) T.z_len (by decide +kernel) ht) (ja_p (jp_var 2) ja_nil) cb_lenTm) jp_int od_add) ja_nil)) hB) fun b581 v_at_580 =>
(js_setEQ 5 (eP2 D.int D.int) (fun (b722 : (Int × Int)) => b722) (fun (b722 : (Int × Int)) (v_found_721 : (Int × Int)) => [.own 1 ((oL D.int) b581.2), .val ((eT (eP2 (eP2 D.int D.int) (eP2 D.int D.int))) a.2.1), .val ((eT D.int) a.2.2), .val ((eP2 D.int D.int) v_due_575), .val (D.int v_at_580), .val ((eP2 D.int D.int) v_found_721), .non, .non]) sc_law_area_right.nd (je_callV (ins := i_area) (mf := m_area) (sl := l_area) (outs := o_area) (ok_area T) (hr.mono (by decide)) (by rfl) T.area.g T.area.f.kp T.area.b pass0 (arg := (a.2.1, a.2.2)) (ja_p (jp_var 1) (ja_p (jp_var 2) ja_nil)) hB) fun b722 v_found_721 =>
(js_cons (ρ1 := fun (n764 : Unit) => [.own 1 ((oL D.int) b581.2), .val ((eT (eP2 (eP2 D.int D.int) (eP2 D.int D.int))) a.2.1), .val ((eT D.int) a.2.2), .val ((eP2 D.int D.int) v_due_575), .val (D.int v_at_580), .val ((eP2 D.int D.int) v_found_721), .non, .non]) (js_if (jt_w (jw_or (xa := fun (b762 : Bool) => (!b762)) (jt_not (jt_val (je_callV (ins := i_law_is_fraction) (mf := m_law_is_fraction) (sl := l_law_is_fraction) (outs := o_law_is_fraction) (ok_law_is_fraction T) (hr.mono (by decide)) (by rfl) T.law_is_fraction.g T.law_is_fraction.f.kp T.law_is_fraction.b pass0 (arg := v_found_721) (ja_p (jp_var 5) ja_nil) hB))) (jw_or1 (jt_map (jt_op (fun _ _ ha hb => pt_cmpR (op_neD (un64 hr)) ha hb (nomark _)) (jp_var 5) (jp_var 3) (od_neD (ee_p2 ee_int ee_int))))))) (fun b763 => (js_one (js_retP (false, b581.2) [true, false, false, false, false, false, true, true] jp_bl))) (fun b763 => (js_nil [true, true, true, true, true, true, true, true] ()))) fun n764 =>
(js_cons (ρ1 := fun (n787 : Unit) => [.own 1 ((oL D.int) b581.2), .val ((eT (eP2 (eP2 D.int D.int) (eP2 D.int D.int))) a.2.1), .val ((eT D.int) a.2.2), .val ((eP2 D.int D.int) v_due_575), .val (D.int v_at_580), .val ((eP2 D.int D.int) v_found_721), .non, .non]) (js_if (jt_w (jw_or (xa := fun (b785 : (Unit × (Int × Int))) => (!decide (b785.2 = ((-v_due_575.1), v_due_575.2)))) (jt_opL (ρa := fun _ => _) (bn := fun (x769 : (Unit × (Int × Int))) => (!decide (x769.2 = ((-v_due_575.1), v_due_575.2)))) (xa := fun (x769 : (Unit × (Int × Int))) => (eP2 D.int D.int) x769.2) (y := fun (x769 : (Unit × (Int × Int))) => (eP2 D.int D.int) ((-v_due_575.1), v_due_575.2)) (fun _ _ ha hb => pt_cmpR (op_neD (un64 hr)) ha hb (nomark _)) (je_callVE (ρa := fun _ => _) (ins := i_area) (mf := m_area) (sl := l_area) (outs := o_area) (ok_area T) (hr.mono (by decide)) (by rfl) T.area.g T.area.f.kp T.area.b pass0 (arg := fun (c767 : Unit) => (a.2.1, (List.reverse (List.drop 0 a.2.2)))) (ja_p (jp_var 1) (ja_el (ρa := fun _ => _) (xa := fun (x766 : Unit) => (eT D.int) (List.reverse (List.drop 0 a.2.2))) (je_revT (f := D.int) (xs := fun (b765 : Unit) => a.2.2) (jp_var 2) po_none (.inl ⟨rfl, rfl⟩)) (fun x766 => ja_nil))) hB) (fun x769 => (je_tup (ja_p (jp_neg (je_op (fun _ _ ha hb => pe_ix ix_tup ha hb (fun _ _ => rfl)) (jp_var 3) jp_int (od_ixTs rfl))) (ja_p (je_op (fun _ _ ha hb => pe_ix ix_tup ha hb (fun _ _ => rfl)) (jp_var 3) jp_int (od_ixTs rfl)) ja_nil)))) (fun x769 => (od_neD (ee_p2 ee_int ee_int)))) (jw_or1 (jt_map (jt_opL (ρa := fun _ => _) (bn := fun (x781 : (Unit × (Int × Int))) => (!decide (x781.2 = v_due_575))) (xa := fun (x781 : (Unit × (Int × Int))) => (eP2 D.int D.int) x781.2) (y := fun (x781 : (Unit × (Int × Int))) => (eP2 D.int D.int) v_due_575) (fun _ _ ha hb => pt_cmpR (op_neD (un64 hr)) ha hb (nomark _)) (je_callVE (ρa := fun _ => _) (ins := i_area) (mf := m_area) (sl := l_area) (outs := o_area) (ok_area T) (hr.mono (by decide)) (by rfl) T.area.g T.area.f.kp T.area.b pass0 (arg := fun (c779 : Unit) => (a.2.1, ((cut a.2.2 (some v_at_580) none) ++ (cut a.2.2 none (some v_at_580))))) (ja_p (jp_var 1) (ja_el (ρa := fun _ => _) (xa := fun (x778 : Unit) => (eT D.int) ((cut a.2.2 (some v_at_580) none) ++ (cut a.2.2 none (some v_at_580)))) (je_op (fun _ _ ha hb => pe_op op_catA ha hb) (je_slTm (jp_var 2) (fun _ => (jo_some (jp_var 4))) (fun _ => jo_none)) (je_slTm (jp_var 2) (fun _ => jo_none) (fun _ => (jo_some (jp_var 4)))) od_catAm) (fun x778 => ja_nil))) hB) (fun x781 => (jp_var 3)) (fun x781 => (od_neD (ee_p2 ee_int ee_int)))))))) (fun b786 => (js_one (js_retP (false, b581.2) [true, false, false, false, false, false, true, true] jp_bl))) (fun b786 => (js_nil [true, true, true, true, true, true, true, true] ()))) fun n787 =>
(js_consQ1 (fun (b800 : ((Int × Int) × (Unit × (Int × Int)))) => [.own 1 ((oL D.int) b581.2), .val ((eT (eP2 (eP2 D.int D.int) (eP2 D.int D.int))) a.2.1), .val ((eT D.int) a.2.2), .val ((eP2 D.int D.int) v_due_575), .val (D.int v_at_580), .val ((eP2 D.int D.int) v_found_721), .val ((eP2 D.int D.int) b800.1), .val ((eP2 D.int D.int) b800.2.2)]) (j1_par 6 7 (d1 := fun (b800 : ((Int × Int) × (Unit × (Int × Int)))) => (eP2 D.int D.int) b800.1) (d2 := fun (b800 : ((Int × Int) × (Unit × (Int × Int)))) => (eP2 D.int D.int) b800.2.2) rfl sc_law_area_right.nd (ja_e (ρ' := fun _ _ => _) (ρa := fun _ => _) (xa := fun (x792 : (Int × Int)) => (eP2 D.int D.int) x792) (je_callV (ins := i_area) (mf := m_area) (sl := l_area) (outs := o_area) (ok_area T) (hr.mono (by decide)) (by rfl) T.area.g T.area.f.kp T.area.b pass0 (arg := (a.2.1, (cut a.2.2 none (some (v_at_580 + (1 : Int)))))) (ja_p (jp_var 1) (ja_p (je_slTm (jp_var 2) (fun _ => jo_none) (fun _ => (jo_some (je_op (fun _ _ ha hb => pe_op op_add ha hb) (jp_var 4) jp_int od_add)))) ja_nil)) hB) (fun x792 => (ja_el (ρa := fun _ => _) (xa := fun (x798 : (Unit × (Int × Int))) => (eP2 D.int D.int) x798.2) (je_callVE (ρa := fun _ => _) (ins := i_area) (mf := m_area) (sl := l_area) (outs := o_area) (ok_area T) (hr.mono (by decide)) (by rfl) T.area.g T.area.f.kp T.area.b pass0 (arg := fun (c796 : Unit) => (a.2.1, ((cut a.2.2 none (some (1 : Int))) ++ (cut a.2.2 (some v_at_580) none)))) (ja_p (jp_var 1) (ja_el (ρa := fun _ => _) (xa := fun (x795 : Unit) => (eT D.int) ((cut a.2.2 none (some (1 : Int))) ++ (cut a.2.2 (some v_at_580) none))) (je_op (fun _ _ ha hb => pe_op op_catA ha hb) (je_slTm (jp_var 2) (fun _ => jo_none) (fun _ => (jo_some jp_int))) (je_slTm (jp_var 2) (fun _ => (jo_some (jp_var 4))) (fun _ => jo_none)) od_catAm) (fun x795 => ja_nil))) hB) (fun x798 => ja_nil))))) fun b800 =>
(js_one (js_ret (fun (b808 : Bool) => (b808, b581.2)) [true, false, false, false, false, false, false, false] (je_or (xa := fun (b807 : Unit) => (decide (((List.length a.2.2 : Nat) : Int) < (2 : Int)))) (je_op (fun _ _ ha hb => pe_cmpR op_lt ha hb (nomark _)) (je_cb (fun _ ht => pe_callB call_len_seq (by rfl) T.z_len (by decide +kernel) ht) (ja_p (jp_var 2) ja_nil) cb_lenTm) jp_int od_lt) (jp_one (je_map (sl' := fun y => .val (.bool y)) (f := fun (b806 : (Int × Int)) => (decide (b806 = v_due_575))) (je_opL (ρa := fun _ => _) (s := fun (x803 : (Int × Int)) => (.val (D.bool (decide (x803 = v_due_575))))) (xa := fun (x803 : (Int × Int)) => (eP2 D.int D.int) x803) (y := fun (x803 : (Int × Int)) => (eP2 D.int D.int) v_due_575) (fun _ _ ha hb => pe_cmpR (op_eqD (un64 hr)) ha hb (nomark _)) (je_callV (ins := i_law_plus) (mf := m_law_plus) (sl := l_law_plus) (outs := o_law_plus) (ok_law_plus T) (hr.mono (by decide)) (by rfl) T.law_plus.g T.law_plus.f.kp T.law_plus.b pass0 (arg := (b800.1, b800.2.2)) (ja_p (jp_var 6) (ja_p (jp_var 7) ja_nil)) hB) (fun x803 => (jp_var 3)) (fun x803 => (od_eqD (ee_p2 ee_int ee_int)))) (fun _ => rfl)))))))))))))
/-! law_row -/
abbrev s_law_row : Stmt := topS 33
theorem sc_law_row : FnScope ["_law_pot_here", "_law_many", "_law_k"] ["_law_pot_here", "_law_many"] (defScope s_law_row) := ⟨rfl, rfl, rfl, by decide +kernel, rfl, by decide +kernel, by decide +kernel⟩
noncomputable def mb_law_row (v_pot_here : (List Int)) (v_many : Int) : R (Fl Unit Unit ((List Int) × (List Int))) :=
((((m_law_digit (v_pot_here, (10 : Int))).bind fun (b811 : (Int × (List Int))) => (R.guard (rngOk b811.1)).bind fun z812 => R.ok b811).bind fun (b813 : (Int × (List Int))) => (R.guard (List.length (rng 0 b813.1) ≤ sizeLine)).bind fun _ => compR (compF (fun (x815 : Int) (s814 : (List Int)) => R.ok ()) (fun (z819 : Unit) => true) (fun (x815 : Int) (s814 : (List Int)) => ((m_law_digit (s814, v_many)).bind fun (y818 : (Int × (List Int))) => R.ok (y818.1, y818.2))) Prod.fst Prod.snd) (rng 0 b813.1) [] b813.2).bind fun (b825 : ((List Int) × (List Int))) => R.ok (.rt (b825.1, b825.2)))
noncomputable def m_law_row (a : ((List Int) × Int)) : R ((List Int) × (List Int)) := fin0 (mb_law_row a.1 a.2)
abbrev i_law_row (a : ((List Int) × Int)) : List Slot := [.own 1 ((oL D.int) a.1), .val (D.int a.2)]
abbrev l_law_row (b : ((List Int) × (List Int))) : Slot := .val ((eT D.int) b.1)
abbrev o_law_row (b : ((List Int) × (List Int))) : List Slot := [.own 1 ((oL D.int) b.2), .non]
theorem ok_law_row {P : Program} {w : World} {K : PySem.W.Frag} {mg : Str → Option Value} {base : Heap} (T : Top K mg) : FnG P w K mg base CX0 2 T.law_row.a T.law_row.d ["_law_pot_here", "_law_many"] (spM K i_law_row m_law_row l_law_row o_law_row) := by
  show FnG P w K mg base CX0 (1 + 1) T.law_row.a T.law_row.d ["_law_pot_here", "_law_many"] (spM K i_law_row (fun (a : ((List Int) × Int)) => fin0 (mb_law_row a.1 a.2)) l_law_row o_law_row)
  refine fn_ok (n1 := fun _ => []) (c1 := fun _ => []) (k1 := fun _ => []) (ins := i_law_row) (sl := l_law_row) (outs := o_law_row) (fun (a : ((List Int) × Int)) => mb_law_row a.1 a.2) 1 T.law_row.f sc_law_row rfl (fun _ => rfl) (fun _ => rfl) (fun _ => rfl) (fun cdv A outer s H E hr B hB a => ?_)
  show JSs _ B _ _ (mb_law_row a.1 a.2) _
  unfold mb_law_row
  exact ((js_one (js_ret (fun (b825 : ((List Int) × (List Int))) => (b825.1, b825.2)) [true, false, true] (je_cbN (s := fun (c823 : ((List Int) × (List Int))) => .val ((eT D.int) c823.1)) (fun _ ht => pe_callTy call_tuple_of (by rfl) T.z_tuple (by decide +kernel) ht) (ja_el (xa := fun (x822 : ((List Int) × (List Int))) => (eL D.int) x822.1) (je_frzL (v := fun (b821 : ((List Int) × (List Int))) => b821.1) (je_lc (xs := fun (b813 : (Int × (List Int))) => (rng 0 b813.1)) (ea := D.int) (ts := [2]) (c := fun (x815 : Int) (s814 : (List Int)) => R.ok ()) (bn := fun (z819 : Unit) => true) (me := fun (x815 : Int) (s814 : (List Int)) => ((m_law_digit (s814, a.2)).bind fun (y818 : (Int × (List Int))) => R.ok (y818.1, y818.2))) [("_law_k", 2)] D.int (fun (s814 : (List Int)) => [.own 1 ((oL D.int) s814), .val (D.int a.2), .non]) (fun (b813 : (Int × (List Int))) => b813.2) (fun (x815 : Int) (s814 : (List Int)) => [.own 1 ((oL D.int) s814), .val (D.int a.2), .val (D.int x815)]) Prod.fst Prod.snd rfl sc_law_row.nd (ji_rng1 (fun (b811 : (Int × (List Int))) => b811.1) T.z_range (ja_el (xa := fun (x810 : (Int × (List Int))) => D.int x810.1) (je_callQ (ins := i_law_digit) (mf := m_law_digit) (sl := l_law_digit) (outs := o_law_digit) (ok_law_digit T) (hr.mono (by decide)) (by rfl) T.law_digit.g T.law_digit.f.kp T.law_digit.b pass0 (arg := (a.1, (10 : Int))) (fun (b809 : (Int × (List Int))) => [.own 1 ((oL D.int) b809.2), .val (D.int a.2), .non]) (ja_s 0 (ja_p jp_int ja_nil)) hB) (fun x810 => ja_nil))) (blkOk_by (N := ["_law_pot_here", "_law_many", "_law_k"]) (sc := defScope s_law_row) (by decide +kernel)) (fun _ => rfl) (fun _ _ _ _ _ _ hB816 x815 s814 => (have hB := noRs hB816 hB; (jn_name 2 sc_law_row.nd))) (fun _ _ _ _ _ _ hB816 x815 s814 => (have hB := noRs hB816 hB; jts_nil)) (fun _ _ _ _ _ _ hB816 x815 s814 => (have hB := noRs hB816 hB; (je_mapS (en := D.int) (v := fun (y818 : (Int × (List Int))) => y818.1) (st := fun (y818 : (Int × (List Int))) => y818.2) (ρ' := fun (s820 : (List Int)) => [.own 1 ((oL D.int) s820), .val (D.int a.2), .val (D.int x815)]) (je_callQ (ins := i_law_digit) (mf := m_law_digit) (sl := l_law_digit) (outs := o_law_digit) (ok_law_digit T) (hr.mono (by decide)) (by rfl) T.law_digit.g T.law_digit.f.kp T.law_digit.b pass0 (arg := (s814, a.2)) (fun (b817 : (Int × (List Int))) => [.own 1 ((oL D.int) b817.2), .val (D.int a.2), .val (D.int x815)]) (ja_s 0 (ja_p (jp_var 1) ja_nil)) hB)))))) (fun x822 => ja_nil)) (fun c823 => cb_tupL)))))
/-! law_unlike -/
abbrev s_law_unlike : Stmt := topS 34
theorem sc_law_unlike : FnScope ["_law_pot_here", "_law_many", "_law_left", "_law_at", "_law_found", "_law_k"] ["_law_pot_here", "_law_many"] (defScope s_law_unlike) := ⟨rfl, rfl, rfl, by decide +kernel, rfl, by decide +kernel, by decide +kernel⟩
noncomputable def mb_law_unlike (v_pot_here : (List Int)) (v_many : Int) : R (Fl Unit Unit ((List Int) × (List Int))) :=
((R.guard (RgOk 0 v_many)).bind fun (b852 : Unit) => lt (rng 0 v_many) fun v_left_851 =>
(bindF ((m_law_digit (v_pot_here, (2 : Int))).bind fun (b857 : (Int × (List Int))) => if (decide (b857.1 = (0 : Int))) = true then ((m_law_digit (b857.2, v_many)).bind fun (b860 : (Int × (List Int))) => lt b860.1 fun v_at_859 =>
((R.guard (List.length (cut v_left_851 (some v_at_859) none) + List.length (cut v_left_851 none (some v_at_859)) ≤ sizeLine)).bind fun (b873 : Unit) => lt ((cut v_left_851 (some v_at_859) none) ++ (cut v_left_851 none (some v_at_859))) fun v_left_872 =>
((m_law_digit (b860.2, (v_many + (1 : Int)))).bind fun (b885 : (Int × (List Int))) => R.ok (.rt ((cut v_left_872 none (some b885.1)), b885.2))))) else (R.ok (.nx b857.2))) fun n886 =>
((R.ok ()).bind fun (b888 : Unit) => lt ([] : List Int) fun v_found_887 =>
(bindF (((m_law_digit (n886, (v_many + (1 : Int)))).bind fun (b893 : (Int × (List Int))) => (R.guard (rngOk b893.1)).bind fun z894 => R.ok b893).bind fun (b895 : (Int × (List Int))) => forR (fun (x898 : Int) (s896 : ((List Int) × (List Int) × (List Int))) =>
((((R.ok ()).bind fun (j902 : Unit) => ((m_law_digit (s896.1, ((List.length s896.2.1 : Nat) : Int)))).bind fun (b903 : (Int × (List Int))) => (R.some (popAt s896.2.1 b903.1)).bind fun (c904 : (Int × Nat)) => R.ok (j902, b903, c904)).bind fun (b899 : (Unit × (Int × (List Int)) × (Int × Nat))) => (R.guard (List.length s896.2.2 < sizeLine)).bind fun _ => R.ok b899).bind fun (b907 : (Unit × (Int × (List Int)) × (Int × Nat))) =>
(R.ok (.nx (b907.2.1.2, (List.eraseIdx s896.2.1 b907.2.2.2), (s896.2.2 ++ [b907.2.2.1])))))) (rng 0 b895.1) (b895.2, v_left_851, v_found_887)) fun n897 =>
(R.ok (.rt (n897.2.2, n897.1)))))))
noncomputable def m_law_unlike (a : ((List Int) × Int)) : R ((List Int) × (List Int)) := fin0 (mb_law_unlike a.1 a.2)
abbrev i_law_unlike (a : ((List Int) × Int)) : List Slot := [.own 1 ((oL D.int) a.1), .val (D.int a.2)]
abbrev l_law_unlike (b : ((List Int) × (List Int))) : Slot := .val ((eT D.int) b.1)
abbrev o_law_unlike (b : ((List Int) × (List Int))) : List Slot := [.own 1 ((oL D.int) b.2), .non]
theorem ok_law_unlike {P : Program} {w : World} {K : PySem.W.Frag} {mg : Str → Option Value} {base : Heap} (T : Top K mg) : FnG P w K mg base CX0 2 T.law_unlike.a T.law_unlike.d ["_law_pot_here", "_law_many"] (spM K i_law_unlike m_law_unlike l_law_unlike o_law_unlike) := by
  show FnG P w K mg base CX0 (1 + 1) T.law_unlike.a T.law_unlike.d ["_law_pot_here", "_law_many"] (spM K i_law_unlike (fun (a : ((List Int) × Int)) => fin0 (mb_law_unlike a.1 a.2)) l_law_unlike o_law_unlike)
  refine fn_ok (n1 := fun _ => []) (c1 := fun _ => []) (k1 := fun _ => []) (ins := i_law_unlike) (sl := l_law_unlike) (outs := o_law_unlike) (fun (a : ((List Int) × Int)) => mb_law_unlike a.1 a.2) 4 T.law_unlike.f sc_law_unlike rfl (fun _ => rfl) (fun _ => rfl) (fun _ => rfl) (fun cdv A outer s H E hr B hB a => ?_)
  show JSs _ B _ _ (mb_law_unlike a.1 a.2) _
  unfold mb_law_unlike
  exact ((js_setOQ 2 (oL D.int) (fun (b852 : Unit) => (rng 0 a.2)) (fun (b852 : Unit) (v_left_851 : (List Int)) => [.own 1 ((oL D.int) a.1), .val (D.int a.2), .own 0 ((oL D.int) v_left_851), .non, .non, .non]) sc_law_unlike.nd (je_lrg1 rfl T.z_list T.z_range (jp_var 1)) fun b852 v_left_851 =>
(js_cons (ρ1 := fun (n886 : (List Int)) => [.own 1 ((oL D.int) n886), .val (D.int a.2), .own 0 ((oL D.int) v_left_851), .non, .non, .non]) (js_if (jt_opL (bn := fun (x854 : (Int × (List Int))) => (decide (x854.1 = (0 : Int)))) (xa := fun (x854 : (Int × (List Int))) => D.int x854.1) (y := fun (x854 : (Int × (List Int))) => D.int (0 : Int)) (fun _ _ ha hb => pt_cmpR op_eq ha hb (nomark _)) (je_callQ (ins := i_law_digit) (mf := m_law_digit) (sl := l_law_digit) (outs := o_law_digit) (ok_law_digit T) (hr.mono (by decide)) (by rfl) T.law_digit.g T.law_digit.f.kp T.law_digit.b pass0 (arg := (a.1, (2 : Int))) (fun (b853 : (Int × (List Int))) => [.own 1 ((oL D.int) b853.2), .val (D.int a.2), .own 0 ((oL D.int) v_left_851), .non, .non, .non]) (ja_s 0 (ja_p jp_int ja_nil)) hB) (fun x854 => jp_int) (fun x854 => od_eqI)) (fun b857 => (js_setEQ 3 D.int (fun (b860 : (Int × (List Int))) => b860.1) (fun (b860 : (Int × (List Int))) (v_at_859 : Int) => [.own 1 ((oL D.int) b860.2), .val (D.int a.2), .own 0 ((oL D.int) v_left_851), .val (D.int v_at_859), .non, .non]) sc_law_unlike.nd (je_callQ (ins := i_law_digit) (mf := m_law_digit) (sl := l_law_digit) (outs := o_law_digit) (ok_law_digit T) (hr.mono (by decide)) (by rfl) T.law_digit.g T.law_digit.f.kp T.law_digit.b pass0 (arg := (b857.2, a.2)) (fun (b858 : (Int × (List Int))) => [.own 1 ((oL D.int) b858.2), .val (D.int a.2), .own 0 ((oL D.int) v_left_851), .non, .non, .non]) (ja_s 0 (ja_p (jp_var 1) ja_nil)) hB) fun b860 v_at_859 =>
(js_setOQ 2 (oL D.int) (fun (b873 : Unit) => ((cut v_left_851 (some v_at_859) none) ++ (cut v_left_851 none (some v_at_859)))) (fun (b873 : Unit) (v_left_872 : (List Int)) => [.own 1 ((oL D.int) b860.2), .val (D.int a.2), .own 0 ((oL D.int) v_left_872), .val (D.int v_at_859), .non, .non]) sc_law_unlike.nd (je_op (fun _ _ ha hb => pe_op op_catR ha hb) (je_frzL (v := fun (b863 : Unit) => (cut v_left_851 (some v_at_859) none)) (je_bor 2 (d := (eL D.int) v_left_851) (ρ1 := fun (b861 : Unit) => [.own 1 ((oL D.int) b860.2), .val (D.int a.2), .val ((eL D.int) v_left_851), .val (D.int v_at_859), .non, .non]) (ρ2 := fun (b861 : Unit) => [.own 1 ((oL D.int) b860.2), .val (D.int a.2), .non, .val (D.int v_at_859), .non, .non]) (ρ' := fun (b861 : Unit) => [.own 1 ((oL D.int) b860.2), .val (D.int a.2), .own 0 ((oL D.int) v_left_851), .val (D.int v_at_859), .non, .non]) (sl := fun (b861 : Unit) => .own 0 ((oL D.int) (cut v_left_851 (some v_at_859) none))) rfl (toD_oL _ _) (fun _ hB862 => (have hB := noRs hB862 hB; (je_slLm (jp_var 2) (fun _ => (jo_some (jp_var 3))) (fun _ => jo_none)))) (fun (b861 : Unit) => (.cons (.o (fl_oL fl_int b860.2)) (.cons .k (.cons .f (.cons .k (.cons .f (.cons .f .nil))))))) (fun (b861 : Unit) => fl_oL fl_int (cut v_left_851 (some v_at_859) none)) (fun _ => rfl))) (je_frzL (v := fun (b871 : Unit) => (cut v_left_851 none (some v_at_859))) (je_bor 2 (d := (eL D.int) v_left_851) (ρ1 := fun (b869 : Unit) => [.own 1 ((oL D.int) b860.2), .val (D.int a.2), .val ((eL D.int) v_left_851), .val (D.int v_at_859), .non, .non]) (ρ2 := fun (b869 : Unit) => [.own 1 ((oL D.int) b860.2), .val (D.int a.2), .non, .val (D.int v_at_859), .non, .non]) (ρ' := fun (b869 : Unit) => [.own 1 ((oL D.int) b860.2), .val (D.int a.2), .own 0 ((oL D.int) v_left_851), .val (D.int v_at_859), .non, .non]) (sl := fun (b869 : Unit) => .own 0 ((oL D.int) (cut v_left_851 none (some v_at_859)))) rfl (toD_oL _ _) (fun _ hB870 => (have hB := noRs hB870 hB; (je_slLm (jp_var 2) (fun _ => jo_none) (fun _ => (jo_some (jp_var 3)))))) (fun (b869 : Unit) => (.cons (.o (fl_oL fl_int b860.2)) (.cons .k (.cons .f (.cons .k (.cons .f (.cons .f .nil))))))) (fun (b869 : Unit) => fl_oL fl_int (cut v_left_851 none (some v_at_859))) (fun _ => rfl))) od_catm) fun b873 v_left_872 =>
(js_frz 2 rfl (toD_oL _ _) (js_one (js_ret (fun (b885 : (Int × (List Int))) => ((cut v_left_872 none (some b885.1)), b885.2)) [true, false, false, false, true, true] (je_cbN (s := fun (c883 : (Int × (List Int))) => .val ((eT D.int) (cut v_left_872 none (some c883.1)))) (fun _ ht => pe_callTy call_tuple_of (by rfl) T.z_tuple (by decide +kernel) ht) (ja_el (xa := fun (x882 : (Int × (List Int))) => (eL D.int) (cut v_left_872 none (some x882.1))) (je_frzL (v := fun (b881 : (Int × (List Int))) => (cut v_left_872 none (some b881.1))) (je_slLU (f := D.int) (xs := v_left_872) (k := fun (b880 : (Int × (List Int))) => b880.1) (jp_var 2) (je_callQ (ins := i_law_digit) (mf := m_law_digit) (sl := l_law_digit) (outs := o_law_digit) (ok_law_digit T) (hr.mono (by decide)) (by rfl) T.law_digit.g T.law_digit.f.kp T.law_digit.b pass0 (arg := (b860.2, (a.2 + (1 : Int)))) (fun (b879 : (Int × (List Int))) => [.own 1 ((oL D.int) b879.2), .val (D.int a.2), .val ((eL D.int) v_left_872), .val (D.int v_at_859), .non, .non]) (ja_s 0 (ja_p (je_op (fun _ _ ha hb => pe_op op_add ha hb) (jp_var 1) jp_int od_add) ja_nil)) hB))) (fun x882 => ja_nil)) (fun c883 => cb_tupL)))))))) (fun b857 => (js_nil [true, true, true, true, true, true] b857.2))) fun n886 =>
(js_setOQ 4 (oL D.int) (fun (b888 : Unit) => ([] : List Int)) (fun (b888 : Unit) (v_found_887 : (List Int)) => [.own 1 ((oL D.int) n886), .val (D.int a.2), .own 0 ((oL D.int) v_left_851), .non, .own 0 ((oL D.int) v_found_887), .non]) sc_law_unlike.nd (je_lstT D.int (fun (_ : Unit) => ([] : List Int)) ja_nil) fun b888 v_found_887 =>
(js_cons (ρ1 := fun (n897 : ((List Int) × (List Int) × (List Int))) => [.own 1 ((oL D.int) n897.1), .val (D.int a.2), .own 0 ((oL D.int) n897.2.1), .non, .own 0 ((oL D.int) n897.2.2), .non]) (js_for (en := D.int) (xs := fun (b895 : (Int × (List Int))) => (rng 0 b895.1)) (s0 := fun (b895 : (Int × (List Int))) => (b895.2, v_left_851, v_found_887)) (fun (s896 : ((List Int) × (List Int) × (List Int))) => [.own 1 ((oL D.int) s896.1), .val (D.int a.2), .own 0 ((oL D.int) s896.2.1), .non, .own 0 ((oL D.int) s896.2.2), .non]) (fun (x898 : Int) (s896 : ((List Int) × (List Int) × (List Int))) => [.own 1 ((oL D.int) s896.1), .val (D.int a.2), .own 0 ((oL D.int) s896.2.1), .non, .own 0 ((oL D.int) s896.2.2), .val (D.int x898)]) PassesOwn.never rfl (ji_rng1 (fun (b893 : (Int × (List Int))) => b893.1) T.z_range (ja_el (xa := fun (x892 : (Int × (List Int))) => D.int x892.1) (je_callQ (ins := i_law_digit) (mf := m_law_digit) (sl := l_law_digit) (outs := o_law_digit) (ok_law_digit T) (hr.mono (by decide)) (by rfl) T.law_digit.g T.law_digit.f.kp T.law_digit.b pass0 (arg := (n886, (a.2 + (1 : Int)))) (fun (b891 : (Int × (List Int))) => [.own 1 ((oL D.int) b891.2), .val (D.int a.2), .own 0 ((oL D.int) v_left_851), .non, .own 0 ((oL D.int) v_found_887), .non]) (ja_s 0 (ja_p (je_op (fun _ _ ha hb => pe_op op_add ha hb) (jp_var 1) jp_int od_add) ja_nil)) hB) (fun x892 => ja_nil))) [true, true, true, true, true, true] (fun _ => rfl) (fun x898 s896 => (jg_name 5 sc_law_unlike.nd)) (fun x898 s896 =>
(js_consQ1 (fun (b907 : (Unit × (Int × (List Int)) × (Int × Nat))) => [.own 1 ((oL D.int) b907.2.1.2), .val (D.int a.2), .own 0 ((oL D.int) (List.eraseIdx s896.2.1 b907.2.2.2)), .non, .own 0 ((oL D.int) (s896.2.2 ++ [b907.2.2.1])), .val (D.int x898)]) (j1_expr (je_app 4 (f := D.int) (y := fun (b899 : (Unit × (Int × (List Int)) × (Int × Nat))) => b899.2.2.1) (ρ' := fun (b899 : (Unit × (Int × (List Int)) × (Int × Nat))) => [.own 1 ((oL D.int) b899.2.1.2), .val (D.int a.2), .own 0 ((oL D.int) (List.eraseIdx s896.2.1 b899.2.2.2)), .non, .own 0 ((oL D.int) s896.2.2), .val (D.int x898)]) (fun (b899 : (Unit × (Int × (List Int)) × (Int × Nat))) => s896.2.2) (je_mth 2 (d := (eL D.int) s896.2.1) (m0 := (R.ok ())) (path := (fun _ => [])) (m := fun _ => (m_law_digit (s896.1, ((List.length s896.2.1 : Nat) : Int)))) (as := fun (j902 : Unit) (b903 : (Int × (List Int))) => [D.int b903.1]) (m2 := fun (j902 : Unit) (b903 : (Int × (List Int))) => R.some (popAt s896.2.1 b903.1)) (ds := fun (j902 : Unit) => List.map D.int s896.2.1) (res := fun _ _ (c904 : (Int × Nat)) => D.int c904.1) (ds' := fun (j902 : Unit) (b903 : (Int × (List Int))) (c904 : (Int × Nat)) => List.map D.int (List.eraseIdx s896.2.1 c904.2)) (ρ1 := fun _ (b903 : (Int × (List Int))) => [.own 1 ((oL D.int) b903.2), .val (D.int a.2), .val ((eL D.int) s896.2.1), .non, .own 0 ((oL D.int) s896.2.2), .val (D.int x898)]) (ρ2 := fun _ (b903 : (Int × (List Int))) => [.own 1 ((oL D.int) b903.2), .val (D.int a.2), .non, .non, .own 0 ((oL D.int) s896.2.2), .val (D.int x898)]) (ρ' := fun (p906 : (Unit × (Int × (List Int)) × (Int × Nat))) => [.own 1 ((oL D.int) p906.2.1.2), .val (D.int a.2), .own 0 ((oL D.int) (List.eraseIdx s896.2.1 p906.2.2.2)), .non, .own 0 ((oL D.int) s896.2.2), .val (D.int x898)]) PySem.F.slot_list_pop PySem.F.type_list_pop mt_popAt (jl_name 2) rfl (toD_oL _ _) sub0 (fun _ hB905 j902 => (have hB := noRs hB905 hB; (ja_el (xa := fun (x901 : (Int × (List Int))) => D.int x901.1) (je_callQ (ins := i_law_digit) (mf := m_law_digit) (sl := l_law_digit) (outs := o_law_digit) (ok_law_digit T) (hr.mono (by decide)) (by rfl) T.law_digit.g T.law_digit.f.kp T.law_digit.b pass0 (arg := (s896.1, ((List.length s896.2.1 : Nat) : Int))) (fun (b900 : (Int × (List Int))) => [.own 1 ((oL D.int) b900.2), .val (D.int a.2), .val ((eL D.int) s896.2.1), .non, .own 0 ((oL D.int) s896.2.2), .val (D.int x898)]) (ja_s 0 (ja_p (je_cb (fun _ ht => pe_callB call_len_seq (by rfl) T.z_len (by decide +kernel) ht) (ja_p (jp_var 2) ja_nil) cb_lenLm) ja_nil)) hB) (fun x901 => ja_nil)))) (fun j902 b903 => (fl_cons (fl_int b903.1) fl_nil)) (fun j902 b903 => md_popAt) (fun j902 b903 => (.cons (.o (fl_oL fl_int b903.2)) (.cons .k (.cons .f (.cons .f (.cons (.o (fl_oL fl_int s896.2.2)) (.cons .k .nil))))))) (fun _ _ _ _ => putS0)))) fun b907 =>
(js_nil [true, true, true, true, true, false] (b907.2.1.2, (List.eraseIdx s896.2.1 b907.2.2.2), (s896.2.2 ++ [b907.2.2.1])))))) fun n897 =>
(js_one (js_retP (n897.2.2, n897.1) [true, false, false, true, false, true] (je_bor 4 (d := (eL D.int) n897.2.2) (ρ1 := fun (b908 : Unit) => [.own 1 ((oL D.int) n897.1), .val (D.int a.2), .own 0 ((oL D.int) n897.2.1), .non, .val ((eL D.int) n897.2.2), .non]) (ρ2 := fun (b908 : Unit) => [.own 1 ((oL D.int) n897.1), .val (D.int a.2), .own 0 ((oL D.int) n897.2.1), .non, .non, .non]) (ρ' := fun (b908 : Unit) => [.own 1 ((oL D.int) n897.1), .val (D.int a.2), .own 0 ((oL D.int) n897.2.1), .non, .own 0 ((oL D.int) n897.2.2), .non]) (sl := fun (b908 : Unit) => .val ((eT D.int) n897.2.2)) rfl (toD_oL _ _) (fun _ hB909 => (have hB := noRs hB909 hB; (je_cb (fun _ ht => pe_callTy call_tuple_of (by rfl) T.z_tuple (by decide +kernel) ht) (ja_p (jp_var 4) ja_nil) cb_tupL))) (fun (b908 : Unit) => (.cons (.o (fl_oL fl_int n897.1)) (.cons .k (.cons (.o (fl_oL fl_int n897.2.1)) (.cons .f (.cons .f (.cons .f .nil))))))) (fun (b908 : Unit) => (fl_T fl_int) n897.2.2) (fun _ => rfl)))))))))
/-! law_apart -/
abbrev s_law_apart : Stmt := topS 29
theorem sc_law_apart : FnScope ["_law_one", "_law_other"] ["_law_one", "_law_other"] (defScope s_law_apart) := ⟨rfl, rfl, rfl, by decide +kernel, rfl, by decide +kernel, by decide +kernel⟩
noncomputable def mb_law_apart (v_one : (Int × Int)) (v_other : (Int × Int)) : R (Fl Unit Unit (Int × Int)) :=
(((op2 (R.guard (CMulX v_other.1 v_one.2)) (fun (x940 : Unit) => R.guard (CMulX v_one.1 v_other.2)) (fun (x940 : Unit) (y941 : Unit) => R.ok ())).bind fun (x948 : (Unit × Unit × Unit)) => (R.guard (CMulX v_one.2 v_other.2)).bind fun (z956 : Unit) => R.ok (x948, z956)).bind fun (b957 : ((Unit × Unit × Unit) × Unit)) => R.ok (.rt (((v_other.1 * v_one.2) - (v_one.1 * v_other.2)), (v_one.2 * v_other.2))))
noncomputable def m_law_apart (a : ((Int × Int) × (Int × Int))) : R (Int × Int) := fin0 (mb_law_apart a.1 a.2)
abbrev i_law_apart (a : ((Int × Int) × (Int × Int))) : List Slot := [.val ((eP2 D.int D.int) a.1), .val ((eP2 D.int D.int) a.2)]
abbrev l_law_apart (b : (Int × Int)) : Slot := .val ((eP2 D.int D.int) b)
abbrev o_law_apart (b : (Int × Int)) : List Slot := [.non, .non]
theorem ok_law_apart {P : Program} {w : World} {K : PySem.W.Frag} {mg : Str → Option Value} {base : Heap} (T : Top K mg) : FnG P w K mg base CX0 1 T.law_apart.a T.law_apart.d ["_law_one", "_law_other"] (spM K i_law_apart m_law_apart l_law_apart o_law_apart) := by
  show FnG P w K mg base CX0 (0 + 1) T.law_apart.a T.law_apart.d ["_law_one", "_law_other"] (spM K i_law_apart (fun (a : ((Int × Int) × (Int × Int))) => fin0 (mb_law_apart a.1 a.2)) l_law_apart o_law_apart)
  refine fn_ok (n1 := fun _ => []) (c1 := fun _ => []) (k1 := fun _ => []) (ins := i_law_apart) (sl := l_law_apart) (outs := o_law_apart) (fun (a : ((Int × Int) × (Int × Int))) => mb_law_apart a.1 a.2) 0 T.law_apart.f sc_law_apart rfl (fun _ => rfl) (fun _ => rfl) (fun _ => rfl) (fun cdv A outer s H E hr B hB a => ?_)
  show JSs _ B _ _ (mb_law_apart a.1 a.2) _
  unfold mb_law_apart
  exact ((js_one (js_ret (fun (b957 : ((Unit × Unit × Unit) × Unit)) => (((a.2.1 * a.1.2) - (a.1.1 * a.2.2)), (a.1.2 * a.2.2))) [false, false] (je_tup (ja_e (ρ' := fun _ _ => _) (ρa := fun _ => _) (xa := fun (x948 : (Unit × Unit × Unit)) => D.int ((a.2.1 * a.1.2) - (a.1.1 * a.2.2))) (je_op2 (ρa := fun _ => _) (ρb := fun _ _ => _) (s := fun (x940 : Unit) (y941 : Unit) (z0 : Unit) => (.val (D.int ((a.2.1 * a.1.2) - (a.1.1 * a.2.2))))) (xa := fun (x940 : Unit) => D.int (a.2.1 * a.1.2)) (xb := fun (x940 : Unit) (y941 : Unit) => D.int (a.1.1 * a.2.2)) (fun _ _ ha hb => pe_op op_sub ha hb) (je_op (fun _ _ ha hb => pe_op op_mulX ha hb) (je_op (fun _ _ ha hb => pe_ix ix_tup ha hb (fun _ _ => rfl)) (jp_var 1) jp_int (od_ixTs rfl)) (je_op (fun _ _ ha hb => pe_ix ix_tup ha hb (fun _ _ => rfl)) (jp_var 0) jp_int (od_ixTs rfl)) od_mul) (fun x940 => (je_op (fun _ _ ha hb => pe_op op_mulX ha hb) (je_op (fun _ _ ha hb => pe_ix ix_tup ha hb (fun _ _ => rfl)) (jp_var 0) jp_int (od_ixTs rfl)) (je_op (fun _ _ ha hb => pe_ix ix_tup ha hb (fun _ _ => rfl)) (jp_var 1) jp_int (od_ixTs rfl)) od_mul)) (fun x940 y941 => od_sub)) (fun x948 => (ja_el (ρa := fun _ => _) (xa := fun (x955 : Unit) => D.int (a.1.2 * a.2.2)) (je_op (fun _ _ ha hb => pe_op op_mulX ha hb) (je_op (fun _ _ ha hb => pe_ix ix_tup ha hb (fun _ _ => rfl)) (jp_var 0) jp_int (od_ixTs rfl)) (je_op (fun _ _ ha hb => pe_ix ix_tup ha hb (fun _ _ => rfl)) (jp_var 1) jp_int (od_ixTs rfl)) od_mul) (fun x955 => ja_nil))))))))
/-! law_sign -/
abbrev s_law_sign : Stmt := topS 24
theorem sc_law_sign : FnScope ["_law_one"] ["_law_one"] (defScope s_law_sign) := ⟨rfl, rfl, rfl, by decide +kernel, rfl, by decide +kernel, by decide +kernel⟩
noncomputable def mb_law_sign (v_one : (Int × Int)) : R (Fl Unit Unit Int) :=
(R.ok (.rt ((if (decide (v_one.1 > (0 : Int))) = true then (1 : Int) else 0) - (if (decide (v_one.1 < (0 : Int))) = true then (1 : Int) else 0))))
noncomputable def m_law_sign (a : (Int × Int)) : R Int := fin0 (mb_law_sign a)
abbrev i_law_sign (a : (Int × Int)) : List Slot := [.val ((eP2 D.int D.int) a)]
abbrev l_law_sign (b : Int) : Slot := .val (D.int b)
abbrev o_law_sign (b : Int) : List Slot := [.non]
theorem ok_law_sign {P : Program} {w : World} {K : PySem.W.Frag} {mg : Str → Option Value} {base : Heap} (T : Top K mg) : FnG P w K mg base CX0 1 T.law_sign.a T.law_sign.d ["_law_one"] (spM K i_law_sign m_law_sign l_law_sign o_law_sign) := by
  show FnG P w K mg base CX0 (0 + 1) T.law_sign.a T.law_sign.d ["_law_one"] (spM K i_law_sign (fun (a : (Int × Int)) => fin0 (mb_law_sign a)) l_law_sign o_law_sign)
  refine fn_ok (n1 := fun _ => []) (c1 := fun _ => []) (k1 := fun _ => []) (ins := i_law_sign) (sl := l_law_sign) (outs := o_law_sign) (fun (a : (Int × Int)) => mb_law_sign a) 0 T.law_sign.f sc_law_sign rfl (fun _ => rfl) (fun _ => rfl) (fun _ => rfl) (fun cdv A outer s H E hr B hB a => ?_)
  show JSs _ B _ _ (mb_law_sign a) _
  unfold mb_law_sign
  exact ((js_one (js_retP ((if (decide (a.1 > (0 : Int))) = true then (1 : Int) else 0) - (if (decide (a.1 < (0 : Int))) = true then (1 : Int) else 0)) [false] (je_op (fun _ _ ha hb => pe_op op_sub ha hb) (je_cb (fun _ ht => pe_callTy call_int1 (by rfl) T.z_int (by decide +kernel) ht) (ja_p (je_op (fun _ _ ha hb => pe_cmpR op_gt ha hb (nomark _)) (je_op (fun _ _ ha hb => pe_ix ix_tup ha hb (fun _ _ => rfl)) (jp_var 0) jp_int (od_ixTs rfl)) jp_int od_gt) ja_nil) cb_intB) (je_cb (fun _ ht => pe_callTy call_int1 (by rfl) T.z_int (by decide +kernel) ht) (ja_p (je_op (fun _ _ ha hb => pe_cmpR op_lt ha hb (nomark _)) (je_op (fun _ _ ha hb => pe_ix ix_tup ha hb (fun _ _ => rfl)) (jp_var 0) jp_int (od_ixTs rfl)) jp_int od_lt) ja_nil) cb_intB) od_sub))))
/-! law_hand -/
abbrev s_law_hand : Stmt := topS 30
theorem sc_law_hand : FnScope ["_law_p", "_law_q", "_law_r", "_law_a", "_law_b", "_law_c", "_law_d"] ["_law_p", "_law_q", "_law_r"] (defScope s_law_hand) := ⟨rfl, rfl, rfl, by decide +kernel, rfl, by decide +kernel, by decide +kernel⟩
noncomputable def mb_law_hand (v_p : ((Int × Int) × (Int × Int))) (v_q : ((Int × Int) × (Int × Int))) (v_r : ((Int × Int) × (Int × Int))) : R (Fl Unit Unit Int) :=
(((m_law_apart (v_p.1, v_q.1)).bind fun (x962 : (Int × Int)) => (m_law_apart (v_p.2, v_q.2)).bind fun (z968 : (Int × Int)) => R.ok (x962, z968)).bind fun (b969 : ((Int × Int) × (Int × Int))) =>
(((m_law_apart (v_p.1, v_r.1)).bind fun (x974 : (Int × Int)) => (m_law_apart (v_p.2, v_r.2)).bind fun (z980 : (Int × Int)) => R.ok (x974, z980)).bind fun (b981 : ((Int × Int) × (Int × Int))) =>
(((op2 (((R.guard (CMulX b969.1.1 b981.2.1)).bind fun (x998 : Unit) => (R.guard (CMulX (b969.1.1 * b981.2.1) b969.2.2)).bind fun (z1002 : Unit) => R.ok (x998, z1002)).bind fun (x1003 : (Unit × Unit)) => (R.guard (CMulX ((b969.1.1 * b981.2.1) * b969.2.2) b981.1.2)).bind fun (z1007 : Unit) => R.ok (x1003, z1007)) (fun (x1008 : ((Unit × Unit) × Unit)) => (((R.guard (CMulX b969.2.1 b981.1.1)).bind fun (x1016 : Unit) => (R.guard (CMulX (b969.2.1 * b981.1.1) b969.1.2)).bind fun (z1020 : Unit) => R.ok (x1016, z1020)).bind fun (x1021 : (Unit × Unit)) => (R.guard (CMulX ((b969.2.1 * b981.1.1) * b969.1.2) b981.2.2)).bind fun (z1025 : Unit) => R.ok (x1021, z1025))) (fun (x1008 : ((Unit × Unit) × Unit)) (y1009 : ((Unit × Unit) × Unit)) => R.ok ())).bind fun (c1028 : (((Unit × Unit) × Unit) × ((Unit × Unit) × Unit) × Unit)) => (m_law_sign (((((b969.1.1 * b981.2.1) * b969.2.2) * b981.1.2) - (((b969.2.1 * b981.1.1) * b969.1.2) * b981.2.2)), (1 : Int))).bind fun (z1029 : Int) => R.ok (c1028, z1029)).bind fun (b1030 : ((((Unit × Unit) × Unit) × ((Unit × Unit) × Unit) × Unit) × Int)) => R.ok (.rt b1030.2))))
noncomputable def m_law_hand (a : (((Int × Int) × (Int × Int)) × ((Int × Int) × (Int × Int)) × ((Int × Int) × (Int × Int)))) : R Int := fin0 (mb_law_hand a.1 a.2.1 a.2.2)
abbrev i_law_hand (a : (((Int × Int) × (Int × Int)) × ((Int × Int) × (Int × Int)) × ((Int × Int) × (Int × Int)))) : List Slot := [.val ((eP2 (eP2 D.int D.int) (eP2 D.int D.int)) a.1), .val ((eP2 (eP2 D.int D.int) (eP2 D.int D.int)) a.2.1), .val ((eP2 (eP2 D.int D.int) (eP2 D.int D.int)) a.2.2)]
abbrev l_law_hand (b : Int) : Slot := .val (D.int b)
abbrev o_law_hand (b : Int) : List Slot := [.non, .non, .non]
theorem ok_law_hand {P : Program} {w : World} {K : PySem.W.Frag} {mg : Str → Option Value} {base : Heap} (T : Top K mg) : FnG P w K mg base CX0 2 T.law_hand.a T.law_hand.d ["_law_p", "_law_q", "_law_r"] (spM K i_law_hand m_law_hand l_law_hand o_law_hand) := by
  show FnG P w K mg base CX0 (1 + 1) T.law_hand.a T.law_hand.d ["_law_p", "_law_q", "_law_r"] (spM K i_law_hand (fun (a : (((Int × Int) × (Int × Int)) × ((Int × Int) × (Int × Int)) × ((Int × Int) × (Int × Int)))) => fin0 (mb_law_hand a.1 a.2.1 a.2.2)) l_law_hand o_law_hand)
  refine fn_ok (n1 := fun _ => []) (c1 := fun _ => []) (k1 := fun _ => []) (ins := i_law_hand) (sl := l_law_hand) (outs := o_law_hand) (fun (a : (((Int × Int) × (Int × Int)) × ((Int × Int) × (Int × Int)) × ((Int × Int) × (Int × Int)))) => mb_law_hand a.1 a.2.1 a.2.2) 4 T.law_hand.f sc_law_hand rfl (fun _ => rfl) (fun _ => rfl) (fun _ => rfl) (fun cdv A outer s H E hr B hB a => ?_)
  show JSs _ B _ _ (mb_law_hand a.1 a.2.1 a.2.2) _
  unfold mb_law_hand
  exact ((js_consQ1 (fun (b969 : ((Int × Int) × (Int × Int))) => [.val ((eP2 (eP2 D.int D.int) (eP2 D.int D.int)) a.1), .val ((eP2 (eP2 D.int D.int) (eP2 D.int D.int)) a.2.1), .val ((eP2 (eP2 D.int D.int) (eP2 D.int D.int)) a.2.2), .val ((eP2 D.int D.int) b969.1), .val ((eP2 D.int D.int) b969.2), .non, .non]) (j1_par 3 4 (d1 := fun (b969 : ((Int × Int) × (Int × Int))) => (eP2 D.int D.int) b969.1) (d2 := fun (b969 : ((Int × Int) × (Int × Int))) => (eP2 D.int D.int) b969.2) rfl sc_law_hand.nd (ja_e (ρ' := fun _ _ => _) (ρa := fun _ => _) (xa := fun (x962 : (Int × Int)) => (eP2 D.int D.int) x962) (je_callV (ins := i_law_apart) (mf := m_law_apart) (sl := l_law_apart) (outs := o_law_apart) (ok_law_apart T) (hr.mono (by decide)) (by rfl) T.law_apart.g T.law_apart.f.kp T.law_apart.b pass0 (arg := (a.1.1, a.2.1.1)) (ja_p (je_op (fun _ _ ha hb => pe_ix ix_tup ha hb (fun _ _ => rfl)) (jp_var 0) jp_int (od_ixTs rfl)) (ja_p (je_op (fun _ _ ha hb => pe_ix ix_tup ha hb (fun _ _ => rfl)) (jp_var 1) jp_int (od_ixTs rfl)) ja_nil)) hB) (fun x962 => (ja_el (ρa := fun _ => _) (xa := fun (x967 : (Int × Int)) => (eP2 D.int D.int) x967) (je_callV (ins := i_law_apart) (mf := m_law_apart) (sl := l_law_apart) (outs := o_law_apart) (ok_law_apart T) (hr.mono (by decide)) (by rfl) T.law_apart.g T.law_apart.f.kp T.law_apart.b pass0 (arg := (a.1.2, a.2.1.2)) (ja_p (je_op (fun _ _ ha hb => pe_ix ix_tup ha hb (fun _ _ => rfl)) (jp_var 0) jp_int (od_ixTs rfl)) (ja_p (je_op (fun _ _ ha hb => pe_ix ix_tup ha hb (fun _ _ => rfl)) (jp_var 1) jp_int (od_ixTs rfl)) ja_nil)) hB) (fun x967 => ja_nil))))) fun b969 =>
(js_consQ1 (fun (b981 : ((Int × Int) × (Int × Int))) => [.val ((eP2 (eP2 D.int D.int) (eP2 D.int D.int)) a.1), .val ((eP2 (eP2 D.int D.int) (eP2 D.int D.int)) a.2.1), .val ((eP2 (eP2 D.int D.int) (eP2 D.int D.int)) a.2.2), .val ((eP2 D.int D.int) b969.1), .val ((eP2 D.int D.int) b969.2), .val ((eP2 D.int D.int) b981.1), .val ((eP2 D.int D.int) b981.2)]) (j1_par 5 6 (d1 := fun (b981 : ((Int × Int) × (Int × Int))) => (eP2 D.int D.int) b981.1) (d2 := fun (b981 : ((Int × Int) × (Int × Int))) => (eP2 D.int D.int) b981.2) rfl sc_law_hand.nd (ja_e (ρ' := fun _ _ => _) (ρa := fun _ => _) (xa := fun (x974 : (Int × Int)) => (eP2 D.int D.int) x974) (je_callV (ins := i_law_apart) (mf := m_law_apart) (sl := l_law_apart) (outs := o_law_apart) (ok_law_apart T) (hr.mono (by decide)) (by rfl) T.law_apart.g T.law_apart.f.kp T.law_apart.b pass0 (arg := (a.1.1, a.2.2.1)) (ja_p (je_op (fun _ _ ha hb => pe_ix ix_tup ha hb (fun _ _ => rfl)) (jp_var 0) jp_int (od_ixTs rfl)) (ja_p (je_op (fun _ _ ha hb => pe_ix ix_tup ha hb (fun _ _ => rfl)) (jp_var 2) jp_int (od_ixTs rfl)) ja_nil)) hB) (fun x974 => (ja_el (ρa := fun _ => _) (xa := fun (x979 : (Int × Int)) => (eP2 D.int D.int) x979) (je_callV (ins := i_law_apart) (mf := m_law_apart) (sl := l_law_apart) (outs := o_law_apart) (ok_law_apart T) (hr.mono (by decide)) (by rfl) T.law_apart.g T.law_apart.f.kp T.law_apart.b pass0 (arg := (a.1.2, a.2.2.2)) (ja_p (je_op (fun _ _ ha hb => pe_ix ix_tup ha hb (fun _ _ => rfl)) (jp_var 0) jp_int (od_ixTs rfl)) (ja_p (je_op (fun _ _ ha hb => pe_ix ix_tup ha hb (fun _ _ => rfl)) (jp_var 2) jp_int (od_ixTs rfl)) ja_nil)) hB) (fun x979 => ja_nil))))) fun b981 =>
(js_one (js_ret (fun (b1030 : ((((Unit × Unit) × Unit) × ((Unit × Unit) × Unit) × Unit) × Int)) => b1030.2) [false, false, false, false, false, false, false] (je_callVE (ρa := fun _ => _) (ins := i_law_sign) (mf := m_law_sign) (sl := l_law_sign) (outs := o_law_sign) (ok_law_sign T) (hr.mono (by decide)) (by rfl) T.law_sign.g T.law_sign.f.kp T.law_sign.b pass0 (arg := fun (c1028 : (((Unit × Unit) × Unit) × ((Unit × Unit) × Unit) × Unit)) => (((((b969.1.1 * b981.2.1) * b969.2.2) * b981.1.2) - (((b969.2.1 * b981.1.1) * b969.1.2) * b981.2.2)), (1 : Int))) (ja_el (ρa := fun _ => _) (xa := fun (x1027 : (((Unit × Unit) × Unit) × ((Unit × Unit) × Unit) × Unit)) => (eP2 D.int D.int) (((((b969.1.1 * b981.2.1) * b969.2.2) * b981.1.2) - (((b969.2.1 * b981.1.1) * b969.1.2) * b981.2.2)), (1 : Int))) (je_tup (ja_el (ρa := fun _ => _) (xa := fun (x1026 : (((Unit × Unit) × Unit) × ((Unit × Unit) × Unit) × Unit)) => D.int ((((b969.1.1 * b981.2.1) * b969.2.2) * b981.1.2) - (((b969.2.1 * b981.1.1) * b969.1.2) * b981.2.2))) (je_op2 (ρa := fun _ => _) (ρb := fun _ _ => _) (s := fun (x1008 : ((Unit × Unit) × Unit)) (y1009 : ((Unit × Unit) × Unit)) (z0 : Unit) => (.val (D.int ((((b969.1.1 * b981.2.1) * b969.2.2) * b981.1.2) - (((b969.2.1 * b981.1.1) * b969.1.2) * b981.2.2))))) (xa := fun (x1008 : ((Unit × Unit) × Unit)) => D.int (((b969.1.1 * b981.2.1) * b969.2.2) * b981.1.2)) (xb := fun (x1008 : ((Unit × Unit) × Unit)) (y1009 : ((Unit × Unit) × Unit)) => D.int (((b969.2.1 * b981.1.1) * b969.1.2) * b981.2.2)) (fun _ _ ha hb => pe_op op_sub ha hb) (je_opLG (ρa := fun _ => _) (s := fun (x1003 : (Unit × Unit)) (z1007 : Unit) => (.val (D.int (((b969.1.1 * b981.2.1) * b969.2.2) * b981.1.2)))) (xa := fun (x1003 : (Unit × Unit)) => D.int ((b969.1.1 * b981.2.1) * b969.2.2)) (y := fun (x1003 : (Unit × Unit)) => D.int b981.1.2) (fun _ _ ha hb => pe_op op_mulX ha hb) (je_opLG (ρa := fun _ => _) (s := fun (x998 : Unit) (z1002 : Unit) => (.val (D.int ((b969.1.1 * b981.2.1) * b969.2.2)))) (xa := fun (x998 : Unit) => D.int (b969.1.1 * b981.2.1)) (y := fun (x998 : Unit) => D.int b969.2.2) (fun _ _ ha hb => pe_op op_mulX ha hb) (je_op (fun _ _ ha hb => pe_op op_mulX ha hb) (je_op (fun _ _ ha hb => pe_ix ix_tup ha hb (fun _ _ => rfl)) (jp_var 3) jp_int (od_ixTs rfl)) (je_op (fun _ _ ha hb => pe_ix ix_tup ha hb (fun _ _ => rfl)) (jp_var 6) jp_int (od_ixTs rfl)) od_mul) (fun x998 => (je_op (fun _ _ ha hb => pe_ix ix_tup ha hb (fun _ _ => rfl)) (jp_var 4) jp_int (od_ixTs rfl))) (fun x998 => od_mul)) (fun x1003 => (je_op (fun _ _ ha hb => pe_ix ix_tup ha hb (fun _ _ => rfl)) (jp_var 5) jp_int (od_ixTs rfl))) (fun x1003 => od_mul)) (fun x1008 => (je_opLG (ρa := fun _ => _) (s := fun (x1021 : (Unit × Unit)) (z1025 : Unit) => (.val (D.int (((b969.2.1 * b981.1.1) * b969.1.2) * b981.2.2)))) (xa := fun (x1021 : (Unit × Unit)) => D.int ((b969.2.1 * b981.1.1) * b969.1.2)) (y := fun (x1021 : (Unit × Unit)) => D.int b981.2.2) (fun _ _ ha hb => pe_op op_mulX ha hb) (je_opLG (ρa := fun _ => _) (s := fun (x1016 : Unit) (z1020 : Unit) => (.val (D.int ((b969.2.1 * b981.1.1) * b969.1.2)))) (xa := fun (x1016 : Unit) => D.int (b969.2.1 * b981.1.1)) (y := fun (x1016 : Unit) => D.int b969.1.2) (fun _ _ ha hb => pe_op op_mulX ha hb) (je_op (fun _ _ ha hb => pe_op op_mulX ha hb) (je_op (fun _ _ ha hb => pe_ix ix_tup ha hb (fun _ _ => rfl)) (jp_var 4) jp_int (od_ixTs rfl)) (je_op (fun _ _ ha hb => pe_ix ix_tup ha hb (fun _ _ => rfl)) (jp_var 5) jp_int (od_ixTs rfl)) od_mul) (fun x1016 => (je_op (fun _ _ ha hb => pe_ix ix_tup ha hb (fun _ _ => rfl)) (jp_var 3) jp_int (od_ixTs rfl))) (fun x1016 => od_mul)) (fun x1021 => (je_op (fun _ _ ha hb => pe_ix ix_tup ha hb (fun _ _ => rfl)) (jp_var 6) jp_int (od_ixTs rfl))) (fun x1021 => od_mul))) (fun x1008 y1009 => od_sub)) (fun x1026 => (ja_p jp_int ja_nil)))) (fun x1027 => ja_nil)) hB))))))
/-! law_bends -/
abbrev s_law_bends : Stmt := topS 37
theorem sc_law_bends : FnScope ["_law_drawing", "_law_row_here", "_law_k", "_law_j", "_law_i"] ["_law_drawing", "_law_row_here"] (defScope s_law_bends) := ⟨rfl, rfl, rfl, by decide +kernel, rfl, by decide +kernel, by decide +kernel⟩
noncomputable def mb_law_bends (v_drawing : (List ((Int × Int) × (Int × Int)))) (v_row_here : (List Int)) : R (Fl Unit Unit Bool) :=
(bindF ((R.guard (rngOk ((List.length v_row_here : Nat) : Int))).bind fun (b922 : Unit) => forR (fun (x925 : Int) (s923 : Unit) =>
(bindF ((R.guard (rngOk x925)).bind fun (b926 : Unit) => forR (fun (x929 : Int) (s927 : Unit) =>
(bindF ((R.guard (rngOk x929)).bind fun (b930 : Unit) => forR (fun (x933 : Int) (s931 : Unit) =>
(bindF (((((R.some (atI v_row_here x933)).bind fun (y1032 : Int) => (R.some (atI v_drawing y1032)).bind fun (z1035 : ((Int × Int) × (Int × Int))) => R.ok (y1032, z1035)).bind fun (x1036 : (Int × ((Int × Int) × (Int × Int)))) => (((R.some (atI v_row_here x929)).bind fun (y1038 : Int) => (R.some (atI v_drawing y1038)).bind fun (z1041 : ((Int × Int) × (Int × Int))) => R.ok (y1038, z1041)).bind fun (x1042 : (Int × ((Int × Int) × (Int × Int)))) => ((R.some (atI v_row_here x925)).bind fun (y1044 : Int) => (R.some (atI v_drawing y1044)).bind fun (z1047 : ((Int × Int) × (Int × Int))) => R.ok (y1044, z1047)).bind fun (z1049 : (Int × ((Int × Int) × (Int × Int)))) => R.ok (x1042, z1049)).bind fun (z1050 : ((Int × ((Int × Int) × (Int × Int))) × (Int × ((Int × Int) × (Int × Int))))) => R.ok (x1036, z1050)).bind fun (c1051 : ((Int × ((Int × Int) × (Int × Int))) × ((Int × ((Int × Int) × (Int × Int))) × (Int × ((Int × Int) × (Int × Int)))))) => (m_law_hand (c1051.1.2, c1051.2.1.2, c1051.2.2.2)).bind fun (z1052 : Int) => R.ok (c1051, z1052)).bind fun (b1056 : (((Int × ((Int × Int) × (Int × Int))) × ((Int × ((Int × Int) × (Int × Int))) × (Int × ((Int × Int) × (Int × Int))))) × Int)) => if (decide (b1056.2 < (1 : Int))) = true then (R.ok (.rt false)) else (R.ok (.nx ()))) fun n1057 =>
(R.ok (.nx ())))) (rng 0 x929) ()) fun n932 =>
(R.ok (.nx ())))) (rng 0 x925) ()) fun n928 =>
(R.ok (.nx ())))) (rng 0 ((List.length v_row_here : Nat) : Int)) ()) fun n924 =>
(R.ok (.rt (decide (((List.length v_row_here : Nat) : Int) > (2 : Int))))))
noncomputable def m_law_bends (a : ((List ((Int × Int) × (Int × Int))) × (List Int))) : R Bool := fin0 (mb_law_bends a.1 a.2)
abbrev i_law_bends (a : ((List ((Int × Int) × (Int × Int))) × (List Int))) : List Slot := [.val ((eT (eP2 (eP2 D.int D.int) (eP2 D.int D.int))) a.1), .val ((eT D.int) a.2)]
abbrev l_law_bends (b : Bool) : Slot := .val (D.bool b)
abbrev o_law_bends (b : Bool) : List Slot := [.non, .non]
theorem ok_law_bends {P : Program} {w : World} {K : PySem.W.Frag} {mg : Str → Option Value} {base : Heap} (T : Top K mg) : FnG P w K mg base CX0 3 T.law_bends.a T.law_bends.d ["_law_drawing", "_law_row_here"] (spM K i_law_bends m_law_bends l_law_bends o_law_bends) := by
  show FnG P w K mg base CX0 (2 + 1) T.law_bends.a T.law_bends.d ["_law_drawing", "_law_row_here"] (spM K i_law_bends (fun (a : ((List ((Int × Int) × (Int × Int))) × (List Int))) => fin0 (mb_law_bends a.1 a.2)) l_law_bends o_law_bends)
  refine fn_ok (n1 := fun _ => []) (c1 := fun _ => []) (k1 := fun _ => []) (ins := i_law_bends) (sl := l_law_bends) (outs := o_law_bends) (fun (a : ((List ((Int × Int) × (Int × Int))) × (List Int))) => mb_law_bends a.1 a.2) 3 T.law_bends.f sc_law_bends rfl (fun _ => rfl) (fun _ => rfl) (fun _ => rfl) (fun cdv A outer s H E hr B hB a => ?_)
  show JSs _ B _ _ (mb_law_bends a.1 a.2) _
  unfold mb_law_bends
  exact ((js_cons (ρ1 := fun (n924 : Unit) => [.val ((eT (eP2 (eP2 D.int D.int) (eP2 D.int D.int))) a.1), .val ((eT D.int) a.2), .non, .non, .non]) (js_for (en := D.int) (xs := fun (b922 : Unit) => (rng 0 ((List.length a.2 : Nat) : Int))) (s0 := fun (b922 : Unit) => ()) (fun (s923 : Unit) => [.val ((eT (eP2 (eP2 D.int D.int) (eP2 D.int D.int))) a.1), .val ((eT D.int) a.2), .non, .non, .non]) (fun (x925 : Int) (s923 : Unit) => [.val ((eT (eP2 (eP2 D.int D.int) (eP2 D.int D.int))) a.1), .val ((eT D.int) a.2), .val (D.int x925), .non, .non]) PassesOwn.never rfl (ji_rng1P (i := ((List.length a.2 : Nat) : Int)) T.z_range (ja_p (je_cb (fun _ ht => pe_callB call_len_seq (by rfl) T.z_len (by decide +kernel) ht) (ja_p (jp_var 1) ja_nil) cb_lenTm) ja_nil)) [true, true, true, true, true] (fun _ => rfl) (fun x925 s923 => (jg_name 2 sc_law_bends.nd)) (fun x925 s923 =>
(js_cons (ρ1 := fun (n928 : Unit) => [.val ((eT (eP2 (eP2 D.int D.int) (eP2 D.int D.int))) a.1), .val ((eT D.int) a.2), .val (D.int x925), .non, .non]) (js_for (en := D.int) (xs := fun (b926 : Unit) => (rng 0 x925)) (s0 := fun (b926 : Unit) => ()) (fun (s927 : Unit) => [.val ((eT (eP2 (eP2 D.int D.int) (eP2 D.int D.int))) a.1), .val ((eT D.int) a.2), .val (D.int x925), .non, .non]) (fun (x929 : Int) (s927 : Unit) => [.val ((eT (eP2 (eP2 D.int D.int) (eP2 D.int D.int))) a.1), .val ((eT D.int) a.2), .val (D.int x925), .val (D.int x929), .non]) PassesOwn.never rfl (ji_rng1P (i := x925) T.z_range (ja_p (jp_var 2) ja_nil)) [true, true, true, true, true] (fun _ => rfl) (fun x929 s927 => (jg_name 3 sc_law_bends.nd)) (fun x929 s927 =>
(js_cons (ρ1 := fun (n932 : Unit) => [.val ((eT (eP2 (eP2 D.int D.int) (eP2 D.int D.int))) a.1), .val ((eT D.int) a.2), .val (D.int x925), .val (D.int x929), .non]) (js_for (en := D.int) (xs := fun (b930 : Unit) => (rng 0 x929)) (s0 := fun (b930 : Unit) => ()) (fun (s931 : Unit) => [.val ((eT (eP2 (eP2 D.int D.int) (eP2 D.int D.int))) a.1), .val ((eT D.int) a.2), .val (D.int x925), .val (D.int x929), .non]) (fun (x933 : Int) (s931 : Unit) => [.val ((eT (eP2 (eP2 D.int D.int) (eP2 D.int D.int))) a.1), .val ((eT D.int) a.2), .val (D.int x925), .val (D.int x929), .val (D.int x933)]) PassesOwn.never rfl (ji_rng1P (i := x929) T.z_range (ja_p (jp_var 3) ja_nil)) [true, true, true, true, true] (fun _ => rfl) (fun x933 s931 => (jg_name 4 sc_law_bends.nd)) (fun x933 s931 =>
(js_cons (ρ1 := fun (n1057 : Unit) => [.val ((eT (eP2 (eP2 D.int D.int) (eP2 D.int D.int))) a.1), .val ((eT D.int) a.2), .val (D.int x925), .val (D.int x929), .val (D.int x933)]) (js_if (jt_opL (ρa := fun _ => _) (bn := fun (x1053 : (((Int × ((Int × Int) × (Int × Int))) × ((Int × ((Int × Int) × (Int × Int))) × (Int × ((Int × Int) × (Int × Int))))) × Int)) => (decide (x1053.2 < (1 : Int)))) (xa := fun (x1053 : (((Int × ((Int × Int) × (Int × Int))) × ((Int × ((Int × Int) × (Int × Int))) × (Int × ((Int × Int) × (Int × Int))))) × Int)) => D.int x1053.2) (y := fun (x1053 : (((Int × ((Int × Int) × (Int × Int))) × ((Int × ((Int × Int) × (Int × Int))) × (Int × ((Int × Int) × (Int × Int))))) × Int)) => D.int (1 : Int)) (fun _ _ ha hb => pt_cmpR op_lt ha hb (nomark _)) (je_callVE (ρa := fun _ => _) (ins := i_law_hand) (mf := m_law_hand) (sl := l_law_hand) (outs := o_law_hand) (ok_law_hand T) (hr.mono (by decide)) (by rfl) T.law_hand.g T.law_hand.f.kp T.law_hand.b pass0 (arg := fun (c1051 : ((Int × ((Int × Int) × (Int × Int))) × ((Int × ((Int × Int) × (Int × Int))) × (Int × ((Int × Int) × (Int × Int)))))) => (c1051.1.2, c1051.2.1.2, c1051.2.2.2)) (ja_e (ρ' := fun _ _ => _) (ρa := fun _ => _) (xa := fun (x1036 : (Int × ((Int × Int) × (Int × Int)))) => (eP2 (eP2 D.int D.int) (eP2 D.int D.int)) x1036.2) (je_opRG (ρb := fun _ => _) (s := fun (y1032 : Int) (z1035 : ((Int × Int) × (Int × Int))) => (.val ((eP2 (eP2 D.int D.int) (eP2 D.int D.int)) z1035))) (xb := fun (y1032 : Int) => D.int y1032) (fun _ _ ha hb => pe_ix ix_tup ha hb (fun _ _ => rfl)) (jp_var 0) (je_op (fun _ _ ha hb => pe_ix ix_tup ha hb (fun _ _ => rfl)) (jp_var 1) (jp_var 4) od_ixTm) (fun y1032 => od_ixTm)) (fun x1036 => (ja_e (ρ' := fun _ _ => _) (ρa := fun _ => _) (xa := fun (x1042 : (Int × ((Int × Int) × (Int × Int)))) => (eP2 (eP2 D.int D.int) (eP2 D.int D.int)) x1042.2) (je_opRG (ρb := fun _ => _) (s := fun (y1038 : Int) (z1041 : ((Int × Int) × (Int × Int))) => (.val ((eP2 (eP2 D.int D.int) (eP2 D.int D.int)) z1041))) (xb := fun (y1038 : Int) => D.int y1038) (fun _ _ ha hb => pe_ix ix_tup ha hb (fun _ _ => rfl)) (jp_var 0) (je_op (fun _ _ ha hb => pe_ix ix_tup ha hb (fun _ _ => rfl)) (jp_var 1) (jp_var 3) od_ixTm) (fun y1038 => od_ixTm)) (fun x1042 => (ja_el (ρa := fun _ => _) (xa := fun (x1048 : (Int × ((Int × Int) × (Int × Int)))) => (eP2 (eP2 D.int D.int) (eP2 D.int D.int)) x1048.2) (je_opRG (ρb := fun _ => _) (s := fun (y1044 : Int) (z1047 : ((Int × Int) × (Int × Int))) => (.val ((eP2 (eP2 D.int D.int) (eP2 D.int D.int)) z1047))) (xb := fun (y1044 : Int) => D.int y1044) (fun _ _ ha hb => pe_ix ix_tup ha hb (fun _ _ => rfl)) (jp_var 0) (je_op (fun _ _ ha hb => pe_ix ix_tup ha hb (fun _ _ => rfl)) (jp_var 1) (jp_var 2) od_ixTm) (fun y1044 => od_ixTm)) (fun x1048 => ja_nil)))))) hB) (fun x1053 => jp_int) (fun x1053 => od_lt)) (fun b1056 => (js_one (js_retP false [false, false, false, false, false] jp_bl))) (fun b1056 => (js_nil [true, true, true, true, true] ()))) fun n1057 =>
(js_nil [true, true, true, true, false] ())))) fun n932 =>
(js_nil [true, true, true, false, true] ())))) fun n928 =>
(js_nil [true, true, false, true, true] ())))) fun n924 =>
(js_one (js_retP (decide (((List.length a.2 : Nat) : Int) > (2 : Int))) [false, false, true, true, true] (je_op (fun _ _ ha hb => pe_cmpR op_gt ha hb (nomark _)) (je_cb (fun _ ht => pe_callB call_len_seq (by rfl) T.z_len (by decide +kernel) ht) (ja_p (jp_var 1) ja_nil) cb_lenTm) jp_int od_gt)))))
/-! apart -/
abbrev s_apart : Stmt := topS 7
theorem sc_apart : FnScope ["one", "other"] ["one", "other"] (defScope s_apart) := ⟨rfl, rfl, rfl, by decide +kernel, rfl, by decide +kernel, by decide +kernel⟩
noncomputable def mb_apart (v_one : (Int × Int)) (v_other : (Int × Int)) : R (Fl Unit Unit (Int × Int)) :=
(((op2 (R.guard (CMulX v_other.1 v_one.2)) (fun (x1088 : Unit) => R.guard (CMulX v_one.1 v_other.2)) (fun (x1088 : Unit) (y1089 : Unit) => R.ok ())).bind fun (x1096 : (Unit × Unit × Unit)) => (R.guard (CMulX v_one.2 v_other.2)).bind fun (z1104 : Unit) => R.ok (x1096, z1104)).bind fun (b1105 : ((Unit × Unit × Unit) × Unit)) => R.ok (.rt (((v_other.1 * v_one.2) - (v_one.1 * v_other.2)), (v_one.2 * v_other.2))))
noncomputable def m_apart (a : ((Int × Int) × (Int × Int))) : R (Int × Int) := fin0 (mb_apart a.1 a.2)
abbrev i_apart (a : ((Int × Int) × (Int × Int))) : List Slot := [.val ((eP2 D.int D.int) a.1), .val ((eP2 D.int D.int) a.2)]
abbrev l_apart (b : (Int × Int)) : Slot := .val ((eP2 D.int D.int) b)
abbrev o_apart (b : (Int × Int)) : List Slot := [.non, .non]
theorem ok_apart {P : Program} {w : World} {K : PySem.W.Frag} {mg : Str → Option Value} {base : Heap} (T : Top K mg) : FnG P w K mg base CX0 1 T.apart.a T.apart.d ["one", "other"] (spM K i_apart m_apart l_apart o_apart) := by
  show FnG P w K mg base CX0 (0 + 1) T.apart.a T.apart.d ["one", "other"] (spM K i_apart (fun (a : ((Int × Int) × (Int × Int))) => fin0 (mb_apart a.1 a.2)) l_apart o_apart)
  refine fn_ok (n1 := fun _ => []) (c1 := fun _ => []) (k1 := fun _ => []) (ins := i_apart) (sl := l_apart) (outs := o_apart) (fun (a : ((Int × Int) × (Int × Int))) => mb_apart a.1 a.2) 0 T.apart.f sc_apart rfl (fun _ => rfl) (fun _ => rfl) (fun _ => rfl) (fun cdv A outer s H E hr B hB a => ?_)
  show JSs _ B _ _ (mb_apart a.1 a.2) _
  unfold mb_apart
  exact ((js_one (js_ret (fun (b1105 : ((Unit × Unit × Unit) × Unit)) => (((a.2.1 * a.1.2) - (a.1.1 * a.2.2)), (a.1.2 * a.2.2))) [false, false] (je_tup (ja_e (ρ' := fun _ _ => _) (ρa := fun _ => _) (xa := fun (x1096 : (Unit × Unit × Unit)) => D.int ((a.2.1 * a.1.2) - (a.1.1 * a.2.2))) (je_op2 (ρa := fun _ => _) (ρb := fun _ _ => _) (s := fun (x1088 : Unit) (y1089 : Unit) (z0 : Unit) => (.val (D.int ((a.2.1 * a.1.2) - (a.1.1 * a.2.2))))) (xa := fun (x1088 : Unit) => D.int (a.2.1 * a.1.2)) (xb := fun (x1088 : Unit) (y1089 : Unit) => D.int (a.1.1 * a.2.2)) (fun _ _ ha hb => pe_op op_sub ha hb) (je_op (fun _ _ ha hb => pe_op op_mulX ha hb) (je_op (fun _ _ ha hb => pe_ix ix_tup ha hb (fun _ _ => rfl)) (jp_var 1) jp_int (od_ixTs rfl)) (je_op (fun _ _ ha hb => pe_ix ix_tup ha hb (fun _ _ => rfl)) (jp_var 0) jp_int (od_ixTs rfl)) od_mul) (fun x1088 => (je_op (fun _ _ ha hb => pe_op op_mulX ha hb) (je_op (fun _ _ ha hb => pe_ix ix_tup ha hb (fun _ _ => rfl)) (jp_var 0) jp_int (od_ixTs rfl)) (je_op (fun _ _ ha hb => pe_ix ix_tup ha hb (fun _ _ => rfl)) (jp_var 1) jp_int (od_ixTs rfl)) od_mul)) (fun x1088 y1089 => od_sub)) (fun x1096 => (ja_el (ρa := fun _ => _) (xa := fun (x1103 : Unit) => D.int (a.1.2 * a.2.2)) (je_op (fun _ _ ha hb => pe_op op_mulX ha hb) (je_op (fun _ _ ha hb => pe_ix ix_tup ha hb (fun _ _ => rfl)) (jp_var 0) jp_int (od_ixTs rfl)) (je_op (fun _ _ ha hb => pe_ix ix_tup ha hb (fun _ _ => rfl)) (jp_var 1) jp_int (od_ixTs rfl)) od_mul) (fun x1103 => ja_nil))))))))
/-! way -/
abbrev s_way : Stmt := topS 8
theorem sc_way : FnScope ["p", "q"] ["p", "q"] (defScope s_way) := ⟨rfl, rfl, rfl, by decide +kernel, rfl, by decide +kernel, by decide +kernel⟩
noncomputable def mb_way (v_p : ((Int × Int) × (Int × Int))) (v_q : ((Int × Int) × (Int × Int))) : R (Fl Unit Unit ((Int × Int) × (Int × Int))) :=
(((m_apart (v_p.1, v_q.1)).bind fun (x1110 : (Int × Int)) => (m_apart (v_p.2, v_q.2)).bind fun (z1116 : (Int × Int)) => R.ok (x1110, z1116)).bind fun (b1117 : ((Int × Int) × (Int × Int))) => R.ok (.rt (b1117.1, b1117.2)))
noncomputable def m_way (a : (((Int × Int) × (Int × Int)) × ((Int × Int) × (Int × Int)))) : R ((Int × Int) × (Int × Int)) := fin0 (mb_way a.1 a.2)
abbrev i_way (a : (((Int × Int) × (Int × Int)) × ((Int × Int) × (Int × Int)))) : List Slot := [.val ((eP2 (eP2 D.int D.int) (eP2 D.int D.int)) a.1), .val ((eP2 (eP2 D.int D.int) (eP2 D.int D.int)) a.2)]
abbrev l_way (b : ((Int × Int) × (Int × Int))) : Slot := .val ((eP2 (eP2 D.int D.int) (eP2 D.int D.int)) b)
abbrev o_way (b : ((Int × Int) × (Int × Int))) : List Slot := [.non, .non]
theorem ok_way {P : Program} {w : World} {K : PySem.W.Frag} {mg : Str → Option Value} {base : Heap} (T : Top K mg) : FnG P w K mg base CX0 2 T.way.a T.way.d ["p", "q"] (spM K i_way m_way l_way o_way) := by
  show FnG P w K mg base CX0 (1 + 1) T.way.a T.way.d ["p", "q"] (spM K i_way (fun (a : (((Int × Int) × (Int × Int)) × ((Int × Int) × (Int × Int)))) => fin0 (mb_way a.1 a.2)) l_way o_way)
  refine fn_ok (n1 := fun _ => []) (c1 := fun _ => []) (k1 := fun _ => []) (ins := i_way) (sl := l_way) (outs := o_way) (fun (a : (((Int × Int) × (Int × Int)) × ((Int × Int) × (Int × Int)))) => mb_way a.1 a.2) 0 T.way.f sc_way rfl (fun _ => rfl) (fun _ => rfl) (fun _ => rfl) (fun cdv A outer s H E hr B hB a => ?_)
  show JSs _ B _ _ (mb_way a.1 a.2) _
  unfold mb_way
  exact ((js_one (js_ret (fun (b1117 : ((Int × Int) × (Int × Int))) => (b1117.1, b1117.2)) [false, false] (je_tup (ja_e (ρ' := fun _ _ => _) (ρa := fun _ => _) (xa := fun (x1110 : (Int × Int)) => (eP2 D.int D.int) x1110) (je_callV (ins := i_apart) (mf := m_apart) (sl := l_apart) (outs := o_apart) (ok_apart T) (hr.mono (by decide)) (by rfl) T.apart.g T.apart.f.kp T.apart.b pass0 (arg := (a.1.1, a.2.1)) (ja_p (je_op (fun _ _ ha hb => pe_ix ix_tup ha hb (fun _ _ => rfl)) (jp_var 0) jp_int (od_ixTs rfl)) (ja_p (je_op (fun _ _ ha hb => pe_ix ix_tup ha hb (fun _ _ => rfl)) (jp_var 1) jp_int (od_ixTs rfl)) ja_nil)) hB) (fun x1110 => (ja_el (ρa := fun _ => _) (xa := fun (x1115 : (Int × Int)) => (eP2 D.int D.int) x1115) (je_callV (ins := i_apart) (mf := m_apart) (sl := l_apart) (outs := o_apart) (ok_apart T) (hr.mono (by decide)) (by rfl) T.apart.g T.apart.f.kp T.apart.b pass0 (arg := (a.1.2, a.2.2)) (ja_p (je_op (fun _ _ ha hb => pe_ix ix_tup ha hb (fun _ _ => rfl)) (jp_var 0) jp_int (od_ixTs rfl)) (ja_p (je_op (fun _ _ ha hb => pe_ix ix_tup ha hb (fun _ _ => rfl)) (jp_var 1) jp_int (od_ixTs rfl)) ja_nil)) hB) (fun x1115 => ja_nil))))))))
/-! sign_of -/
abbrev s_sign_of : Stmt := topS 10
theorem sc_sign_of : FnScope ["number"] ["number"] (defScope s_sign_of) := ⟨rfl, rfl, rfl, by decide +kernel, rfl, by decide +kernel, by decide +kernel⟩
noncomputable def mb_sign_of (v_number : Int) : R (Fl Unit Unit Int) :=
(R.ok (.rt ((if (decide (v_number > (0 : Int))) = true then (1 : Int) else 0) - (if (decide (v_number < (0 : Int))) = true then (1 : Int) else 0))))
noncomputable def m_sign_of (a : Int) : R Int := fin0 (mb_sign_of a)
abbrev i_sign_of (a : Int) : List Slot := [.val (D.int a)]
abbrev l_sign_of (b : Int) : Slot := .val (D.int b)
abbrev o_sign_of (b : Int) : List Slot := [.non]
theorem ok_sign_of {P : Program} {w : World} {K : PySem.W.Frag} {mg : Str → Option Value} {base : Heap} (T : Top K mg) : FnG P w K mg base CX0 1 T.sign_of.a T.sign_of.d ["number"] (spM K i_sign_of m_sign_of l_sign_of o_sign_of) := by
  show FnG P w K mg base CX0 (0 + 1) T.sign_of.a T.sign_of.d ["number"] (spM K i_sign_of (fun (a : Int) => fin0 (mb_sign_of a)) l_sign_of o_sign_of)
  refine fn_ok (n1 := fun _ => []) (c1 := fun _ => []) (k1 := fun _ => []) (ins := i_sign_of) (sl := l_sign_of) (outs := o_sign_of) (fun (a : Int) => mb_sign_of a) 0 T.sign_of.f sc_sign_of rfl (fun _ => rfl) (fun _ => rfl) (fun _ => rfl) (fun cdv A outer s H E hr B hB a => ?_)
  show JSs _ B _ _ (mb_sign_of a) _
  unfold mb_sign_of
  exact ((js_one (js_retP ((if (decide (a > (0 : Int))) = true then (1 : Int) else 0) - (if (decide (a < (0 : Int))) = true then (1 : Int) else 0)) [false] (je_op (fun _ _ ha hb => pe_op op_sub ha hb) (je_cb (fun _ ht => pe_callTy call_int1 (by rfl) T.z_int (by decide +kernel) ht) (ja_p (je_op (fun _ _ ha hb => pe_cmpR op_gt ha hb (nomark _)) (jp_var 0) jp_int od_gt) ja_nil) cb_intB) (je_cb (fun _ ht => pe_callTy call_int1 (by rfl) T.z_int (by decide +kernel) ht) (ja_p (je_op (fun _ _ ha hb => pe_cmpR op_lt ha hb (nomark _)) (jp_var 0) jp_int od_lt) ja_nil) cb_intB) od_sub))))
/-! hand -/
abbrev s_hand : Stmt := topS 11
theorem sc_hand : FnScope ["p", "q", "r", "a", "b", "c", "d"] ["p", "q", "r"] (defScope s_hand) := ⟨rfl, rfl, rfl, by decide +kernel, rfl, by decide +kernel, by decide +kernel⟩
noncomputable def mb_hand (v_p : ((Int × Int) × (Int × Int))) (v_q : ((Int × Int) × (Int × Int))) (v_r : ((Int × Int) × (Int × Int))) : R (Fl Unit Unit Int) :=
((m_way (v_p, v_q)).bind fun (b1118 : ((Int × Int) × (Int × Int))) =>
((m_way (v_p, v_r)).bind fun (b1119 : ((Int × Int) × (Int × Int))) =>
(((op2 (((R.guard (CMulX b1118.1.1 b1119.2.1)).bind fun (x1132 : Unit) => (R.guard (CMulX (b1118.1.1 * b1119.2.1) b1118.2.2)).bind fun (z1136 : Unit) => R.ok (x1132, z1136)).bind fun (x1137 : (Unit × Unit)) => (R.guard (CMulX ((b1118.1.1 * b1119.2.1) * b1118.2.2) b1119.1.2)).bind fun (z1141 : Unit) => R.ok (x1137, z1141)) (fun (x1142 : ((Unit × Unit) × Unit)) => (((R.guard (CMulX b1118.2.1 b1119.1.1)).bind fun (x1150 : Unit) => (R.guard (CMulX (b1118.2.1 * b1119.1.1) b1118.1.2)).bind fun (z1154 : Unit) => R.ok (x1150, z1154)).bind fun (x1155 : (Unit × Unit)) => (R.guard (CMulX ((b1118.2.1 * b1119.1.1) * b1118.1.2) b1119.2.2)).bind fun (z1159 : Unit) => R.ok (x1155, z1159))) (fun (x1142 : ((Unit × Unit) × Unit)) (y1143 : ((Unit × Unit) × Unit)) => R.ok ())).bind fun (c1161 : (((Unit × Unit) × Unit) × ((Unit × Unit) × Unit) × Unit)) => (m_sign_of ((((b1118.1.1 * b1119.2.1) * b1118.2.2) * b1119.1.2) - (((b1118.2.1 * b1119.1.1) * b1118.1.2) * b1119.2.2))).bind fun (z1162 : Int) => R.ok (c1161, z1162)).bind fun (b1163 : ((((Unit × Unit) × Unit) × ((Unit × Unit) × Unit) × Unit) × Int)) => R.ok (.rt b1163.2))))
noncomputable def m_hand (a : (((Int × Int) × (Int × Int)) × ((Int × Int) × (Int × Int)) × ((Int × Int) × (Int × Int)))) : R Int := fin0 (mb_hand a.1 a.2.1 a.2.2)
abbrev i_hand (a : (((Int × Int) × (Int × Int)) × ((Int × Int) × (Int × Int)) × ((Int × Int) × (Int × Int)))) : List Slot := [.val ((eP2 (eP2 D.int D.int) (eP2 D.int D.int)) a.1), .val ((eP2 (eP2 D.int D.int) (eP2 D.int D.int)) a.2.1), .val ((eP2 (eP2 D.int D.int) (eP2 D.int D.int)) a.2.2)]
abbrev l_hand (b : Int) : Slot := .val (D.int b)
abbrev o_hand (b : Int) : List Slot := [.non, .non, .non]
theorem ok_hand {P : Program} {w : World} {K : PySem.W.Frag} {mg : Str → Option Value} {base : Heap} (T : Top K mg) : FnG P w K mg base CX0 3 T.hand.a T.hand.d ["p", "q", "r"] (spM K i_hand m_hand l_hand o_hand) := by
  show FnG P w K mg base CX0 (2 + 1) T.hand.a T.hand.d ["p", "q", "r"] (spM K i_hand (fun (a : (((Int × Int) × (Int × Int)) × ((Int × Int) × (Int × Int)) × ((Int × Int) × (Int × Int)))) => fin0 (mb_hand a.1 a.2.1 a.2.2)) l_hand o_hand)
  refine fn_ok (n1 := fun _ => []) (c1 := fun _ => []) (k1 := fun _ => []) (ins := i_hand) (sl := l_hand) (outs := o_hand) (fun (a : (((Int × Int) × (Int × Int)) × ((Int × Int) × (Int × Int)) × ((Int × Int) × (Int × Int)))) => mb_hand a.1 a.2.1 a.2.2) 4 T.hand.f sc_hand rfl (fun _ => rfl) (fun _ => rfl) (fun _ => rfl) (fun cdv A outer s H E hr B hB a => ?_)
  show JSs _ B _ _ (mb_hand a.1 a.2.1 a.2.2) _
  unfold mb_hand
  exact ((js_consQ1 (fun (b1118 : ((Int × Int) × (Int × Int))) => [.val ((eP2 (eP2 D.int D.int) (eP2 D.int D.int)) a.1), .val ((eP2 (eP2 D.int D.int) (eP2 D.int D.int)) a.2.1), .val ((eP2 (eP2 D.int D.int) (eP2 D.int D.int)) a.2.2), .val ((eP2 D.int D.int) b1118.1), .val ((eP2 D.int D.int) b1118.2), .non, .non]) (j1_asgN (d := fun (b1118 : ((Int × Int) × (Int × Int))) => (eP2 (eP2 D.int D.int) (eP2 D.int D.int)) b1118) (je_callV (ins := i_way) (mf := m_way) (sl := l_way) (outs := o_way) (ok_way T) (hr.mono (by decide)) (by rfl) T.way.g T.way.f.kp T.way.b pass0 (arg := (a.1, a.2.1)) (ja_p (jp_var 0) (ja_p (jp_var 1) ja_nil)) hB) (fun b1118 => jg_tup rfl (jgs_p (jg_name 3 sc_hand.nd) (jgs_p (jg_name 4 sc_hand.nd) jgs_nil)))) fun b1118 =>
(js_consQ1 (fun (b1119 : ((Int × Int) × (Int × Int))) => [.val ((eP2 (eP2 D.int D.int) (eP2 D.int D.int)) a.1), .val ((eP2 (eP2 D.int D.int) (eP2 D.int D.int)) a.2.1), .val ((eP2 (eP2 D.int D.int) (eP2 D.int D.int)) a.2.2), .val ((eP2 D.int D.int) b1118.1), .val ((eP2 D.int D.int) b1118.2), .val ((eP2 D.int D.int) b1119.1), .val ((eP2 D.int D.int) b1119.2)]) (j1_asgN (d := fun (b1119 : ((Int × Int) × (Int × Int))) => (eP2 (eP2 D.int D.int) (eP2 D.int D.int)) b1119) (je_callV (ins := i_way) (mf := m_way) (sl := l_way) (outs := o_way) (ok_way T) (hr.mono (by decide)) (by rfl) T.way.g T.way.f.kp T.way.b pass0 (arg := (a.1, a.2.2)) (ja_p (jp_var 0) (ja_p (jp_var 2) ja_nil)) hB) (fun b1119 => jg_tup rfl (jgs_p (jg_name 5 sc_hand.nd) (jgs_p (jg_name 6 sc_hand.nd) jgs_nil)))) fun b1119 =>
(js_one (js_ret (fun (b1163 : ((((Unit × Unit) × Unit) × ((Unit × Unit) × Unit) × Unit) × Int)) => b1163.2) [false, false, false, false, false, false, false] (je_callVE (ρa := fun _ => _) (ins := i_sign_of) (mf := m_sign_of) (sl := l_sign_of) (outs := o_sign_of) (ok_sign_of T) (hr.mono (by decide)) (by rfl) T.sign_of.g T.sign_of.f.kp T.sign_of.b pass0 (arg := fun (c1161 : (((Unit × Unit) × Unit) × ((Unit × Unit) × Unit) × Unit)) => ((((b1118.1.1 * b1119.2.1) * b1118.2.2) * b1119.1.2) - (((b1118.2.1 * b1119.1.1) * b1118.1.2) * b1119.2.2))) (ja_el (ρa := fun _ => _) (xa := fun (x1160 : (((Unit × Unit) × Unit) × ((Unit × Unit) × Unit) × Unit)) => D.int ((((b1118.1.1 * b1119.2.1) * b1118.2.2) * b1119.1.2) - (((b1118.2.1 * b1119.1.1) * b1118.1.2) * b1119.2.2))) (je_op2 (ρa := fun _ => _) (ρb := fun _ _ => _) (s := fun (x1142 : ((Unit × Unit) × Unit)) (y1143 : ((Unit × Unit) × Unit)) (z0 : Unit) => (.val (D.int ((((b1118.1.1 * b1119.2.1) * b1118.2.2) * b1119.1.2) - (((b1118.2.1 * b1119.1.1) * b1118.1.2) * b1119.2.2))))) (xa := fun (x1142 : ((Unit × Unit) × Unit)) => D.int (((b1118.1.1 * b1119.2.1) * b1118.2.2) * b1119.1.2)) (xb := fun (x1142 : ((Unit × Unit) × Unit)) (y1143 : ((Unit × Unit) × Unit)) => D.int (((b1118.2.1 * b1119.1.1) * b1118.1.2) * b1119.2.2)) (fun _ _ ha hb => pe_op op_sub ha hb) (je_opLG (ρa := fun _ => _) (s := fun (x1137 : (Unit × Unit)) (z1141 : Unit) => (.val (D.int (((b1118.1.1 * b1119.2.1) * b1118.2.2) * b1119.1.2)))) (xa := fun (x1137 : (Unit × Unit)) => D.int ((b1118.1.1 * b1119.2.1) * b1118.2.2)) (y := fun (x1137 : (Unit × Unit)) => D.int b1119.1.2) (fun _ _ ha hb => pe_op op_mulX ha hb) (je_opLG (ρa := fun _ => _) (s := fun (x1132 : Unit) (z1136 : Unit) => (.val (D.int ((b1118.1.1 * b1119.2.1) * b1118.2.2)))) (xa := fun (x1132 : Unit) => D.int (b1118.1.1 * b1119.2.1)) (y := fun (x1132 : Unit) => D.int b1118.2.2) (fun _ _ ha hb => pe_op op_mulX ha hb) (je_op (fun _ _ ha hb => pe_op op_mulX ha hb) (je_op (fun _ _ ha hb => pe_ix ix_tup ha hb (fun _ _ => rfl)) (jp_var 3) jp_int (od_ixTs rfl)) (je_op (fun _ _ ha hb => pe_ix ix_tup ha hb (fun _ _ => rfl)) (jp_var 6) jp_int (od_ixTs rfl)) od_mul) (fun x1132 => (je_op (fun _ _ ha hb => pe_ix ix_tup ha hb (fun _ _ => rfl)) (jp_var 4) jp_int (od_ixTs rfl))) (fun x1132 => od_mul)) (fun x1137 => (je_op (fun _ _ ha hb => pe_ix ix_tup ha hb (fun _ _ => rfl)) (jp_var 5) jp_int (od_ixTs rfl))) (fun x1137 => od_mul)) (fun x1142 => (je_opLG (ρa := fun _ => _) (s := fun (x1155 : (Unit × Unit)) (z1159 : Unit) => (.val (D.int (((b1118.2.1 * b1119.1.1) * b1118.1.2) * b1119.2.2)))) (xa := fun (x1155 : (Unit × Unit)) => D.int ((b1118.2.1 * b1119.1.1) * b1118.1.2)) (y := fun (x1155 : (Unit × Unit)) => D.int b1119.2.2) (fun _ _ ha hb => pe_op op_mulX ha hb) (je_opLG (ρa := fun _ => _) (s := fun (x1150 : Unit) (z1154 : Unit) => (.val (D.int ((b1118.2.1 * b1119.1.1) * b1118.1.2)))) (xa := fun (x1150 : Unit) => D.int (b1118.2.1 * b1119.1.1)) (y := fun (x1150 : Unit) => D.int b1118.1.2) (fun _ _ ha hb => pe_op op_mulX ha hb) (je_op (fun _ _ ha hb => pe_op op_mulX ha hb) (je_op (fun _ _ ha hb => pe_ix ix_tup ha hb (fun _ _ => rfl)) (jp_var 4) jp_int (od_ixTs rfl)) (je_op (fun _ _ ha hb => pe_ix ix_tup ha hb (fun _ _ => rfl)) (jp_var 5) jp_int (od_ixTs rfl)) od_mul) (fun x1150 => (je_op (fun _ _ ha hb => pe_ix ix_tup ha hb (fun _ _ => rfl)) (jp_var 3) jp_int (od_ixTs rfl))) (fun x1150 => od_mul)) (fun x1155 => (je_op (fun _ _ ha hb => pe_ix ix_tup ha hb (fun _ _ => rfl)) (jp_var 6) jp_int (od_ixTs rfl))) (fun x1155 => od_mul))) (fun x1142 y1143 => od_sub)) (fun x1160 => ja_nil)) hB))))))
/-! bends -/
abbrev s_bends : Stmt := topS 16
theorem sc_bends : FnScope ["drawing", "row", "k", "p", "q", "r"] ["drawing", "row"] (defScope s_bends) := ⟨rfl, rfl, rfl, by decide +kernel, rfl, by decide +kernel, by decide +kernel⟩
noncomputable def mb_bends (v_drawing : (List ((Int × Int) × (Int × Int)))) (v_row : (List Int)) : R (Fl Unit Unit Bool) :=
(bindF (forR (fun (x1066 : (Int × Int)) (s1064 : Unit) =>
(((R.guard (((List.length v_row : Nat) : Int) ≠ (0 : Int))).bind fun (y1068 : Unit) => (R.some (atI v_row (Int.fmod (x1066.1 + (1 : Int)) ((List.length v_row : Nat) : Int)))).bind fun (z1073 : Int) => R.ok (y1068, z1073)).bind fun (b1075 : (Unit × Int)) => lt b1075.2 fun v_q_1074 =>
(bindF (((R.ok ()).bind fun (b1076 : Unit) => (R.guard (List.length v_row ≤ sizeLine)).bind fun _ => compR (compF (fun (x1078 : Int) (s1077 : Unit) => R.ok (!hasL x1078 [(x1066.2, v_q_1074).1, (x1066.2, v_q_1074).2])) (fun (z1181 : Bool) => z1181) (fun (x1078 : Int) (s1077 : Unit) => ((((R.some (atI v_drawing x1066.2)).bind fun (x1166 : ((Int × Int) × (Int × Int))) => ((R.some (atI v_drawing v_q_1074)).bind fun (x1169 : ((Int × Int) × (Int × Int))) => (R.some (atI v_drawing x1078)).bind fun (z1173 : ((Int × Int) × (Int × Int))) => R.ok (x1169, z1173)).bind fun (z1174 : (((Int × Int) × (Int × Int)) × ((Int × Int) × (Int × Int)))) => R.ok (x1166, z1174)).bind fun (c1175 : (((Int × Int) × (Int × Int)) × (((Int × Int) × (Int × Int)) × ((Int × Int) × (Int × Int))))) => (m_hand (c1175.1, c1175.2.1, c1175.2.2)).bind fun (z1176 : Int) => R.ok (c1175, z1176)).bind fun (y1180 : ((((Int × Int) × (Int × Int)) × (((Int × Int) × (Int × Int)) × ((Int × Int) × (Int × Int)))) × Int)) => R.ok ((decide (y1180.2 > (0 : Int))), ()))) Prod.fst Prod.snd) v_row [] ()).bind fun (b1187 : ((List Bool) × Unit)) => if (!(List.all b1187.1 id)) = true then (R.ok (.rt false)) else (R.ok (.nx ()))) fun n1188 =>
(R.ok (.nx ()))))) (enumL v_row) ()) fun n1065 =>
(R.ok (.rt (decide (((List.length v_row : Nat) : Int) ≥ (3 : Int))))))
noncomputable def m_bends (a : ((List ((Int × Int) × (Int × Int))) × (List Int))) : R Bool := fin0 (mb_bends a.1 a.2)
abbrev i_bends (a : ((List ((Int × Int) × (Int × Int))) × (List Int))) : List Slot := [.val ((eT (eP2 (eP2 D.int D.int) (eP2 D.int D.int))) a.1), .val ((eT D.int) a.2)]
abbrev l_bends (b : Bool) : Slot := .val (D.bool b)
abbrev o_bends (b : Bool) : List Slot := [.non, .non]
theorem ok_bends {P : Program} {w : World} {K : PySem.W.Frag} {mg : Str → Option Value} {base : Heap} (T : Top K mg) : FnG P w K mg base CX0 4 T.bends.a T.bends.d ["drawing", "row"] (spM K i_bends m_bends l_bends o_bends) := by
  show FnG P w K mg base CX0 (3 + 1) T.bends.a T.bends.d ["drawing", "row"] (spM K i_bends (fun (a : ((List ((Int × Int) × (Int × Int))) × (List Int))) => fin0 (mb_bends a.1 a.2)) l_bends o_bends)
  refine fn_ok (n1 := fun _ => []) (c1 := fun _ => []) (k1 := fun _ => []) (ins := i_bends) (sl := l_bends) (outs := o_bends) (fun (a : ((List ((Int × Int) × (Int × Int))) × (List Int))) => mb_bends a.1 a.2) 4 T.bends.f sc_bends rfl (fun _ => rfl) (fun _ => rfl) (fun _ => rfl) (fun cdv A outer s H E hr B hB a => ?_)
  show JSs _ B _ _ (mb_bends a.1 a.2) _
  unfold mb_bends
  exact ((js_cons (ρ1 := fun (n1065 : Unit) => [.val ((eT (eP2 (eP2 D.int D.int) (eP2 D.int D.int))) a.1), .val ((eT D.int) a.2), .non, .non, .non, .non]) (js_forP (en := (eP2 D.int D.int)) (fun (s1064 : Unit) => [.val ((eT (eP2 (eP2 D.int D.int) (eP2 D.int D.int))) a.1), .val ((eT D.int) a.2), .non, .non, .non, .non]) (fun (x1066 : (Int × Int)) (s1064 : Unit) => [.val ((eT (eP2 (eP2 D.int D.int) (eP2 D.int D.int))) a.1), .val ((eT D.int) a.2), .val (D.int x1066.1), .val (D.int x1066.2), .non, .non]) PassesOwn.never rfl (ji_enumT (f := D.int) (xs := fun (b1062 : Unit) => a.2) (by rfl) T.z_enumerate (jp_var 1)) [true, true, true, true, true, true] rfl (fun x1066 s1064 => (jg_tup rfl (jgs_p (jg_name 2 sc_bends.nd) (jgs_p (jg_name 3 sc_bends.nd) jgs_nil)))) (fun x1066 s1064 =>
(js_setEQ 4 D.int (fun (b1075 : (Unit × Int)) => b1075.2) (fun (b1075 : (Unit × Int)) (v_q_1074 : Int) => [.val ((eT (eP2 (eP2 D.int D.int) (eP2 D.int D.int))) a.1), .val ((eT D.int) a.2), .val (D.int x1066.1), .val (D.int x1066.2), .val (D.int v_q_1074), .non]) sc_bends.nd (je_opRG (ρb := fun _ => _) (s := fun (y1068 : Unit) (z1073 : Int) => (.val (D.int z1073))) (xb := fun (y1068 : Unit) => D.int (Int.fmod (x1066.1 + (1 : Int)) ((List.length a.2 : Nat) : Int))) (fun _ _ ha hb => pe_ix ix_tup ha hb (fun _ _ => rfl)) (jp_var 1) (je_op (fun _ _ ha hb => pe_op op_modN ha hb) (je_op (fun _ _ ha hb => pe_op op_add ha hb) (jp_var 2) jp_int od_add) (je_cb (fun _ ht => pe_callB call_len_seq (by rfl) T.z_len (by decide +kernel) ht) (ja_p (jp_var 1) ja_nil) cb_lenTm) od_mod) (fun y1068 => od_ixTm)) fun b1075 v_q_1074 =>
(js_cons (ρ1 := fun (n1188 : Unit) => [.val ((eT (eP2 (eP2 D.int D.int) (eP2 D.int D.int))) a.1), .val ((eT D.int) a.2), .val (D.int x1066.1), .val (D.int x1066.2), .val (D.int v_q_1074), .non]) (js_if (jt_not (jt_val (je_cbN (ρa := fun _ => _) (s := fun (c1185 : ((List Bool) × Unit)) => .val (D.bool (List.all c1185.1 id))) (fun _ ht => pe_callB (cr_all rfl) (by rfl) T.z_all (by decide +kernel) ht) (ja_el (ρa := fun _ => _) (xa := fun (x1184 : ((List Bool) × Unit)) => (eL D.bool) x1184.1) (je_frzL (v := fun (b1183 : ((List Bool) × Unit)) => b1183.1) (je_lc (xs := fun (b1076 : Unit) => a.2) (ea := D.int) (ts := [5]) (c := fun (x1078 : Int) (s1077 : Unit) => R.ok (!hasL x1078 [(x1066.2, v_q_1074).1, (x1066.2, v_q_1074).2])) (bn := fun (z1181 : Bool) => z1181) (me := fun (x1078 : Int) (s1077 : Unit) => ((((R.some (atI a.1 x1066.2)).bind fun (x1166 : ((Int × Int) × (Int × Int))) => ((R.some (atI a.1 v_q_1074)).bind fun (x1169 : ((Int × Int) × (Int × Int))) => (R.some (atI a.1 x1078)).bind fun (z1173 : ((Int × Int) × (Int × Int))) => R.ok (x1169, z1173)).bind fun (z1174 : (((Int × Int) × (Int × Int)) × ((Int × Int) × (Int × Int)))) => R.ok (x1166, z1174)).bind fun (c1175 : (((Int × Int) × (Int × Int)) × (((Int × Int) × (Int × Int)) × ((Int × Int) × (Int × Int))))) => (m_hand (c1175.1, c1175.2.1, c1175.2.2)).bind fun (z1176 : Int) => R.ok (c1175, z1176)).bind fun (y1180 : ((((Int × Int) × (Int × Int)) × (((Int × Int) × (Int × Int)) × ((Int × Int) × (Int × Int)))) × Int)) => R.ok ((decide (y1180.2 > (0 : Int))), ()))) [("r", 5)] D.bool (fun (s1077 : Unit) => [.val ((eT (eP2 (eP2 D.int D.int) (eP2 D.int D.int))) a.1), .val ((eT D.int) a.2), .val (D.int x1066.1), .val (D.int x1066.2), .val (D.int v_q_1074), .non]) (fun (b1076 : Unit) => ()) (fun (x1078 : Int) (s1077 : Unit) => [.val ((eT (eP2 (eP2 D.int D.int) (eP2 D.int D.int))) a.1), .val ((eT D.int) a.2), .val (D.int x1066.1), .val (D.int x1066.2), .val (D.int v_q_1074), .val (D.int x1078)]) Prod.fst Prod.snd rfl sc_bends.nd (ji_tup (jp_var 1)) (blkOk_by (N := ["drawing", "row", "k", "p", "q", "r"]) (sc := defScope s_bends) (by decide +kernel)) (fun _ => rfl) (fun _ _ _ _ _ _ hB1079 x1078 s1077 => (have hB := noRs hB1079 hB; (jn_name 5 sc_bends.nd))) (fun _ _ _ _ _ _ hB1079 x1078 s1077 => (have hB := noRs hB1079 hB; (jts_one (jt_pb (jt_op (fun _ _ ha hb => pt_cmpR op_notIn_seq ha hb (by rfl)) (jp_var 5) (show JP _ _ _ _ ((eT D.int) [(x1066.2, v_q_1074).1, (x1066.2, v_q_1074).2]) from (je_tup (ja_p (jp_var 3) (ja_p (jp_var 4) ja_nil)))) od_niTI))))) (fun _ _ _ _ _ _ hB1079 x1078 s1077 => (have hB := noRs hB1079 hB; (je_mapS (en := D.bool) (v := fun (y1180 : ((((Int × Int) × (Int × Int)) × (((Int × Int) × (Int × Int)) × ((Int × Int) × (Int × Int)))) × Int)) => (decide (y1180.2 > (0 : Int)))) (st := fun (y1180 : ((((Int × Int) × (Int × Int)) × (((Int × Int) × (Int × Int)) × ((Int × Int) × (Int × Int)))) × Int)) => ()) (ρ' := fun (s1182 : Unit) => [.val ((eT (eP2 (eP2 D.int D.int) (eP2 D.int D.int))) a.1), .val ((eT D.int) a.2), .val (D.int x1066.1), .val (D.int x1066.2), .val (D.int v_q_1074), .val (D.int x1078)]) (je_opL (ρa := fun _ => _) (s := fun (x1177 : ((((Int × Int) × (Int × Int)) × (((Int × Int) × (Int × Int)) × ((Int × Int) × (Int × Int)))) × Int)) => (.val (D.bool (decide (x1177.2 > (0 : Int)))))) (xa := fun (x1177 : ((((Int × Int) × (Int × Int)) × (((Int × Int) × (Int × Int)) × ((Int × Int) × (Int × Int)))) × Int)) => D.int x1177.2) (y := fun (x1177 : ((((Int × Int) × (Int × Int)) × (((Int × Int) × (Int × Int)) × ((Int × Int) × (Int × Int)))) × Int)) => D.int (0 : Int)) (fun _ _ ha hb => pe_cmpR op_gt ha hb (nomark _)) (je_callVE (ρa := fun _ => _) (ins := i_hand) (mf := m_hand) (sl := l_hand) (outs := o_hand) (ok_hand T) (hr.mono (by decide)) (by rfl) T.hand.g T.hand.f.kp T.hand.b pass0 (arg := fun (c1175 : (((Int × Int) × (Int × Int)) × (((Int × Int) × (Int × Int)) × ((Int × Int) × (Int × Int))))) => (c1175.1, c1175.2.1, c1175.2.2)) (ja_e (ρ' := fun _ _ => _) (ρa := fun _ => _) (xa := fun (x1166 : ((Int × Int) × (Int × Int))) => (eP2 (eP2 D.int D.int) (eP2 D.int D.int)) x1166) (je_op (fun _ _ ha hb => pe_ix ix_tup ha hb (fun _ _ => rfl)) (jp_var 0) (jp_var 3) od_ixTm) (fun x1166 => (ja_e (ρ' := fun _ _ => _) (ρa := fun _ => _) (xa := fun (x1169 : ((Int × Int) × (Int × Int))) => (eP2 (eP2 D.int D.int) (eP2 D.int D.int)) x1169) (je_op (fun _ _ ha hb => pe_ix ix_tup ha hb (fun _ _ => rfl)) (jp_var 0) (jp_var 4) od_ixTm) (fun x1169 => (ja_el (ρa := fun _ => _) (xa := fun (x1172 : ((Int × Int) × (Int × Int))) => (eP2 (eP2 D.int D.int) (eP2 D.int D.int)) x1172) (je_op (fun _ _ ha hb => pe_ix ix_tup ha hb (fun _ _ => rfl)) (jp_var 0) (jp_var 5) od_ixTm) (fun x1172 => ja_nil)))))) hB) (fun x1177 => jp_int) (fun x1177 => od_gt))))))) (fun x1184 => ja_nil)) (fun c1185 => cb_allL)))) (fun b1187 => (js_one (js_retP false [false, false, false, false, false, true] jp_bl))) (fun b1187 => (js_nil [true, true, true, true, true, true] ()))) fun n1188 =>
(js_nil [true, true, false, false, false, true] ()))))) fun n1065 =>
(js_one (js_retP (decide (((List.length a.2 : Nat) : Int) ≥ (3 : Int))) [false, false, true, true, true, true] (je_op (fun _ _ ha hb => pe_cmpR op_ge ha hb (nomark _)) (je_cb (fun _ ht => pe_callB call_len_seq (by rfl) T.z_len (by decide +kernel) ht) (ja_p (jp_var 1) ja_nil) cb_lenTm) (jp_gint T.g_FEWEST_BENDING) od_ge)))))
/-! law -/
abbrev s_law : Stmt := topS 38
theorem sc_law : FnScope ["_law_script", "_law_k", "_law_pot_here", "_law_many", "_law_drawing", "_law_p", "_law_q", "_law_row_here", "_law_due", "_law_found"] ["_law_script"] (defScope s_law) := ⟨rfl, rfl, rfl, by decide +kernel, rfl, by decide +kernel, by decide +kernel⟩
noncomputable def mb_law (v_script : List Int) : R (Fl Unit Unit Bool) :=
(bindF ((R.guard (rngOk (max (1 : Int) (min ((List.length v_script : Nat) : Int) (4 : Int))))).bind fun (b1 : Unit) => forR (fun (x4 : Int) (s2 : Unit) =>
((m_law_pot (v_script, x4)).bind fun (b36 : (List Int)) => lt b36 fun v_pot_here_35 =>
((m_law_digit (v_pot_here_35, (6 : Int))).bind fun (b78 : (Int × (List Int))) => lt ((3 : Int) + b78.1) fun v_many_77 =>
(((m_law_digit (b78.2, (2 : Int))).bind fun (d473 : (Int × (List Int))) => (R.guard (d473.1 = 0 ∨ d473.1 = 1)).bind fun _ => (if d473.1 = 0 then m_law_points (d473.2, v_many_77) else m_law_bow (d473.2, v_many_77)).bind fun (b474 : ((List ((Int × Int) × (Int × Int))) × (List Int))) => R.ok (d473, b474)).bind fun (b477 : ((Int × (List Int)) × ((List ((Int × Int) × (Int × Int))) × (List Int)))) => lt b477.2.1 fun v_drawing_476 =>
(bindF (((m_law_row (b477.2.2, v_many_77)).bind fun (c828 : ((List Int) × (List Int))) => (m_law_area_right (c828.2, v_drawing_476, c828.1)).bind fun (z829 : (Bool × (List Int))) => R.ok (c828, z829)).bind fun (b831 : (((List Int) × (List Int)) × (Bool × (List Int)))) => if (!b831.2.1) = true then (R.ok (.rt false)) else (R.ok (.nx b831.2.2))) fun n832 =>
(((m_law_digit (n832, v_many_77)).bind fun (x834 : (Int × (List Int))) => (m_law_digit (x834.2, v_many_77)).bind fun (z837 : (Int × (List Int))) => R.ok (x834, z837)).bind fun (b838 : ((Int × (List Int)) × (Int × (List Int)))) =>
(bindF (((m_law_area_right (b838.2.2, v_drawing_476, [(b838.1.1, b838.1.1, b838.2.1).1, (b838.1.1, b838.1.1, b838.2.1).2.1, (b838.1.1, b838.1.1, b838.2.1).2.2])).bind fun (y845 : (Bool × (List Int))) => if (!y845.1) = true then (R.ok (true, y845.2)) else ((m_law_area_right (y845.2, v_drawing_476, [(b838.1.1, b838.2.1, b838.1.1).1, (b838.1.1, b838.2.1, b838.1.1).2.1, (b838.1.1, b838.2.1, b838.1.1).2.2])).bind fun (y847 : (Bool × (List Int))) => R.ok ((!y847.1), y847.2))).bind fun (b848 : (Bool × (List Int))) => if b848.1 = true then (R.ok (.rt false)) else (R.ok (.nx b848.2))) fun n849 =>
(bindF (((R.guard (RgOk 0 v_many_77)).bind fun (x850 : Unit) => ((m_law_unlike (n849, v_many_77)).bind fun (x911 : ((List Int) × (List Int))) => (m_law_unlike (x911.2, v_many_77)).bind fun (z914 : ((List Int) × (List Int))) => R.ok (x911, z914)).bind fun (z915 : (((List Int) × (List Int)) × ((List Int) × (List Int)))) => R.ok (x850, z915)).bind fun (b918 : (Unit × (((List Int) × (List Int)) × ((List Int) × (List Int))))) => forR (fun (x921 : (List Int)) (s919 : (List Int)) =>
((m_law_bends (v_drawing_476, x921)).bind fun (b1061 : Bool) => lt b1061 fun v_due_1060 =>
((m_bends (v_drawing_476, x921)).bind fun (b1192 : Bool) => lt b1192 fun v_found_1191 =>
(bindF ((or2 (R.ok ()) (fun (b1203 : Unit) => (!(isBool (D.bool v_found_1191)))) (or2 (R.ok ()) (fun (b1202 : Unit) => (!decide (v_found_1191 = v_due_1060))) ((and2 (R.ok ()) (fun (b1200 : Unit) => v_due_1060) ((((R.ok ()).bind fun (b1195 : Unit) => (R.guard (0 ≤ List.length x921)).bind fun _ => R.ok b1195).bind fun (c1197 : Unit) => (m_bends (v_drawing_476, (List.reverse (List.drop 0 x921)))).bind fun (z1198 : Bool) => R.ok (c1197, z1198)).bind fun (b1199 : (Unit × Bool)) => R.ok b1199.2)).bind fun (b1201 : Bool) => R.ok b1201))).bind fun (b1204 : Bool) => if b1204 = true then (R.ok (.rt false)) else (R.ok (.nx ()))) fun n1205 =>
(bindF ((m_law_area_right (s919, v_drawing_476, x921)).bind fun (b1207 : (Bool × (List Int))) => if (!b1207.1) = true then (R.ok (.rt false)) else (R.ok (.nx b1207.2))) fun n1208 =>
(R.ok (.nx n1208))))))) [(rng 0 v_many_77), b918.2.1.1, b918.2.2.1, ([] : List Int)] b918.2.2.2) fun n920 =>
(R.ok (.nx ())))))))))) (rng 0 (max (1 : Int) (min ((List.length v_script : Nat) : Int) (4 : Int)))) ()) fun n3 =>
(R.ok (.rt true)))
noncomputable def m_law (a : List Int) : R Bool := fin0 (mb_law a)
abbrev i_law (a : List Int) : List Slot := [.val (D.scr a)]
abbrev l_law (b : Bool) : Slot := .val (D.bool b)
abbrev o_law (b : Bool) : List Slot := [.non]
theorem ok_law {P : Program} {w : World} {K : PySem.W.Frag} {mg : Str → Option Value} {base : Heap} (T : Top K mg) : FnG P w K mg base CX0 7 T.law.a T.law.d ["_law_script"] (spM K i_law m_law l_law o_law) := by
  show FnG P w K mg base CX0 (6 + 1) T.law.a T.law.d ["_law_script"] (spM K i_law (fun (a : List Int) => fin0 (mb_law a)) l_law o_law)
  refine fn_ok (n1 := fun _ => []) (c1 := fun _ => []) (k1 := fun _ => []) (ins := i_law) (sl := l_law) (outs := o_law) (fun (a : List Int) => mb_law a) 9 T.law.f sc_law rfl (fun _ => rfl) (fun _ => rfl) (fun _ => rfl) (fun cdv A outer s H E hr B hB a => ?_)
  show JSs _ B _ _ (mb_law a) _
  unfold mb_law
  exact ((js_cons (ρ1 := fun (n3 : Unit) => [.val (D.scr a), .non, .non, .non, .non, .non, .non, .non, .non, .non]) (js_for (en := D.int) (xs := fun (b1 : Unit) => (rng 0 (max (1 : Int) (min ((List.length a : Nat) : Int) (4 : Int))))) (s0 := fun (b1 : Unit) => ()) (fun (s2 : Unit) => [.val (D.scr a), .non, .non, .non, .non, .non, .non, .non, .non, .non]) (fun (x4 : Int) (s2 : Unit) => [.val (D.scr a), .val (D.int x4), .non, .non, .non, .non, .non, .non, .non, .non]) PassesOwn.never rfl (ji_rng1P (i := (max (1 : Int) (min ((List.length a : Nat) : Int) (4 : Int)))) T.z_range (ja_p (je_cb (fun _ ht => pe_callB (call_max2 rfl) (by rfl) T.z_max (by decide +kernel) ht) (ja_p jp_int (ja_p (je_cb (fun _ ht => pe_callB (call_min2 rfl) (by rfl) T.z_min (by decide +kernel) ht) (ja_p (je_cb (fun _ ht => pe_callB call_len_seq (by rfl) T.z_len (by decide +kernel) ht) (ja_p (jp_var 0) ja_nil) cb_lenS) (ja_p jp_int ja_nil)) cb_min) ja_nil)) cb_max) ja_nil)) [true, true, true, true, true, true, true, true, true, true] (fun _ => rfl) (fun x4 s2 => (jg_name 1 sc_law.nd)) (fun x4 s2 =>
(js_setOQ 2 (oL D.int) (fun (b36 : (List Int)) => b36) (fun (b36 : (List Int)) (v_pot_here_35 : (List Int)) => [.val (D.scr a), .val (D.int x4), .own 0 ((oL D.int) v_pot_here_35), .non, .non, .non, .non, .non, .non, .non]) sc_law.nd (je_callV (ins := i_law_pot) (mf := m_law_pot) (sl := l_law_pot) (outs := o_law_pot) (ok_law_pot T) (hr.mono (by decide)) (by rfl) T.law_pot.g T.law_pot.f.kp T.law_pot.b pass0 (arg := (a, x4)) (ja_p (jp_var 0) (ja_p (jp_var 1) ja_nil)) hB) fun b36 v_pot_here_35 =>
(js_setEQ 3 D.int (fun (b78 : (Int × (List Int))) => ((3 : Int) + b78.1)) (fun (b78 : (Int × (List Int))) (v_many_77 : Int) => [.val (D.scr a), .val (D.int x4), .own 0 ((oL D.int) b78.2), .val (D.int v_many_77), .non, .non, .non, .non, .non, .non]) sc_law.nd (je_opR (s := fun (y38 : (Int × (List Int))) => (.val (D.int ((3 : Int) + y38.1)))) (xb := fun (y38 : (Int × (List Int))) => D.int y38.1) (fun _ _ ha hb => pe_op op_add ha hb) jp_int (je_callQ (ins := i_law_digit) (mf := m_law_digit) (sl := l_law_digit) (outs := o_law_digit) (ok_law_digit T) (hr.mono (by decide)) (by rfl) T.law_digit.g T.law_digit.f.kp T.law_digit.b pass0 (arg := (v_pot_here_35, (6 : Int))) (fun (b75 : (Int × (List Int))) => [.val (D.scr a), .val (D.int x4), .own 0 ((oL D.int) b75.2), .non, .non, .non, .non, .non, .non, .non]) (ja_s 2 (ja_p jp_int ja_nil)) hB) (fun y38 => od_add)) fun b78 v_many_77 =>
(js_setEQ 4 (eT (eP2 (eP2 D.int D.int) (eP2 D.int D.int))) (fun (b477 : ((Int × (List Int)) × ((List ((Int × Int) × (Int × Int))) × (List Int)))) => b477.2.1) (fun (b477 : ((Int × (List Int)) × ((List ((Int × Int) × (Int × Int))) × (List Int)))) (v_drawing_476 : (List ((Int × Int) × (Int × Int)))) => [.val (D.scr a), .val (D.int x4), .own 0 ((oL D.int) b477.2.2), .val (D.int v_many_77), .val ((eT (eP2 (eP2 D.int D.int) (eP2 D.int D.int))) v_drawing_476), .non, .non, .non, .non, .non]) sc_law.nd (je_callOf (ins := i_law_points) (mf1 := m_law_points) (mf2 := m_law_bow) (sl := l_law_points) (outs := o_law_points) (ok_law_points T) (hr.mono (by decide)) (by rfl) T.law_points.g T.law_points.f.kp T.law_points.b (ok_law_bow T) (hr.mono (by decide)) (by rfl) T.law_bow.g T.law_bow.f.kp T.law_bow.b pass0 (kk := fun (d473 : (Int × (List Int))) => d473.1) (je_callQ (ins := i_law_digit) (mf := m_law_digit) (sl := l_law_digit) (outs := o_law_digit) (ok_law_digit T) (hr.mono (by decide)) (by rfl) T.law_digit.g T.law_digit.f.kp T.law_digit.b pass0 (arg := (b78.2, (2 : Int))) (fun (b472 : (Int × (List Int))) => [.val (D.scr a), .val (D.int x4), .own 0 ((oL D.int) b472.2), .val (D.int v_many_77), .non, .non, .non, .non, .non, .non]) (ja_s 2 (ja_p jp_int ja_nil)) hB) (fun (d473 : (Int × (List Int))) => (d473.2, v_many_77)) (fun (z475 : (Int × (List Int)) × ((List ((Int × Int) × (Int × Int))) × (List Int))) => [.val (D.scr a), .val (D.int x4), .own 0 ((oL D.int) z475.2.2), .val (D.int v_many_77), .non, .non, .non, .non, .non, .non]) (fun d473 => (ja_s 2 (ja_p (jp_var 3) ja_nil))) hB) fun b477 v_drawing_476 =>
(js_cons (ρ1 := fun (n832 : (List Int)) => [.val (D.scr a), .val (D.int x4), .own 0 ((oL D.int) n832), .val (D.int v_many_77), .val ((eT (eP2 (eP2 D.int D.int) (eP2 D.int D.int))) v_drawing_476), .non, .non, .non, .non, .non]) (js_if (jt_not (jt_val (je_callQE (ins := i_law_area_right) (mf := m_law_area_right) (sl := l_law_area_right) (outs := o_law_area_right) (ok_law_area_right T) (hr.mono (by decide)) (by rfl) T.law_area_right.g T.law_area_right.f.kp T.law_area_right.b pass0 (arg := fun (c828 : ((List Int) × (List Int))) => (c828.2, v_drawing_476, c828.1)) (fun (b830 : ((List Int) × (List Int)) × (Bool × (List Int))) => [.val (D.scr a), .val (D.int x4), .own 0 ((oL D.int) b830.2.2), .val (D.int v_many_77), .val ((eT (eP2 (eP2 D.int D.int) (eP2 D.int D.int))) v_drawing_476), .non, .non, .non, .non, .non]) (ja_s 2 (ja_p (jp_var 4) (ja_el (xa := fun (x827 : ((List Int) × (List Int))) => (eT D.int) x827.1) (je_callQ (ins := i_law_row) (mf := m_law_row) (sl := l_law_row) (outs := o_law_row) (ok_law_row T) (hr.mono (by decide)) (by rfl) T.law_row.g T.law_row.f.kp T.law_row.b pass0 (arg := (b477.2.2, v_many_77)) (fun (b826 : ((List Int) × (List Int))) => [.val (D.scr a), .val (D.int x4), .own 0 ((oL D.int) b826.2), .val (D.int v_many_77), .val ((eT (eP2 (eP2 D.int D.int) (eP2 D.int D.int))) v_drawing_476), .non, .non, .non, .non, .non]) (ja_s 2 (ja_p (jp_var 3) ja_nil)) hB) (fun x827 => ja_nil)))) hB))) (fun b831 => (js_one (js_retP false [false, false, false, false, false, true, true, true, true, true] jp_bl))) (fun b831 => (js_nil [true, true, true, true, true, true, true, true, true, true] b831.2.2))) fun n832 =>
(js_consQ1 (fun (b838 : ((Int × (List Int)) × (Int × (List Int)))) => [.val (D.scr a), .val (D.int x4), .own 0 ((oL D.int) b838.2.2), .val (D.int v_many_77), .val ((eT (eP2 (eP2 D.int D.int) (eP2 D.int D.int))) v_drawing_476), .val (D.int b838.1.1), .val (D.int b838.2.1), .non, .non, .non]) (j1_par 5 6 (d1 := fun (b838 : ((Int × (List Int)) × (Int × (List Int)))) => D.int b838.1.1) (d2 := fun (b838 : ((Int × (List Int)) × (Int × (List Int)))) => D.int b838.2.1) rfl sc_law.nd (ja_e (xa := fun (x834 : (Int × (List Int))) => D.int x834.1) (je_callQ (ins := i_law_digit) (mf := m_law_digit) (sl := l_law_digit) (outs := o_law_digit) (ok_law_digit T) (hr.mono (by decide)) (by rfl) T.law_digit.g T.law_digit.f.kp T.law_digit.b pass0 (arg := (n832, v_many_77)) (fun (b833 : (Int × (List Int))) => [.val (D.scr a), .val (D.int x4), .own 0 ((oL D.int) b833.2), .val (D.int v_many_77), .val ((eT (eP2 (eP2 D.int D.int) (eP2 D.int D.int))) v_drawing_476), .non, .non, .non, .non, .non]) (ja_s 2 (ja_p (jp_var 3) ja_nil)) hB) (fun x834 => (ja_el (xa := fun (x836 : (Int × (List Int))) => D.int x836.1) (je_callQ (ins := i_law_digit) (mf := m_law_digit) (sl := l_law_digit) (outs := o_law_digit) (ok_law_digit T) (hr.mono (by decide)) (by rfl) T.law_digit.g T.law_digit.f.kp T.law_digit.b pass0 (arg := (x834.2, v_many_77)) (fun (b835 : (Int × (List Int))) => [.val (D.scr a), .val (D.int x4), .own 0 ((oL D.int) b835.2), .val (D.int v_many_77), .val ((eT (eP2 (eP2 D.int D.int) (eP2 D.int D.int))) v_drawing_476), .non, .non, .non, .non, .non]) (ja_s 2 (ja_p (jp_var 3) ja_nil)) hB) (fun x836 => ja_nil))))) fun b838 =>
(js_cons (ρ1 := fun (n849 : (List Int)) => [.val (D.scr a), .val (D.int x4), .own 0 ((oL D.int) n849), .val (D.int v_many_77), .val ((eT (eP2 (eP2 D.int D.int) (eP2 D.int D.int))) v_drawing_476), .val (D.int b838.1.1), .val (D.int b838.2.1), .non, .non, .non]) (js_if (jt_w (jw_orS (xa := fun (y845 : (Bool × (List Int))) => (!y845.1)) (fun (y845 : (Bool × (List Int))) => y845.2) (fun (s843 : (List Int)) => [.val (D.scr a), .val (D.int x4), .own 0 ((oL D.int) s843), .val (D.int v_many_77), .val ((eT (eP2 (eP2 D.int D.int) (eP2 D.int D.int))) v_drawing_476), .val (D.int b838.1.1), .val (D.int b838.2.1), .non, .non, .non]) (jt_not (jt_val (je_callQ (ins := i_law_area_right) (mf := m_law_area_right) (sl := l_law_area_right) (outs := o_law_area_right) (ok_law_area_right T) (hr.mono (by decide)) (by rfl) T.law_area_right.g T.law_area_right.f.kp T.law_area_right.b pass0 (arg := (b838.2.2, v_drawing_476, [(b838.1.1, b838.1.1, b838.2.1).1, (b838.1.1, b838.1.1, b838.2.1).2.1, (b838.1.1, b838.1.1, b838.2.1).2.2])) (fun (b844 : (Bool × (List Int))) => [.val (D.scr a), .val (D.int x4), .own 0 ((oL D.int) b844.2), .val (D.int v_many_77), .val ((eT (eP2 (eP2 D.int D.int) (eP2 D.int D.int))) v_drawing_476), .val (D.int b838.1.1), .val (D.int b838.2.1), .non, .non, .non]) (ja_s 2 (ja_p (jp_var 4) (ja_p (show JP _ _ _ _ ((eT D.int) [(b838.1.1, b838.1.1, b838.2.1).1, (b838.1.1, b838.1.1, b838.2.1).2.1, (b838.1.1, b838.1.1, b838.2.1).2.2]) from (je_tup (ja_p (jp_var 5) (ja_p (jp_var 5) (ja_p (jp_var 6) ja_nil))))) ja_nil))) hB))) (fun y845 => (jw_or1 (jt_mapS (bn := fun (y847 : (Bool × (List Int))) => (!y847.1)) (st := fun (y847 : (Bool × (List Int))) => y847.2) (ρS := (fun (s843 : (List Int)) => [.val (D.scr a), .val (D.int x4), .own 0 ((oL D.int) s843), .val (D.int v_many_77), .val ((eT (eP2 (eP2 D.int D.int) (eP2 D.int D.int))) v_drawing_476), .val (D.int b838.1.1), .val (D.int b838.2.1), .non, .non, .non])) (jt_not (jt_val (je_callQ (ins := i_law_area_right) (mf := m_law_area_right) (sl := l_law_area_right) (outs := o_law_area_right) (ok_law_area_right T) (hr.mono (by decide)) (by rfl) T.law_area_right.g T.law_area_right.f.kp T.law_area_right.b pass0 (arg := (y845.2, v_drawing_476, [(b838.1.1, b838.2.1, b838.1.1).1, (b838.1.1, b838.2.1, b838.1.1).2.1, (b838.1.1, b838.2.1, b838.1.1).2.2])) (fun (b846 : (Bool × (List Int))) => [.val (D.scr a), .val (D.int x4), .own 0 ((oL D.int) b846.2), .val (D.int v_many_77), .val ((eT (eP2 (eP2 D.int D.int) (eP2 D.int D.int))) v_drawing_476), .val (D.int b838.1.1), .val (D.int b838.2.1), .non, .non, .non]) (ja_s 2 (ja_p (jp_var 4) (ja_p (show JP _ _ _ _ ((eT D.int) [(b838.1.1, b838.2.1, b838.1.1).1, (b838.1.1, b838.2.1, b838.1.1).2.1, (b838.1.1, b838.2.1, b838.1.1).2.2]) from (je_tup (ja_p (jp_var 5) (ja_p (jp_var 6) (ja_p (jp_var 5) ja_nil))))) ja_nil))) hB)))))))) (fun b848 => (js_one (js_retP false [false, false, false, false, false, false, false, true, true, true] jp_bl))) (fun b848 => (js_nil [true, true, true, true, true, true, true, true, true, true] b848.2))) fun n849 =>
(js_cons (ρ1 := fun (n920 : (List Int)) => [.val (D.scr a), .val (D.int x4), .own 0 ((oL D.int) n920), .val (D.int v_many_77), .val ((eT (eP2 (eP2 D.int D.int) (eP2 D.int D.int))) v_drawing_476), .val (D.int b838.1.1), .val (D.int b838.2.1), .non, .non, .non]) (js_for (en := (eT D.int)) (xs := fun (b918 : (Unit × (((List Int) × (List Int)) × ((List Int) × (List Int))))) => [(rng 0 v_many_77), b918.2.1.1, b918.2.2.1, ([] : List Int)]) (s0 := fun (b918 : (Unit × (((List Int) × (List Int)) × ((List Int) × (List Int))))) => b918.2.2.2) (fun (s919 : (List Int)) => [.val (D.scr a), .val (D.int x4), .own 0 ((oL D.int) s919), .val (D.int v_many_77), .val ((eT (eP2 (eP2 D.int D.int) (eP2 D.int D.int))) v_drawing_476), .val (D.int b838.1.1), .val (D.int b838.2.1), .non, .non, .non]) (fun (x921 : (List Int)) (s919 : (List Int)) => [.val (D.scr a), .val (D.int x4), .own 0 ((oL D.int) s919), .val (D.int v_many_77), .val ((eT (eP2 (eP2 D.int D.int) (eP2 D.int D.int))) v_drawing_476), .val (D.int b838.1.1), .val (D.int b838.2.1), .val ((eT D.int) x921), .non, .non]) PassesOwn.never rfl (ji_list (je_frzL (v := fun (b917 : (Unit × (((List Int) × (List Int)) × ((List Int) × (List Int))))) => [(rng 0 v_many_77), b917.2.1.1, b917.2.2.1, ([] : List Int)]) (je_lstT (eT D.int) (fun (b916 : (Unit × (((List Int) × (List Int)) × ((List Int) × (List Int))))) => ([(rng 0 v_many_77), b916.2.1.1, b916.2.2.1, ([] : List Int)] : List (List Int))) (ja_e (ρa := fun _ => _) (xa := fun (x850 : Unit) => (eT D.int) (rng 0 v_many_77)) (je_trg1 rfl T.z_tuple T.z_range (jp_var 3)) (fun x850 => (ja_e (xa := fun (x911 : ((List Int) × (List Int))) => (eT D.int) x911.1) (je_callQ (ins := i_law_unlike) (mf := m_law_unlike) (sl := l_law_unlike) (outs := o_law_unlike) (ok_law_unlike T) (hr.mono (by decide)) (by rfl) T.law_unlike.g T.law_unlike.f.kp T.law_unlike.b pass0 (arg := (n849, v_many_77)) (fun (b910 : ((List Int) × (List Int))) => [.val (D.scr a), .val (D.int x4), .own 0 ((oL D.int) b910.2), .val (D.int v_many_77), .val ((eT (eP2 (eP2 D.int D.int) (eP2 D.int D.int))) v_drawing_476), .val (D.int b838.1.1), .val (D.int b838.2.1), .non, .non, .non]) (ja_s 2 (ja_p (jp_var 3) ja_nil)) hB) (fun x911 => (ja_el (xa := fun (x913 : ((List Int) × (List Int))) => (eT D.int) x913.1) (je_callQ (ins := i_law_unlike) (mf := m_law_unlike) (sl := l_law_unlike) (outs := o_law_unlike) (ok_law_unlike T) (hr.mono (by decide)) (by rfl) T.law_unlike.g T.law_unlike.f.kp T.law_unlike.b pass0 (arg := (x911.2, v_many_77)) (fun (b912 : ((List Int) × (List Int))) => [.val (D.scr a), .val (D.int x4), .own 0 ((oL D.int) b912.2), .val (D.int v_many_77), .val ((eT (eP2 (eP2 D.int D.int) (eP2 D.int D.int))) v_drawing_476), .val (D.int b838.1.1), .val (D.int b838.2.1), .non, .non, .non]) (ja_s 2 (ja_p (jp_var 3) ja_nil)) hB) (fun x913 => (ja_p (je_tup ja_nil) ja_nil)))))))))) [true, true, true, true, true, true, true, true, true, true] (fun _ => rfl) (fun x921 s919 => (jg_name 7 sc_law.nd)) (fun x921 s919 =>
(js_setEQ 8 D.bool (fun (b1061 : Bool) => b1061) (fun (b1061 : Bool) (v_due_1060 : Bool) => [.val (D.scr a), .val (D.int x4), .own 0 ((oL D.int) s919), .val (D.int v_many_77), .val ((eT (eP2 (eP2 D.int D.int) (eP2 D.int D.int))) v_drawing_476), .val (D.int b838.1.1), .val (D.int b838.2.1), .val ((eT D.int) x921), .val (D.bool v_due_1060), .non]) sc_law.nd (je_callV (ins := i_law_bends) (mf := m_law_bends) (sl := l_law_bends) (outs := o_law_bends) (ok_law_bends T) (hr.mono (by decide)) (by rfl) T.law_bends.g T.law_bends.f.kp T.law_bends.b pass0 (arg := (v_drawing_476, x921)) (ja_p (jp_var 4) (ja_p (jp_var 7) ja_nil)) hB) fun b1061 v_due_1060 =>
(js_setEQ 9 D.bool (fun (b1192 : Bool) => b1192) (fun (b1192 : Bool) (v_found_1191 : Bool) => [.val (D.scr a), .val (D.int x4), .own 0 ((oL D.int) s919), .val (D.int v_many_77), .val ((eT (eP2 (eP2 D.int D.int) (eP2 D.int D.int))) v_drawing_476), .val (D.int b838.1.1), .val (D.int b838.2.1), .val ((eT D.int) x921), .val (D.bool v_due_1060), .val (D.bool v_found_1191)]) sc_law.nd (je_callV (ins := i_bends) (mf := m_bends) (sl := l_bends) (outs := o_bends) (ok_bends T) (hr.mono (by decide)) (by rfl) T.bends.g T.bends.f.kp T.bends.b pass0 (arg := (v_drawing_476, x921)) (ja_p (jp_var 4) (ja_p (jp_var 7) ja_nil)) hB) fun b1192 v_found_1191 =>
(js_cons (ρ1 := fun (n1205 : Unit) => [.val (D.scr a), .val (D.int x4), .own 0 ((oL D.int) s919), .val (D.int v_many_77), .val ((eT (eP2 (eP2 D.int D.int) (eP2 D.int D.int))) v_drawing_476), .val (D.int b838.1.1), .val (D.int b838.2.1), .val ((eT D.int) x921), .val (D.bool v_due_1060), .val (D.bool v_found_1191)]) (js_if (jt_w (jw_or (xa := fun (b1203 : Unit) => (!(isBool (D.bool v_found_1191)))) (jt_not (jt_val (je_isi isi_bool (jp_var 9) T.z_isinstance T.z_bool (by decide +kernel)))) (jw_or (xa := fun (b1202 : Unit) => (!decide (v_found_1191 = v_due_1060))) (jt_op (fun _ _ ha hb => pt_cmpR (op_neD (un64 hr)) ha hb (nomark _)) (jp_var 9) (jp_var 8) (od_neD ee_bool)) (jw_or1 (jt_map (jt_w (jw_and (xa := fun (b1200 : Unit) => v_due_1060) (jt_val (jp_var 8)) (jw_and1 (jt_map (jt_val (je_callVE (ρa := fun _ => _) (ins := i_bends) (mf := m_bends) (sl := l_bends) (outs := o_bends) (ok_bends T) (hr.mono (by decide)) (by rfl) T.bends.g T.bends.f.kp T.bends.b pass0 (arg := fun (c1197 : Unit) => (v_drawing_476, (List.reverse (List.drop 0 x921)))) (ja_p (jp_var 4) (ja_el (ρa := fun _ => _) (xa := fun (x1196 : Unit) => (eT D.int) (List.reverse (List.drop 0 x921))) (je_revT (f := D.int) (xs := fun (b1195 : Unit) => x921) (jp_var 7) po_none (.inl ⟨rfl, rfl⟩)) (fun x1196 => ja_nil))) hB))))))))))) (fun b1204 => (js_one (js_retP false [false, false, false, false, false, false, false, false, false, false] jp_bl))) (fun b1204 => (js_nil [true, true, true, true, true, true, true, true, true, true] ()))) fun n1205 =>
(js_cons (ρ1 := fun (n1208 : (List Int)) => [.val (D.scr a), .val (D.int x4), .own 0 ((oL D.int) n1208), .val (D.int v_many_77), .val ((eT (eP2 (eP2 D.int D.int) (eP2 D.int D.int))) v_drawing_476), .val (D.int b838.1.1), .val (D.int b838.2.1), .val ((eT D.int) x921), .val (D.bool v_due_1060), .val (D.bool v_found_1191)]) (js_if (jt_not (jt_val (je_callQ (ins := i_law_area_right) (mf := m_law_area_right) (sl := l_law_area_right) (outs := o_law_area_right) (ok_law_area_right T) (hr.mono (by decide)) (by rfl) T.law_area_right.g T.law_area_right.f.kp T.law_area_right.b pass0 (arg := (s919, v_drawing_476, x921)) (fun (b1206 : (Bool × (List Int))) => [.val (D.scr a), .val (D.int x4), .own 0 ((oL D.int) b1206.2), .val (D.int v_many_77), .val ((eT (eP2 (eP2 D.int D.int) (eP2 D.int D.int))) v_drawing_476), .val (D.int b838.1.1), .val (D.int b838.2.1), .val ((eT D.int) x921), .val (D.bool v_due_1060), .val (D.bool v_found_1191)]) (ja_s 2 (ja_p (jp_var 4) (ja_p (jp_var 7) ja_nil))) hB))) (fun b1207 => (js_one (js_retP false [false, false, false, false, false, false, false, false, false, false] jp_bl))) (fun b1207 => (js_nil [true, true, true, true, true, true, true, true, true, true] b1207.2))) fun n1208 =>
(js_nil [true, true, true, true, true, true, true, false, false, false] n1208))))))) fun n920 =>
(js_nil [true, false, false, false, false, false, false, true, true, true] ())))))))))) fun n3 =>
(js_one (js_retP true [false, true, true, true, true, true, true, true, true, true] jp_bl))))

/-! digits -/
theorem digit_ok (a b many : Int) (h : 0 < many) (h2 : many < 2 ^ 8000) : ∃ r a' b', m_law_digit ([a, b], many) = .ok (r, [a', b']) ∧ 0 ≤ r ∧ r < many := by
  unfold m_law_digit mb_law_digit
  have e0 : atI [a, b] (0 : Int) = some a := rfl
  have e1 : atI [a, b] (1 : Int) = some b := rfl
  have i0 : ixN (List.length [a, b]) (0 : Int) = some 0 := rfl
  have i1 : ixN (List.length [a, b]) (1 : Int) = some 1 := rfl
  simp only [e0, e1, i0, i1, some_ok, bind_ok, List.set_cons_succ, List.set_cons_zero]
  by_cases ha : a > 0
  · rw [guard_ok (divp_ok' h h2)]
    refine ⟨a % many, a / many, b, ?_, Int.emod_nonneg _ (by omega), Int.emod_lt_of_pos _ h⟩
    simp only [ha, decide_true, if_true, bind_ok, bindF_rt, fin0_rt]
    rfl
  · generalize hc : (b * 48271 + 39373) % 2147483647 = c
    have c0 : 0 ≤ c := by omega
    have c1 : c < 2147483647 := by omega
    have e2 : atI [a, c] (1 : Int) = some c := rfl
    have hm : CMulX c c := mulx 31 (by omega) (by omega)
    simp only [ha, decide_false, Bool.false_eq_true, if_false, bindF_nx, e2, some_ok, op2_ok, bind_ok, guard_ok hm, guard_ok (show many ≠ 0 by omega)]
    refine ⟨_, a, c, rfl, ?_, ?_⟩
    · rw [Int.fmod_eq_emod_of_nonneg _ (by omega)]
      exact Int.emod_nonneg _ (by omega)
    · rw [Int.fmod_eq_emod_of_nonneg _ (by omega)]
      exact Int.emod_lt_of_pos _ h
theorem pot_ok (ns : List Int) (k : Int) (h0 : 0 ≤ k) : ∃ a b, m_law_pot (ns, k) = .ok [a, b] := by
  unfold m_law_pot mb_law_pot
  obtain ⟨c, h1, h2⟩ := cell_ok ns k h0
  rw [guard_ok (line_ok (by simp only [List.length_cons, List.length_nil]; omega))]
  simp only [h1, some_ok, bind_ok, lt_eq, fin0_rt]
  exact ⟨_, _, rfl⟩
def Pot (l : List Int) : Prop := ∃ a b, l = [a, b]
theorem digit {l : List Int} {many : Int} (hp : Pot l) (h : 0 < many) (h2 : many < 2 ^ 8000) : Ok (m_law_digit (l, many)) fun p => 0 ≤ p.1 ∧ p.1 < many ∧ Pot p.2 := by
  obtain ⟨a, b, rfl⟩ := hp
  obtain ⟨r, a', b', e, h3, h4⟩ := digit_ok a b many h h2
  exact ⟨_, e, h3, h4, a', b', rfl⟩
theorem pot (ns : List Int) {k : Int} (h0 : 0 ≤ k) : Ok (m_law_pot (ns, k)) Pot := by
  obtain ⟨a, b, e⟩ := pot_ok ns k h0
  exact ⟨_, e, a, b, rfl⟩
theorem small8000 {k : Int} (h : k < 1000000000000) : k < 2 ^ 8000 := Int.lt_of_lt_of_le h (by decide +kernel)

/-- the greatest divisor -/
theorem gcd_loop : ∀ (k : Nat) (a b : Int), 0 ≤ a → 0 ≤ b → b ≤ k → whR (L := Unit) (T := Int) (fun (s : Int × Int) => R.ok (decide (s.2 > (0 : Int)))) (fun s => (R.guard (s.2 ≠ (0 : Int))).bind fun (x : Unit) => R.ok (.nx (s.2, Int.fmod s.1 s.2))) (a, b) = .ok (.nx ((Int.gcd a b : Int), 0)) := by
  intro k
  induction k with
  | zero =>
    intro a b ha hb h
    have : b = 0 := by omega
    subst this
    rw [whR_false (by rfl)]
    rw [Int.gcd_zero_right]
    simp [Int.natAbs_of_nonneg ha]
  | succ k ih =>
    intro a b ha hb h
    by_cases hb0 : b = 0
    · subst hb0
      rw [whR_false (by rfl), Int.gcd_zero_right]
      simp [Int.natAbs_of_nonneg ha]
    · refine whR_true (s' := (b, a.fmod b)) (by simp; omega) (by rw [guard_ok hb0]; rfl) ?_
      rw [Int.fmod_eq_emod_of_nonneg _ hb]
      have := Int.emod_lt_of_pos a (show 0 < b by omega)
      rw [ih b (a % b) hb (Int.emod_nonneg _ hb0) (by omega)]
      have e : Int.gcd b (a % b) = Int.gcd a b := by
        obtain ⟨m, rfl⟩ := Int.eq_ofNat_of_zero_le ha
        obtain ⟨n, rfl⟩ := Int.eq_ofNat_of_zero_le hb
        rw [← Int.natCast_emod]
        simp only [Int.gcd, Int.natAbs_natCast]
        rw [Nat.gcd_comm n, ← Nat.gcd_rec, Nat.gcd_comm]
      rw [e]
theorem abs_ite (i : Int) : (if i < 0 then -i else i) = (i.natAbs : Int) := by split <;> omega
theorem divisor_ok (n d : Int) : m_divisor (n, d) = .ok (Int.gcd n d : Int) := by
  unfold m_divisor mb_divisor
  simp only [abs_ite]
  rw [gcd_loop d.natAbs _ _ (by omega) (by omega) (by omega)]
  simp only [bindF_nx, fin0_rt]
  rw [show Int.gcd (n.natAbs : Int) (d.natAbs : Int) = Int.gcd n d by simp [Int.gcd]]
theorem gcd_lt {n d : Int} {k : Nat} (hd : d ≠ 0) (h : d.natAbs < 2 ^ k) : (Int.gcd n d : Int).natAbs < 2 ^ k := by
  have := Nat.le_of_dvd (by omega) (Int.natAbs_dvd_natAbs.mpr (Int.gcd_dvd_right n d))
  omega
theorem pw (a b : Nat) (h : a ≤ b) {x : Nat} (hx : x < 2 ^ a) : x < 2 ^ b := Nat.lt_of_lt_of_le hx (Nat.pow_le_pow_right (by decide) h)
theorem mul_lt2 {i j : Int} {a b : Nat} (hi : i.natAbs < 2 ^ a) (hj : j.natAbs < 2 ^ b) : (i * j).natAbs < 2 ^ (a + b) := wide_lt hi hj
theorem add_lt2 {i j : Int} {a : Nat} (hi : i.natAbs < 2 ^ a) (hj : j.natAbs < 2 ^ a) : (i + j).natAbs < 2 ^ (a + 1) := by
  rw [Nat.pow_succ]
  omega
theorem sub_lt2 {i j : Int} {a : Nat} (hi : i.natAbs < 2 ^ a) (hj : j.natAbs < 2 ^ a) : (i - j).natAbs < 2 ^ (a + 1) := by
  rw [Nat.pow_succ]
  omega
/-- in lowest terms -/
def cutP (x : Int × Int) : Int × Int := (x.1.fdiv (Int.gcd x.1 x.2 : Int), x.2.fdiv (Int.gcd x.1 x.2 : Int))
theorem cutP_spec {n d : Int} (h : 0 < d) : 0 < (cutP (n, d)).2 ∧ Int.gcd (cutP (n, d)).1 (cutP (n, d)).2 = 1 ∧ (cutP (n, d)).1 * d = n * (cutP (n, d)).2 ∧ (cutP (n, d)).1.natAbs ≤ n.natAbs ∧ (cutP (n, d)).2.natAbs ≤ d.natAbs := by
  obtain ⟨h1, h2, h3, h4, h5⟩ := fr_low (n := n) (d := d) (g := (Int.gcd n d : Int)) (by rw [if_neg (by omega)]) (by omega)
  refine ⟨h4, h5, ?_, ?_, ?_⟩
  · show n.fdiv (Int.gcd n d : Int) * d = n * d.fdiv (Int.gcd n d : Int)
    generalize (Int.gcd n d : Int) = g at *
    calc n.fdiv g * d = n.fdiv g * (d.fdiv g * g) := by rw [h3]
      _ = (n.fdiv g * g) * d.fdiv g := by rw [Int.mul_comm (d.fdiv g) g, Int.mul_assoc]
      _ = n * d.fdiv g := by rw [h2]
  · have e := congrArg Int.natAbs h2
    rw [Int.natAbs_mul] at e
    show (n.fdiv _).natAbs ≤ n.natAbs
    rw [← e]
    exact Nat.le_mul_of_pos_right _ (by omega)
  · have e := congrArg Int.natAbs h3
    rw [Int.natAbs_mul] at e
    show (d.fdiv _).natAbs ≤ d.natAbs
    rw [← e]
    exact Nat.le_mul_of_pos_right _ (by omega)
theorem coprime_unique {a b c d : Int} (hb : 0 < b) (hd : 0 < d) (g1 : Int.gcd a b = 1) (g2 : Int.gcd c d = 1) (h : a * d = c * b) : (a, b) = (c, d) := by
  have e := congrArg Int.natAbs h
  rw [Int.natAbs_mul, Int.natAbs_mul] at e
  have d1 : b.natAbs ∣ d.natAbs := Nat.Coprime.dvd_of_dvd_mul_left (show Nat.Coprime b.natAbs a.natAbs by rw [Nat.coprime_comm]; exact g1) ⟨c.natAbs, by rw [e, Nat.mul_comm]⟩
  have d2 : d.natAbs ∣ b.natAbs := Nat.Coprime.dvd_of_dvd_mul_left (show Nat.Coprime d.natAbs c.natAbs by rw [Nat.coprime_comm]; exact g2) ⟨a.natAbs, by rw [← e, Nat.mul_comm]⟩
  have e2 : b = d := by
    have := Nat.dvd_antisymm d1 d2
    omega
  subst e2
  have : a = c := Int.eq_of_mul_eq_mul_right (by omega) h
  rw [this]
/-- of the same worth -/
theorem cutP_eq {x y : Int × Int} (hx : 0 < x.2) (hy : 0 < y.2) (h : x.1 * y.2 = y.1 * x.2) : cutP x = cutP y := by
  obtain ⟨n, d⟩ := x
  obtain ⟨m, e⟩ := y
  obtain ⟨a1, a2, a3, _⟩ := cutP_spec (n := n) hx
  obtain ⟨b1, b2, b3, _⟩ := cutP_spec (n := m) hy
  have hx : 0 < d := hx
  have hy : 0 < e := hy
  have h : n * e = m * d := h
  generalize cutP (n, d) = p at *
  generalize cutP (m, e) = q at *
  refine coprime_unique a1 b1 a2 b2 ?_
  have k : (p.1 * q.2) * (d * e) = (q.1 * p.2) * (d * e) := by
    calc (p.1 * q.2) * (d * e) = (p.1 * d) * (q.2 * e) := by ac_rfl
      _ = (n * p.2) * (q.2 * e) := by rw [a3]
      _ = (n * e) * (p.2 * q.2) := by ac_rfl
      _ = (m * d) * (p.2 * q.2) := by rw [h]
      _ = (m * q.2) * (p.2 * d) := by ac_rfl
      _ = (q.1 * e) * (p.2 * d) := by rw [b3]
      _ = (q.1 * p.2) * (d * e) := by ac_rfl
  exact Int.eq_of_mul_eq_mul_right (Int.mul_ne_zero (by omega) (by omega)) k
theorem cutP_low {x : Int × Int} (hx : 0 < x.2) (h : Int.gcd x.1 x.2 = 1) : cutP x = x := by
  obtain ⟨n, d⟩ := x
  show (n.fdiv (Int.gcd n d : Int), d.fdiv (Int.gcd n d : Int)) = _
  rw [show Int.gcd n d = 1 from h]
  simp
theorem fraction_pos {n d : Int} (hd : 0 < d) (hb : d.natAbs < 2 ^ 8000) : m_fraction (n, d) = .ok (cutP (n, d)) := by
  unfold m_fraction mb_fraction
  have hg := gcd_lt (n := n) (show d ≠ 0 by omega) hb
  have h0 : (Int.gcd n d : Int) ≠ 0 := fun z => by
    have := Int.gcd_eq_zero_iff.mp (show Int.gcd n d = 0 by omega)
    omega
  have hd2 : ¬ d < 0 := by omega
  simp only [divisor_ok, bind_ok, lt_eq, hd2, decide_false, Bool.false_eq_true, if_false, bindF_nx, guard_ok (div_ok (i := n) h0 hg), guard_ok (div_ok (i := d) h0 hg), fin0_rt]
  rfl

/-! ### fractions worth a / D -/
/-- a fraction told rightly -/
def Right (f : Int × Int) (n d : Int) : Prop := 0 < f.2 ∧ Int.gcd f.1 f.2 = 1 ∧ f.1 * d = n * f.2
theorem gcd_loop2 : ∀ (k : Nat) (a b : Int), 0 ≤ a → 0 ≤ b → b ≤ k → whR (L := Unit) (T := Int × Int) (fun (s : Int × Int) => R.ok (decide (s.2 > (0 : Int)))) (fun s => (R.guard (s.2 ≠ (0 : Int))).bind fun (x : Unit) => R.ok (.nx (s.2, Int.fmod s.1 s.2))) (a, b) = .ok (.nx ((Int.gcd a b : Int), 0)) := by
  intro k
  induction k with
  | zero =>
    intro a b ha hb h
    have : b = 0 := by omega
    subst this
    rw [whR_false (by rfl)]
    rw [Int.gcd_zero_right]
    simp [Int.natAbs_of_nonneg ha]
  | succ k ih =>
    intro a b ha hb h
    by_cases hb0 : b = 0
    · subst hb0
      rw [whR_false (by rfl), Int.gcd_zero_right]
      simp [Int.natAbs_of_nonneg ha]
    · refine whR_true (s' := (b, a.fmod b)) (by simp; omega) (by rw [guard_ok hb0]; rfl) ?_
      rw [Int.fmod_eq_emod_of_nonneg _ hb]
      have := Int.emod_lt_of_pos a (show 0 < b by omega)
      rw [ih b (a % b) hb (Int.emod_nonneg _ hb0) (by omega)]
      have e : Int.gcd b (a % b) = Int.gcd a b := by
        obtain ⟨m, rfl⟩ := Int.eq_ofNat_of_zero_le ha
        obtain ⟨n, rfl⟩ := Int.eq_ofNat_of_zero_le hb
        rw [← Int.natCast_emod]
        simp only [Int.gcd, Int.natAbs_natCast]
        rw [Nat.gcd_comm n, ← Nat.gcd_rec, Nat.gcd_comm]
      rw [e]
theorem low_ok (n d : Int) (hd : d ≠ 0) (hb : d.natAbs < 2 ^ 8000) : ∃ f, m_law_low (n, d) = .ok f ∧ Right f n d ∧ f.1.natAbs ≤ n.natAbs ∧ f.2.natAbs ≤ d.natAbs := by
  unfold m_law_low mb_law_low
  simp only [abs_ite]
  rw [gcd_loop2 d.natAbs _ _ (by omega) (by omega) (by omega)]
  rw [show Int.gcd (n.natAbs : Int) (d.natAbs : Int) = Int.gcd n d by simp [Int.gcd]]
  simp only [bindF_nx, lt_eq]
  have hg := gcd_lt (n := n) hd hb
  generalize hG : (if d < 0 then -(Int.gcd n d : Int) else (Int.gcd n d : Int)) = g
  obtain ⟨h1, h2, h3, h4, h5⟩ := fr_low hG.symm hd
  have gb : g.natAbs < 2 ^ 8000 := by
    rw [← hG]
    split
    · rw [Int.natAbs_neg]
      exact hg
    · exact hg
  have hif : ∀ (k : Int → R (Fl Unit Unit (Int × Int))), bindF (if (decide (d < (0 : Int))) = true then (R.ok (.nx (-(Int.gcd n d : Int)))) else (R.ok (.nx (Int.gcd n d : Int))) : R (Fl Int Unit (Int × Int))) k = k g := by
    intro k
    rw [← hG]
    by_cases h : d < 0 <;> simp [h, bindF_nx]
  simp only [hif, guard_ok (div_ok (i := n) h1 gb), guard_ok (div_ok (i := d) h1 gb), bind_ok, fin0_rt]
  refine ⟨_, rfl, ⟨h4, h5, ?_⟩, ?_, ?_⟩
  · show n.fdiv g * d = n * d.fdiv g
    calc n.fdiv g * d = n.fdiv g * (d.fdiv g * g) := by rw [h3]
      _ = (n.fdiv g * g) * d.fdiv g := by rw [Int.mul_comm (d.fdiv g) g, Int.mul_assoc]
      _ = n * d.fdiv g := by rw [h2]
  · have e := congrArg Int.natAbs h2
    rw [Int.natAbs_mul] at e
    show (n.fdiv g).natAbs ≤ n.natAbs
    rw [← e]
    exact Nat.le_mul_of_pos_right _ (by omega)
  · have e := congrArg Int.natAbs h3
    rw [Int.natAbs_mul] at e
    show (d.fdiv g).natAbs ≤ d.natAbs
    rw [← e]
    exact Nat.le_mul_of_pos_right _ (by omega)
structure Vl (D : Int) (f : Int × Int) (a : Int) : Prop where
  d0 : 0 < f.2
  low : Int.gcd f.1 f.2 = 1
  eq : f.1 * D = a * f.2
theorem Vl.uniq {D a : Int} {f g : Int × Int} (hD : 0 < D) (h : Vl D f a) (h' : Vl D g a) : f = g := by
  refine coprime_unique (a := f.1) (b := f.2) (c := g.1) (d := g.2) h.d0 h'.d0 h.low h'.low (Int.eq_of_mul_eq_mul_right (a := D) (by omega) ?_)
  calc f.1 * g.2 * D = (f.1 * D) * g.2 := by ac_rfl
    _ = (a * f.2) * g.2 := by rw [h.eq]
    _ = (a * g.2) * f.2 := by ac_rfl
    _ = (g.1 * D) * f.2 := by rw [h'.eq]
    _ = g.1 * f.2 * D := by ac_rfl
theorem Vl.neg {D a : Int} {f : Int × Int} (h : Vl D f a) : Vl D (-f.1, f.2) (-a) := ⟨h.d0, by rw [← h.low]; show Int.gcd (-f.1) f.2 = _; rw [Int.neg_gcd], by show -f.1 * D = -a * f.2; rw [Int.neg_mul, h.eq, Int.neg_mul]⟩
theorem Vl.d_le {D a : Int} {f : Int × Int} (hD : 0 < D) (h : Vl D f a) : f.2 ≤ D := by
  have e := congrArg Int.natAbs h.eq
  rw [Int.natAbs_mul, Int.natAbs_mul] at e
  have dv : f.2.natAbs ∣ D.natAbs := Nat.Coprime.dvd_of_dvd_mul_left (show Nat.Coprime f.2.natAbs f.1.natAbs by rw [Nat.coprime_comm]; exact h.low) ⟨a.natAbs, by rw [e, Nat.mul_comm]⟩
  have := Nat.le_of_dvd (by omega) dv
  omega
theorem Vl.n_le {D a : Int} {f : Int × Int} (hD : 0 < D) (h : Vl D f a) : f.1.natAbs ≤ a.natAbs := by
  have e := congrArg Int.natAbs h.eq
  rw [Int.natAbs_mul, Int.natAbs_mul] at e
  have k := h.d_le hD
  have d0 := h.d0
  have k2 : f.1.natAbs * D.natAbs ≤ a.natAbs * D.natAbs := by
    rw [e]
    exact Nat.mul_le_mul_left _ (by omega)
  exact Nat.le_of_mul_le_mul_right k2 (by omega)
theorem vl_of {n d D a : Int} {f : Int × Int} (hd : 0 < d) (h : Right f n d) (e : n * D = a * d) : Vl D f a := by
  refine ⟨h.1, h.2.1, Int.eq_of_mul_eq_mul_right (a := d) (by omega) ?_⟩
  calc f.1 * D * d = (f.1 * d) * D := by ac_rfl
    _ = (n * f.2) * D := by rw [h.2.2]
    _ = (n * D) * f.2 := by ac_rfl
    _ = (a * d) * f.2 := by rw [e]
    _ = a * f.2 * d := by ac_rfl
theorem cut_right {n d : Int} (hd : 0 < d) : Right (cutP (n, d)) n d := by
  obtain ⟨k1, k2, k3, _⟩ := cutP_spec (n := n) hd
  exact ⟨k1, k2, k3⟩
/-- small enough -/
def Sz (D a : Int) : Prop := 0 < D ∧ D.natAbs < 2 ^ 3990 ∧ a.natAbs < 2 ^ 20000
/-- worth a / D, perhaps not in lowest terms -/
structure Wv (D : Int) (f : Int × Int) (a : Int) : Prop where
  d0 : 0 < f.2
  eq : f.1 * D = a * f.2
  b1 : f.1.natAbs < 2 ^ 20000
  b2 : f.2.natAbs < 2 ^ 3990
theorem Vl.wv {D a : Int} {f : Int × Int} (h : Vl D f a) (s : Sz D a) : Wv D f a := by
  have h1 := h.n_le s.1
  have h2 := h.d_le s.1
  have h3 := h.d0
  have h4 := s.2.1
  refine ⟨h3, h.eq, Nat.lt_of_le_of_lt h1 s.2.2, Nat.lt_of_le_of_lt (by omega) h4⟩
theorem Vl.scale {D a : Int} {f : Int × Int} (h : Vl D f a) (e : Int) : Vl (D * e) f (a * e) := ⟨h.d0, h.low, by rw [← Int.mul_assoc, h.eq]; ac_rfl⟩
theorem Wv.scale {D a : Int} {f : Int × Int} (h : Wv D f a) (e : Int) : Wv (D * e) f (a * e) := ⟨h.d0, by rw [← Int.mul_assoc, h.eq]; ac_rfl, h.b1, h.b2⟩
theorem mulS {i j : Int} (h : i.natAbs < 2 ^ 20000) (k : j.natAbs < 2 ^ 3990) : CMulX i j := mulx 20000 h (pw 3990 20000 (by decide) k)
theorem frac_ok {n d : Int} (hd : 0 < d) (hb : d.natAbs < 2 ^ 8000) : ∃ r, m_fraction (n, d) = .ok r ∧ m_law_low (n, d) = .ok r ∧ Right r n d := by
  obtain ⟨f, e, h1, h2, h3⟩ := low_ok n d (by omega) hb
  refine ⟨f, ?_, e, h1⟩
  rw [fraction_pos hd hb]
  have c := cut_right (n := n) hd
  have : cutP (n, d) = f := coprime_unique (a := (cutP (n, d)).1) (b := (cutP (n, d)).2) (c := f.1) (d := f.2) c.1 h1.1 c.2.1 h1.2.1 (Int.eq_of_mul_eq_mul_right (a := d) (by omega) (by
    calc (cutP (n, d)).1 * f.2 * d = ((cutP (n, d)).1 * d) * f.2 := by ac_rfl
      _ = (n * (cutP (n, d)).2) * f.2 := by rw [c.2.2]
      _ = (n * f.2) * (cutP (n, d)).2 := by ac_rfl
      _ = (f.1 * d) * (cutP (n, d)).2 := by rw [h1.2.2]
      _ = f.1 * (cutP (n, d)).2 * d := by ac_rfl))
  rw [this]
section
variable {D E a b : Int} {f g : Int × Int}
theorem den_lt (hf : f.2.natAbs < 2 ^ 3990) (hg : g.2.natAbs < 2 ^ 3990) : (f.2 * g.2).natAbs < 2 ^ 8000 := pw 7980 8000 (by decide) (mul_lt2 hf hg)
theorem plusW (hf : Wv D f a) (hg : Wv D g b) : ∃ r, m_plus (f, g) = .ok r ∧ m_law_plus (f, g) = .ok r ∧ Vl D r (a + b) := by
  obtain ⟨d1, _, f1, f2⟩ := hf
  obtain ⟨d2, _, g1, g2⟩ := hg
  obtain ⟨r, e1, e2, h⟩ := frac_ok (n := f.1 * g.2 + g.1 * f.2) (Int.mul_pos d1 d2) (den_lt f2 g2)
  have c1 : CMulX f.1 g.2 := mulS f1 g2
  have c2 : CMulX g.1 f.2 := mulS g1 f2
  have c3 : CMulX f.2 g.2 := mulS (pw 3990 20000 (by decide) f2) g2
  refine ⟨r, ?_, ?_, vl_of (Int.mul_pos d1 d2) h ?_⟩
  · unfold m_plus mb_plus
    simp only [guard_ok c1, guard_ok c2, guard_ok c3, op2_ok, bind_okN, e1, fin0_rt]
  · unfold m_law_plus mb_law_plus
    simp only [guard_ok c1, guard_ok c2, guard_ok c3, op2_ok, bind_okN, e2, fin0_rt]
  · calc (f.1 * g.2 + g.1 * f.2) * D = (f.1 * D) * g.2 + (g.1 * D) * f.2 := by rw [Int.add_mul]; ac_rfl
      _ = (a * f.2) * g.2 + (b * g.2) * f.2 := by simp only [*]
      _ = _ := by rw [Int.add_mul]; ac_rfl
theorem lessW (hf : Wv D f a) (hg : Wv D g b) : ∃ r, m_less (f, g) = .ok r ∧ m_law_less (f, g) = .ok r ∧ Vl D r (a - b) := by
  obtain ⟨d1, _, f1, f2⟩ := hf
  obtain ⟨d2, _, g1, g2⟩ := hg
  obtain ⟨r, e1, e2, h⟩ := frac_ok (n := f.1 * g.2 - g.1 * f.2) (Int.mul_pos d1 d2) (den_lt f2 g2)
  have c1 : CMulX f.1 g.2 := mulS f1 g2
  have c2 : CMulX g.1 f.2 := mulS g1 f2
  have c3 : CMulX f.2 g.2 := mulS (pw 3990 20000 (by decide) f2) g2
  refine ⟨r, ?_, ?_, vl_of (Int.mul_pos d1 d2) h ?_⟩
  · unfold m_less mb_less
    simp only [guard_ok c1, guard_ok c2, guard_ok c3, op2_ok, bind_okN, e1, fin0_rt]
  · unfold m_law_less mb_law_less
    simp only [guard_ok c1, guard_ok c2, guard_ok c3, op2_ok, bind_okN, e2, fin0_rt]
  · calc (f.1 * g.2 - g.1 * f.2) * D = (f.1 * D) * g.2 - (g.1 * D) * f.2 := by rw [Int.sub_mul]; ac_rfl
      _ = (a * f.2) * g.2 - (b * g.2) * f.2 := by simp only [*]
      _ = _ := by rw [Int.sub_mul]; ac_rfl
theorem timesW (hf : Wv D f a) (hg : Wv E g b) : ∃ r, m_times (f, g) = .ok r ∧ m_law_times (f, g) = .ok r ∧ Vl (D * E) r (a * b) := by
  obtain ⟨d1, _, f1, f2⟩ := hf
  obtain ⟨d2, _, g1, g2⟩ := hg
  obtain ⟨r, e1, e2, h⟩ := frac_ok (n := f.1 * g.1) (Int.mul_pos d1 d2) (den_lt f2 g2)
  have c1 : CMulX f.1 g.1 := mulx 20000 f1 g1
  have c3 : CMulX f.2 g.2 := mulS (pw 3990 20000 (by decide) f2) g2
  refine ⟨r, ?_, ?_, vl_of (Int.mul_pos d1 d2) h ?_⟩
  · unfold m_times mb_times
    simp only [guard_ok c1, guard_ok c3, op2_ok, bind_okN, e1, fin0_rt]
  · unfold m_law_times mb_law_times
    simp only [guard_ok c1, guard_ok c3, op2_ok, bind_okN, e2, fin0_rt]
  · calc (f.1 * g.1) * (D * E) = (f.1 * D) * (g.1 * E) := by ac_rfl
      _ = (a * f.2) * (b * g.2) := by simp only [*]
      _ = _ := by ac_rfl
end

--#split
/-! ### points drawn: common denominators -/
abbrev Fq := Int × Int
abbrev Pq := Fq × Fq
/-- a coordinate to come: of so many bits more -/
def Cd (i b : Nat) (D : Int) (f : Fq) : Prop := ∃ e a : Int, 0 < e ∧ e.natAbs < 2 ^ b ∧ Vl (D * e) f a ∧ a.natAbs < 2 ^ (220 * i + 440 + b)
structure Gc (i : Nat) (D : Int) : Prop where
  d0 : 0 < D
  db : D.natAbs < 2 ^ (220 * i + 1)
/-- a coordinate that is there -/
def Gv (i : Nat) (D : Int) (f : Fq) : Prop := ∃ a : Int, Vl D f a ∧ a.natAbs < 2 ^ (220 * i + 440)
theorem Cd.up {i b b' : Nat} {D : Int} {f : Fq} (h : Cd i b D f) (l : b ≤ b') : Cd i b' D f := by
  obtain ⟨e, a, h1, h2, h3, h4⟩ := h
  exact ⟨e, a, h1, pw _ _ l h2, h3, pw _ _ (by omega) h4⟩
theorem sz_of {i : Nat} {D a : Int} {m : Nat} (hi : i ≤ 8) (d0 : 0 < D) (db : D.natAbs < 2 ^ (220 * i + 1 + 220)) (ha : a.natAbs < 2 ^ m) (hm : m ≤ 20000) : Sz D a := ⟨d0, pw _ _ (by omega) db, pw _ _ hm ha⟩
theorem number_ok {l : List Int} (hp : Pot l) {mode : Int} (m0 : 0 ≤ mode) (m1 : mode < 3) : Ok (m_law_number (l, mode)) fun r => (0 < r.1.2 ∧ Int.gcd r.1.1 r.1.2 = 1 ∧ r.1.1.natAbs < 2 ^ 195 ∧ r.1.2.natAbs < 2 ^ 195) ∧ Pot r.2 := by
  have big : (2000000000000000000000000000000000000000000000000000000000 : Nat) < 2 ^ 195 := by decide
  have big2 : (2000000000000000000000000000000000000000000000000000000000 : Int) < 2 ^ 8000 := by decide +kernel
  have big3 : (2000000000000000000000000000000000000000000000000000000000 : Nat) < 2 ^ 8000 := by decide +kernel
  unfold m_law_number mb_law_number
  simp only [DL.bind_assoc, bind_okN, lt_eqN]
  refine Ok.f0 (Ok.bF (Pn := fun _ => ¬ mode = 0) (Ok.ite (fun e => ?_) fun e => Ok.nx (of_decide_eq_false e)) fun _ h0 => Ok.bF (Pn := fun _ => ¬ mode = 1) (Ok.ite (fun e => ?_) fun e => Ok.nx (of_decide_eq_false e)) fun _ h1 => ?_)
  · refine (digit hp (by decide) (by decide)).bind fun x hx => (digit hx.2.2 (by decide) (by decide)).bind fun y hy => ?_
    obtain ⟨x0, x1, _⟩ := hx
    obtain ⟨y0, y1, y2⟩ := hy
    obtain ⟨f, e1, h1, h2, h3⟩ := low_ok (x.1 - 4) (1 + y.1) (by omega) (by omega)
    refine Ok.bind1 e1 (Ok.rt ⟨⟨h1.1, h1.2.1, ?_, ?_⟩, y2⟩)
    · show f.1.natAbs < 2 ^ 195
      omega
    · show f.2.natAbs < 2 ^ 195
      omega
  · refine (digit hp (by decide) (by decide)).bind fun x hx => Ok.rt ⟨⟨Int.one_pos, ?_, ?_, ?_⟩, hx.2.2⟩
    · show Int.gcd (x.1 - 3) 1 = 1
      simp [Int.gcd]
    · show (x.1 - 3).natAbs < 2 ^ 195
      have := hx.1
      have := hx.2.1
      omega
    · show (1 : Int).natAbs < 2 ^ 195
      omega
  · refine (digit hp (by decide) (by decide)).bind fun x hx => ?_
    obtain ⟨x0, x1, x2⟩ := hx
    have hw : ∃ w, atI [((10 : Int) ^ (Int.toNat (3 : Int))), ((10 : Int) ^ (Int.toNat (12 : Int))), ((10 : Int) ^ (Int.toNat (57 : Int)))] x.1 = some w ∧ 0 < w ∧ w ≤ 1000000000000000000000000000000000000000000000000000000000 := by
      have : x.1 = 0 ∨ x.1 = 1 ∨ x.1 = 2 := by omega
      rcases this with e | e | e <;> rw [e]
      · exact ⟨_, rfl, by decide +kernel, by decide +kernel⟩
      · exact ⟨_, rfl, by decide +kernel, by decide +kernel⟩
      · exact ⟨_, rfl, by decide +kernel, by decide +kernel⟩
    obtain ⟨w, e, w0, w1⟩ := hw
    refine Ok.somB e ((digit x2 (by omega) (by omega)).bind fun y hy => (digit hy.2.2 w0 (by omega)).bind fun z hz => ?_)
    obtain ⟨y0, y1, _⟩ := hy
    obtain ⟨z0, z1, z2⟩ := hz
    obtain ⟨f, e1, h1, h2, h3⟩ := low_ok (y.1 - w) (1 + z.1) (by omega) (by omega)
    refine Ok.bind1 e1 (Ok.rt ⟨⟨h1.1, h1.2.1, ?_, ?_⟩, z2⟩)
    · show f.1.natAbs < 2 ^ 195
      omega
    · show f.2.natAbs < 2 ^ 195
      omega
theorem cd_number {i : Nat} {D : Int} {f : Fq} (g : Gc i D) (h : 0 < f.2 ∧ Int.gcd f.1 f.2 = 1 ∧ f.1.natAbs < 2 ^ 195 ∧ f.2.natAbs < 2 ^ 195) : Cd i 200 D f :=
  ⟨f.2, f.1 * D, h.1, pw _ _ (by decide) h.2.2.2, ⟨h.1, h.2.1, by rw [Int.mul_assoc]⟩, pw _ _ (by omega) (mul_lt2 h.2.2.1 g.db)⟩
/-- the parts by which one goes on -/
def parts4 : List Fq := [((1 : Int), (2 : Int)), ((2 : Int), (1 : Int)), ((-(1 : Int)), (1 : Int)), ((1 : Int), (3 : Int))]
theorem part_wv {p : Fq} (h : p ∈ parts4) : ∃ c : Int, Wv 6 p c ∧ c.natAbs < 2 ^ 4 := by
  have b0 : (100 : Nat) < 2 ^ 3990 := by decide +kernel
  have b1 : (100 : Nat) < 2 ^ 20000 := by decide +kernel
  simp only [parts4, List.mem_cons, List.not_mem_nil, or_false] at h
  rcases h with rfl | rfl | rfl | rfl
  · exact ⟨3, ⟨by decide, by decide, by show (1 : Int).natAbs < _; omega, by show (2 : Int).natAbs < _; omega⟩, by decide⟩
  · exact ⟨12, ⟨by decide, by decide, by show (2 : Int).natAbs < _; omega, by show (1 : Int).natAbs < _; omega⟩, by decide⟩
  · exact ⟨-6, ⟨by decide, by decide, by show (-1 : Int).natAbs < _; omega, by show (1 : Int).natAbs < _; omega⟩, by decide⟩
  · exact ⟨2, ⟨by decide, by decide, by show (1 : Int).natAbs < _; omega, by show (3 : Int).natAbs < _; omega⟩, by decide⟩
theorem between_ok {i : Nat} {D : Int} {f g p : Fq} (hi : i ≤ 8) (k : Gc i D) (hf : Gv i D f) (hg : Gv i D g) (hp : p ∈ parts4) : Ok (m_law_between (f, g, p)) fun r => Cd i 200 D r := by
  obtain ⟨a, va, ba⟩ := hf
  obtain ⟨b, vb, bb⟩ := hg
  obtain ⟨c, wc, bc⟩ := part_wv hp
  have k0 := k.d0
  have db : D.natAbs < 2 ^ (220 * i + 1 + 220) := pw _ _ (by omega) k.db
  have sa : Sz D a := sz_of hi k0 db ba (by omega)
  have sb : Sz D b := sz_of hi k0 db bb (by omega)
  obtain ⟨r1, _, e1, v1⟩ := lessW (vb.wv sb) (va.wv sa)
  have b1 := sub_lt2 bb ba
  have s1 : Sz D (b - a) := sz_of hi k0 db b1 (by omega)
  obtain ⟨r2, _, e2, v2⟩ := timesW wc (v1.wv s1)
  have b2 := mul_lt2 bc b1
  have d6 : (6 * D).natAbs < 2 ^ (220 * i + 1 + 220) := pw (3 + (220 * i + 1)) _ (by omega) (mul_lt2 (show (6 : Int).natAbs < 2 ^ 3 by decide) k.db)
  have s2 : Sz (6 * D) (c * (b - a)) := sz_of hi (by omega) d6 b2 (by omega)
  have w3 := (va.wv sa).scale 6
  rw [Int.mul_comm D 6] at w3
  obtain ⟨r3, _, e3, v3⟩ := plusW w3 (v2.wv s2)
  refine ⟨r3, ?_, 6, a * 6 + c * (b - a), by decide, pw 3 200 (by decide) (by decide), by rw [Int.mul_comm D 6]; exact v3, ?_⟩
  · unfold m_law_between mb_law_between
    simp only [e1, e2, e3, bind_okN, fin0_rt]
  · refine pw (220 * i + 440 + 6 + 1) _ (by omega) (add_lt2 (pw (220 * i + 440 + 3) _ (by omega) (mul_lt2 ba (show (6 : Int).natAbs < 2 ^ 3 by decide))) (pw _ _ (by omega) b2))
theorem cd_plus {i : Nat} {D n d : Int} {f : Fq} (hi : i ≤ 8) (k : Gc i D) (hf : Cd i 200 D f) (n0 : 0 ≤ n) (n1 : n < 32) (d0 : 0 < d) (d1 : d < 32) : Ok (m_law_plus (f, (n, d))) fun r => Cd i 210 D r := by
  have b0 : (100 : Nat) < 2 ^ 3990 := by decide +kernel
  have b1 : (100 : Nat) < 2 ^ 20000 := by decide +kernel
  obtain ⟨e, a, e0, be, va, ba⟩ := hf
  have db := mul_lt2 k.db be
  have s : Sz (D * e) a := ⟨Int.mul_pos k.d0 e0, pw _ _ (by omega) db, pw _ _ (by omega) ba⟩
  have w1 := (va.wv s).scale d
  have w2 : Wv (D * e * d) (n, d) (n * (D * e)) := ⟨d0, by show n * (D * e * d) = n * (D * e) * d; ac_rfl, by show n.natAbs < _; omega, by show d.natAbs < _; omega⟩
  obtain ⟨r, _, e3, v3⟩ := plusW w1 w2
  refine ⟨r, e3, e * d, a * d + n * (D * e), Int.mul_pos e0 d0, pw (200 + 5) _ (by decide) (mul_lt2 be (show d.natAbs < 2 ^ 5 by omega)), by rw [← Int.mul_assoc]; exact v3, ?_⟩
  exact pw (220 * i + 440 + 206 + 1) _ (by omega) (add_lt2 (pw (220 * i + 440 + 200 + 5) _ (by omega) (mul_lt2 ba (show d.natAbs < 2 ^ 5 by omega))) (pw (5 + (220 * i + 1 + 200)) _ (by omega) (mul_lt2 (show n.natAbs < 2 ^ 5 by omega) db)))
theorem gc_add {i : Nat} {D e : Int} (k : Gc i D) (e0 : 0 < e) (be : e.natAbs < 2 ^ 210) : Gc (i + 1) (D * e) := ⟨Int.mul_pos k.d0 e0, pw _ _ (by omega) (mul_lt2 k.db be)⟩
theorem gv_old {i : Nat} {D e : Int} {f : Fq} (h : Gv i D f) (be : e.natAbs < 2 ^ 210) : Gv (i + 1) (D * e) f := by
  obtain ⟨a, v, b⟩ := h
  exact ⟨a * e, v.scale e, pw _ _ (by omega) (mul_lt2 b be)⟩
/-- a drawing over two common denominators -/
structure Grid (i : Nat) (D E : Int) (dr : List Pq) : Prop where
  gx : Gc i D
  gy : Gc i E
  all : ∀ p ∈ dr, Gv i D p.1 ∧ Gv i E p.2
theorem Grid.add {i : Nat} {D E : Int} {dr : List Pq} {p : Pq} (g : Grid i D E dr) (hx : Cd i 210 D p.1) (hy : Cd i 210 E p.2) : ∃ D' E', Grid (i + 1) D' E' (dr ++ [p]) := by
  obtain ⟨e, a, e0, be, va, ba⟩ := hx
  obtain ⟨f, b, f0, bf, vb, bb⟩ := hy
  refine ⟨D * e, E * f, gc_add g.gx e0 be, gc_add g.gy f0 bf, fun q m => ?_⟩
  rcases List.mem_append.mp m with m | m
  · exact ⟨gv_old (g.all q m).1 be, gv_old (g.all q m).2 bf⟩
  · rw [List.mem_singleton.mp m]
    exact ⟨⟨a, va, pw _ _ (by omega) ba⟩, b, vb, pw _ _ (by omega) bb⟩
theorem point_ok {l : List Int} (hp : Pot l) {i : Nat} {D E : Int} {dr : List Pq} {mode : Int} (hi : i ≤ 8) (m0 : 0 ≤ mode) (m1 : mode < 3) (g : Grid i D E dr) (hl : dr.length ≤ 1000) :
    Ok (m_law_point (l, dr, mode)) fun r => (Cd i 200 D r.1.1 ∧ Cd i 200 E r.1.2) ∧ Pot r.2 := by
  unfold m_law_point mb_law_point
  simp only [DL.bind_assoc, bind_okN, lt_eqN]
  refine Ok.f0 (Ok.bF (Pn := fun s => Pot s) ?_ fun s hs => ?_)
  · refine Ok.bind (P := fun b => Pot b.2 ∧ (b.1 = true → 1 < dr.length)) (Ok.ite (fun _ => Ok.ite (fun h => ?_) fun _ => Ok.ret ⟨hp, fun z => by cases z⟩) fun _ => Ok.ret ⟨hp, fun z => by cases z⟩) fun b hb => Ok.ite (fun z => ?_) fun _ => Ok.nx hb.1
    · have h : ((dr.length : Nat) : Int) > 1 := of_decide_eq_true h
      exact (digit hp (by decide) (by decide)).bind fun y hy => Ok.ret ⟨hy.2.2, fun _ => by omega⟩
    · have few := hb.2 z
      have dl : (0 : Int) < ((dr.length : Nat) : Int) := by omega
      have dl2 : ((dr.length : Nat) : Int) < 2 ^ 8000 := small8000 (by omega)
      refine (digit hb.1 dl dl2).bind fun y hy => ?_
      obtain ⟨p, e1, _, p3⟩ := atI_ok (l := dr) hy.1 hy.2.1
      refine Ok.somB e1 ((digit hy.2.2 dl dl2).bind fun y2 hy2 => ?_)
      obtain ⟨q, e2, _, q3⟩ := atI_ok (l := dr) hy2.1 hy2.2.1
      refine Ok.somB e2 ((digit hy2.2.2 (by decide) (by decide)).bind fun y3 hy3 => ?_)
      obtain ⟨w, e3, _, w3⟩ := atI_ok (l := parts4) hy3.1 hy3.2.1
      exact Ok.somB e3 ((between_ok hi g.gx (g.all p p3).1 (g.all q q3).1 w3).bind fun x hx => (between_ok hi g.gy (g.all p p3).2 (g.all q q3).2 w3).bind fun y hy => Ok.rt ⟨⟨hx, hy⟩, hy3.2.2⟩)
  · exact (number_ok hs m0 m1).bind fun x hx => (number_ok hx.2 m0 m1).bind fun y hy => Ok.rt ⟨⟨cd_number g.gx hx.1, cd_number g.gy hy.1⟩, hy.2⟩
theorem points_ok {l : List Int} (hp : Pot l) {many : Int} (n0 : 0 ≤ many) (n1 : many ≤ 8) : Ok (m_law_points (l, many)) fun r => (r.1.length = many.toNat ∧ ∃ D E, Grid many.toNat D E r.1) ∧ Pot r.2 := by
  unfold m_law_points mb_law_points
  simp only [DL.bind_assoc, bind_okN, lt_eqN]
  refine Ok.f0 ((digit hp (by decide) (by decide)).bind fun md hm => ?_)
  obtain ⟨m0, m1, hp⟩ := hm
  refine Ok.bF (Pn := fun s : List Int × List Pq => Pot s.1 ∧ s.2.length = many.toNat ∧ ∃ D E, Grid many.toNat D E s.2) (Ok.grdB (rng_ok n0 (by omega)) (Ok.forR (fun i (s : List Int × List Pq) => Pot s.1 ∧ s.2.length = i ∧ ∃ D E, Grid i D E s.2) ?_ ?_ ?_)) fun s hs => Ok.rt ⟨hs.2, hs.1⟩
  · exact ⟨hp, rfl, 1, 1, ⟨by decide, by decide⟩, ⟨by decide, by decide⟩, fun _ m => nomatch m⟩
  · rintro i x ⟨l1, dr⟩ e ⟨h1, h2, D, E, h3⟩
    have h1 : Pot l1 := h1
    have h2 : dr.length = i := h2
    have h3 : Grid i D E dr := h3
    obtain ⟨ex, ex2⟩ := rng_get e
    have i8 : i ≤ 8 := by omega
    refine (point_ok h1 i8 m0 m1 h3 (by omega)).bind fun p hp => ?_
    refine Ok.bF (Pn := fun s : List Int × Pq => Pot s.1 ∧ Cd i 210 D s.2.1 ∧ Cd i 210 E s.2.2) ?_ fun s hs => ?_
    · refine Ok.bind (P := fun b : Bool × List Int => Pot b.2) (Ok.ite (fun _ => (digit hp.2 (by decide) (by decide)).bind fun y hy => Ok.ret hy.2.2) fun _ => Ok.ret hp.2) fun b hb => Ok.ite (fun _ => ?_) fun _ => Ok.nx ⟨hb, hp.1.1.up (by decide), hp.1.2.up (by decide)⟩
      exact (cd_plus i8 h3.gx hp.1.1 (by omega) (by omega) (by omega) (by omega)).bind fun u hu => (cd_plus i8 h3.gy hp.1.2 (by omega) (by omega) (by omega) (by omega)).bind fun v hv => Ok.nx ⟨hb, hu, hv⟩
    · refine Ok.grdB (small1000 (show dr.length ≤ 1000 by omega)) (Ok.nx ⟨hs.1, by simp [h2], h3.add hs.2.1 hs.2.2⟩)
  · rintro s ⟨h1, h2, h3⟩
    rw [rng_len, Int.sub_zero] at h2 h3
    exact ⟨h1, h2, h3⟩

--#split
theorem cut_from {α : Type} (xs : List α) (j : Nat) : cut xs (some (j : Int)) none = xs.drop j := by
  unfold cut
  rw [HT.sIx_nat, HT.sIx_none]
  by_cases h : j ≤ xs.length
  · rw [Nat.min_eq_left h, List.take_of_length_le (by rw [List.length_drop]; omega)]
  · rw [Nat.min_eq_right (by omega), List.drop_of_length_le (Nat.le_refl _), List.take_nil, List.drop_of_length_le (by omega)]
theorem cut_to {α : Type} (xs : List α) (j : Nat) : cut xs none (some (j : Int)) = xs.take j := by
  unfold cut
  rw [HT.sIx_nat, HT.sIx_none, List.drop_zero, Nat.sub_zero]
  by_cases h : j ≤ xs.length
  · rw [Nat.min_eq_left h]
  · rw [Nat.min_eq_right (by omega), List.take_of_length_le (Nat.le_refl _), List.take_of_length_le (by omega)]

/-! ### areas in whole numbers -/
def cr (X Y : Int → Int) (p q : Int) : Int := X p * Y q - Y p * X q
def ch (X Y : Int → Int) : List Int → Int
  | [] => 0
  | [_] => 0
  | a :: b :: l => cr X Y a b + ch X Y (b :: l)
def ar (X Y : Int → Int) : List Int → Int
  | [] => 0
  | h :: t => ch X Y (h :: (t ++ [h]))
section
variable {X Y : Int → Int}
theorem cr_self (a : Int) : cr X Y a a = 0 := by unfold cr; rw [Int.mul_comm]; exact Int.sub_self _
theorem cr_anti (a b : Int) : cr X Y b a = -cr X Y a b := by unfold cr; rw [Int.neg_sub, Int.mul_comm (X b), Int.mul_comm (Y b)]
theorem ch_app : ∀ (u : List Int) (k : Int) (v : List Int), ch X Y (u ++ k :: v) = ch X Y (u ++ [k]) + ch X Y (k :: v)
  | [], k, v => by
    rw [List.nil_append, List.nil_append, ch, Int.zero_add]
  | [a], k, v => by
    show ch X Y (a :: k :: v) = ch X Y [a, k] + _
    rw [ch, ch, ch, Int.add_zero]
  | a :: b :: u, k, v => by
    show ch X Y (a :: b :: (u ++ k :: v)) = ch X Y (a :: b :: (u ++ [k])) + _
    have := ch_app (b :: u) k v
    rw [List.cons_append, List.cons_append] at this
    rw [ch, ch, this, Int.add_assoc]
theorem ch_snoc (u : List Int) (a b : Int) : ch X Y (u ++ [a, b]) = ch X Y (u ++ [a]) + cr X Y a b := by
  rw [ch_app u a [b], ch, ch, Int.add_zero]
theorem ch_rev : ∀ l : List Int, ch X Y l.reverse = -ch X Y l
  | [] => rfl
  | [_] => rfl
  | a :: b :: l => by
    have e : (a :: b :: l).reverse = l.reverse ++ [b, a] := by simp
    rw [e, ch_snoc, ch, cr_anti a b, Int.neg_add, ← ch_rev (b :: l), List.reverse_cons, Int.add_comm]
theorem ar_rot : ∀ (u v : List Int), ar X Y (u ++ v) = ar X Y (v ++ u)
  | [], v => by rw [List.nil_append, List.append_nil]
  | h :: u, [] => by rw [List.nil_append, List.append_nil]
  | h :: u, k :: v => by
    show ch X Y (h :: (u ++ k :: v ++ [h])) = ch X Y (k :: (v ++ h :: u ++ [k]))
    have e1 : h :: (u ++ k :: v ++ [h]) = (h :: u) ++ k :: (v ++ [h]) := by simp
    have e2 : k :: (v ++ h :: u ++ [k]) = (k :: v) ++ h :: (u ++ [k]) := by simp
    rw [e1, e2, ch_app (h :: u) k (v ++ [h]), ch_app (k :: v) h (u ++ [k]), Int.add_comm]
    rfl
theorem ar_rev : ∀ l : List Int, ar X Y l.reverse = -ar X Y l
  | [] => rfl
  | h :: t => by
    rw [List.reverse_cons, ar_rot, ar]
    show ch X Y (h :: (t.reverse ++ [h])) = _
    have e : h :: (t.reverse ++ [h]) = (h :: (t ++ [h])).reverse := by simp
    rw [e, ch_rev]
theorem ar_split {h k : Int} (u v : List Int) : ar X Y ((h :: u) ++ [k]) + ar X Y (h :: k :: v) = ar X Y ((h :: u) ++ k :: v) := by
  show ch X Y (h :: (u ++ [k] ++ [h])) + ch X Y (h :: (k :: v ++ [h])) = ch X Y (h :: (u ++ k :: v ++ [h]))
  have e1 : h :: (u ++ [k] ++ [h]) = (h :: u) ++ [k, h] := by simp
  have e2 : h :: (u ++ k :: v ++ [h]) = (h :: u) ++ k :: (v ++ [h]) := by simp
  have e3 : ch X Y (h :: (k :: v ++ [h])) = cr X Y h k + ch X Y (k :: (v ++ [h])) := by
    show ch X Y (h :: k :: (v ++ [h])) = _
    rw [ch]
  rw [e1, e2, e3, ch_snoc, ch_app (h :: u) k (v ++ [h]), cr_anti h k]
  omega
theorem ar_dup {h : Int} (t : List Int) : ar X Y (h :: h :: t) = ar X Y (h :: t) := by
  show ch X Y (h :: h :: (t ++ [h])) = _
  rw [ch, cr_self, Int.zero_add]
  rfl
theorem ar_one (h : Int) : ar X Y [h] = 0 := by
  show ch X Y [h, h] = 0
  rw [ch, cr_self, ch, Int.add_zero]
theorem ar_parts {l : List Int} (hl : 2 ≤ l.length) {k : Nat} (hk : k ≤ l.length) : ar X Y (l.take (k + 1)) + ar X Y (l.take 1 ++ l.drop k) = ar X Y l := by
  cases l with
  | nil => simp at hl
  | cons h t =>
    rw [List.take_succ_cons, List.take_succ_cons, List.take_zero]
    cases k with
    | zero =>
      rw [List.take_zero, List.drop_zero, ar_one, Int.zero_add]
      exact ar_dup t
    | succ k =>
      rw [List.drop_succ_cons]
      have hk : k ≤ t.length := by simpa using hk
      by_cases e : k = t.length
      · subst e
        rw [List.take_of_length_le (by omega), List.drop_length, List.append_nil, ar_one, Int.add_zero]
      · have lt : k < t.length := by omega
        have e1 : t.take (k + 1) = t.take k ++ [t[k]] := List.take_succ_eq_append_getElem lt
        have e2 : t.drop k = t[k] :: t.drop (k + 1) := List.drop_eq_getElem_cons lt
        have e3 : h :: t = (h :: t.take k) ++ t[k] :: t.drop (k + 1) := by
          rw [List.cons_append, ← e2, List.take_append_drop]
        rw [e1, e2]
        have := ar_split (X := X) (Y := Y) (h := h) (k := t[k]) (t.take k) (t.drop (k + 1))
        rw [← e3] at this
        exact this
/-- the fan of a place -/
theorem ch_fan (o : Int) : ∀ (m : List Int) (a : Int), ch (fun p => X p - X o) (fun p => Y p - Y o) (a :: m) = ch X Y (a :: (m ++ [o])) + cr X Y o a
  | [], a => by
    show ch _ _ [a] = ch X Y [a, o] + _
    rw [ch, ch, ch, cr_anti a o, Int.add_zero]
    rw [cr_anti o a]
    omega
  | b :: m, a => by
    show ch _ _ (a :: b :: m) = ch X Y (a :: b :: (m ++ [o])) + _
    rw [ch, ch, ch_fan o m b]
    unfold cr
    grind
theorem ar_fan (o : Int) (t : List Int) : ch (fun p => X p - X o) (fun p => Y p - Y o) t = ar X Y (o :: t) := by
  cases t with
  | nil => exact (ar_one o).symm
  | cons a m =>
    show _ = ch X Y (o :: a :: (m ++ [o]))
    rw [ch_fan, ch, Int.add_comm]
theorem ch_le {K : Nat} : ∀ {l : List Int}, (∀ a ∈ l, ∀ b ∈ l, (cr X Y a b).natAbs ≤ K) → (ch X Y l).natAbs ≤ l.length * K
  | [], _ => by rw [ch]; exact Nat.zero_le _
  | [_], _ => by rw [ch]; exact Nat.zero_le _
  | a :: b :: l, h => by
    have h1 := h a List.mem_cons_self b (List.mem_cons_of_mem _ List.mem_cons_self)
    have h2 := ch_le (l := b :: l) fun x hx y hy => h x (List.mem_cons_of_mem _ hx) y (List.mem_cons_of_mem _ hy)
    rw [ch, List.length_cons, Nat.succ_mul]
    exact Nat.le_trans (Int.natAbs_add_le _ _) (by omega)
theorem ch_take {l : List Int} {i : Nat} {a b : Int} (ha : l[i]? = some a) (hb : l[i + 1]? = some b) : ch X Y (l.take (i + 2)) = ch X Y (l.take (i + 1)) + cr X Y a b := by
  have e1 : l.take (i + 1) = l.take i ++ [a] := by rw [List.take_add_one, ha]; rfl
  have e2 : l.take (i + 2) = l.take i ++ [a, b] := by rw [List.take_add_one, hb, e1]; simp
  rw [e1, e2, ch_snoc]
end

/-! ### bends in whole numbers -/
def HH0 (X Y : Int → Int) (p q r : Int) : Int := (X q - X p) * (Y r - Y p) - (Y q - Y p) * (X r - X p)
section
variable {X Y : Int → Int}
theorem HH0_cyc (p q r : Int) : HH0 X Y q r p = HH0 X Y p q r := by
  unfold HH0
  grind
theorem HH0_sw (p q r : Int) : HH0 X Y q p r = -HH0 X Y p q r := by
  unfold HH0
  grind
theorem HH0_gp (o a j k m : Int) : HH0 X Y o a k * HH0 X Y o j m = HH0 X Y o a j * HH0 X Y o k m + HH0 X Y o a m * HH0 X Y o j k := by
  unfold HH0
  grind
/-- row's element -/
def el (row : List Int) (i : Nat) : Int := row.getD i 0
/-- all turns of the row lead left -/
def Bow (X Y : Int → Int) (row : List Int) : Prop := ∀ i j k : Nat, i < j → j < k → k < row.length → 0 < HH0 X Y (el row i) (el row j) (el row k)
/-- from each place to the next one all others lie left -/
def Ben (X Y : Int → Int) (row : List Int) : Prop := ∀ k r : Nat, k < row.length → r < row.length → r ≠ k → r ≠ (k + 1) % row.length → 0 < HH0 X Y (el row k) (el row ((k + 1) % row.length)) (el row r)
theorem bow_ben {row : List Int} (h : Bow X Y row) : Ben X Y row := by
  intro k r hk hr h1 h2
  by_cases hl : k + 1 < row.length
  · rw [Nat.mod_eq_of_lt hl] at h2 ⊢
    by_cases e : k < r
    · exact h k (k + 1) r (by omega) (by omega) hr
    · rw [← HH0_cyc, ← HH0_cyc]
      exact h r k (k + 1) (by omega) (by omega) hl
  · have : k + 1 = row.length := by omega
    rw [this, Nat.mod_self] at h2 ⊢
    rw [← HH0_cyc]
    exact h 0 r k (by omega) (by omega) hk
theorem pos_of {a b : Int} (ha : 0 < a) (h : 0 < a * b) : 0 < b := Int.pos_of_mul_pos_left (by rw [Int.mul_comm]; exact h) ha
theorem ben_bow {row : List Int} (h : Ben X Y row) : Bow X Y row := by
  intro i j k hij hjk hk
  -- consecutive ones
  have cons : ∀ x y, x + 1 < row.length → y < row.length → y ≠ x → y ≠ x + 1 → 0 < HH0 X Y (el row x) (el row (x + 1)) (el row y) := fun x y hx hy h1 h2 => by
    have := h x y (by omega) hy h1 (by rw [Nat.mod_eq_of_lt hx]; exact h2)
    rwa [Nat.mod_eq_of_lt hx] at this
  have c1 : ∀ x, i + 1 < x → x < row.length → 0 < HH0 X Y (el row i) (el row (i + 1)) (el row x) := fun x h1 h2 => cons i x (by omega) h2 (by omega) (by omega)
  have c2 : ∀ x, i < x → x + 1 < row.length → 0 < HH0 X Y (el row i) (el row x) (el row (x + 1)) := fun x h1 h2 => by
    rw [← HH0_cyc]
    exact cons x i h2 (by omega) (by omega) (by omega)
  by_cases e : j = i + 1
  · subst e
    exact c1 k hjk hk
  · have go : ∀ m, j + 1 + m < row.length → 0 < HH0 X Y (el row i) (el row j) (el row (j + 1 + m)) := by
      intro m
      induction m with
      | zero => intro hm; exact c2 j hij hm
      | succ m ih =>
        intro hm
        have g := HH0_gp (X := X) (Y := Y) (el row i) (el row (i + 1)) (el row j) (el row (j + 1 + m)) (el row (j + 1 + (m + 1)))
        have p1 := c1 j (by omega) (by omega)
        have p2 := c2 (j + 1 + m) (by omega) hm
        have p3 := c1 (j + 1 + (m + 1)) (by omega) hm
        have p4 := ih (by omega)
        have p5 := c1 (j + 1 + m) (by omega) (by omega)
        refine pos_of p5 ?_
        rw [g]
        have q1 := Int.mul_pos p1 p2
        have q2 := Int.mul_pos p3 p4
        exact Int.add_pos q1 q2
    have := go (k - (j + 1)) (by omega)
    rwa [show j + 1 + (k - (j + 1)) = k by omega] at this
/-- not both ways -/
theorem ben_rev {row : List Int} (h : Ben X Y row) (hl : 3 ≤ row.length) : ¬ Ben X Y row.reverse := by
  intro h'
  have len : row.reverse.length = row.length := List.length_reverse
  have er : ∀ i, i < row.length → el row.reverse i = el row (row.length - 1 - i) := fun i hi => by
    unfold el
    rw [List.getD_eq_getElem?_getD, List.getD_eq_getElem?_getD, List.getElem?_reverse hi]
  have a := h' 0 2 (by omega) (by omega) (by omega) (by rw [len, Nat.mod_eq_of_lt (by omega)]; omega)
  rw [len, Nat.mod_eq_of_lt (by omega), er 0 (by omega), er (0 + 1) (by omega), er 2 (by omega)] at a
  have b := h (row.length - 1 - 1) (row.length - 1 - 2) (by omega) (by omega) (by omega) (by rw [show row.length - 1 - 1 + 1 = row.length - 1 by omega, Nat.mod_eq_of_lt (by omega)]; omega)
  rw [show row.length - 1 - 1 + 1 = row.length - 1 by omega, Nat.mod_eq_of_lt (by omega)] at b
  have := HH0_sw (X := X) (Y := Y) (el row (row.length - 1)) (el row (row.length - 1 - 1)) (el row (row.length - 1 - 2))
  rw [Nat.sub_zero] at a
  rw [show 0 + 1 = 1 from rfl] at a
  omega
end

--#split
/-! ### a figure: points over two common denominators -/
def pq (dr : List Pq) (p : Int) : Pq := dr.getD p.toNat ((0, 1), (0, 1))
theorem pq_at {dr : List Pq} {p : Int} (h0 : 0 ≤ p) (h : p < dr.length) : atI dr p = some (pq dr p) ∧ pq dr p ∈ dr := by
  have hk : p.toNat < dr.length := by omega
  unfold pq
  rw [List.getD_eq_getElem?_getD, List.getElem?_eq_getElem hk]
  exact ⟨atI_nat h0 (List.getElem?_eq_getElem hk), List.getElem_mem hk⟩
structure Fig (dr : List Pq) (D E : Int) (X Y : Int → Int) : Prop where
  d0 : 0 < D
  db : D.natAbs < 2 ^ 1990
  e0 : 0 < E
  eb : E.natAbs < 2 ^ 1990
  len : dr.length ≤ 1000
  vx : ∀ p : Int, 0 ≤ p → p < dr.length → Vl D (pq dr p).1 (X p) ∧ (X p).natAbs < 2 ^ 2700
  vy : ∀ p : Int, 0 ≤ p → p < dr.length → Vl E (pq dr p).2 (Y p) ∧ (Y p).natAbs < 2 ^ 2700
open Classical in
noncomputable def worth (D : Int) (f : Fq) : Int := if h : ∃ a : Int, Vl D f a ∧ a.natAbs < 2 ^ 2700 then h.choose else 0
theorem worth_ok {D : Int} {f : Fq} (h : ∃ a : Int, Vl D f a ∧ a.natAbs < 2 ^ 2700) : Vl D f (worth D f) ∧ (worth D f).natAbs < 2 ^ 2700 := by
  unfold worth
  rw [dif_pos h]
  exact h.choose_spec
theorem Grid.fig {i : Nat} {D E : Int} {dr : List Pq} (hi : i ≤ 8) (hl : dr.length ≤ 1000) (g : Grid i D E dr) : Fig dr D E (fun p => worth D (pq dr p).1) fun p => worth E (pq dr p).2 := by
  have up : ∀ {D : Int} {f : Fq}, Gv i D f → ∃ a : Int, Vl D f a ∧ a.natAbs < 2 ^ 2700 := fun ⟨a, v, b⟩ => ⟨a, v, pw _ _ (by omega) b⟩
  exact ⟨g.gx.d0, pw _ _ (by omega) g.gx.db, g.gy.d0, pw _ _ (by omega) g.gy.db, hl, fun p p0 p1 => worth_ok (up (g.all _ (pq_at p0 p1).2).1), fun p p0 p1 => worth_ok (up (g.all _ (pq_at p0 p1).2).2)⟩
/-- the sign -/
def sgI (n : Int) : Int := (if n > 0 then 1 else 0) - (if n < 0 then 1 else 0)
theorem sgI_eq {N P H Q : Int} (hP : 0 < P) (hQ : 0 < Q) (h : N * P = H * Q) : sgI N = sgI H := by
  have pos : ∀ {a b : Int}, 0 < b → (0 < a * b ↔ 0 < a) := fun {a b} hb => ⟨fun k => Int.not_le.mp fun z => by
    have := Int.mul_nonpos_of_nonpos_of_nonneg z (Int.le_of_lt hb)
    omega, fun k => Int.mul_pos k hb⟩
  have neg : ∀ {a b : Int}, 0 < b → (a * b < 0 ↔ a < 0) := fun {a b} hb => by
    have := pos (a := -a) hb
    rw [Int.neg_mul] at this
    omega
  have p1 := pos (a := N) hP
  have p2 := pos (a := H) hQ
  have n1 := neg (a := N) hP
  have n2 := neg (a := H) hQ
  rw [h] at p1 n1
  unfold sgI
  have e1 : (N > 0) = (H > 0) := propext (p1.symm.trans p2)
  have e2 : (N < 0) = (H < 0) := propext (n1.symm.trans n2)
  simp only [e1, e2]
theorem sgI_pos {n : Int} : 0 < sgI n ↔ 0 < n := by
  unfold sgI
  split <;> split <;> omega
section
variable {dr : List Pq} {D E : Int} {X Y : Int → Int}
theorem Fig.szx (g : Fig dr D E X Y) {a : Int} (h : a.natAbs < 2 ^ 19000) : Sz D a := ⟨g.d0, pw _ _ (by decide) g.db, pw _ _ (by decide) h⟩
theorem Fig.szy (g : Fig dr D E X Y) {a : Int} (h : a.natAbs < 2 ^ 19000) : Sz E a := ⟨g.e0, pw _ _ (by decide) g.eb, pw _ _ (by decide) h⟩
theorem Fig.szd (g : Fig dr D E X Y) {a : Int} (h : a.natAbs < 2 ^ 19000) : Sz (D * E) a := ⟨Int.mul_pos g.d0 g.e0, pw _ _ (by decide) (mul_lt2 g.db g.eb), pw _ _ (by decide) h⟩
theorem Fig.wx (g : Fig dr D E X Y) {p : Int} (h0 : 0 ≤ p) (h1 : p < dr.length) : Wv D (pq dr p).1 (X p) := (g.vx p h0 h1).1.wv (g.szx (pw _ _ (by decide) (g.vx p h0 h1).2))
theorem Fig.wy (g : Fig dr D E X Y) {p : Int} (h0 : 0 ≤ p) (h1 : p < dr.length) : Wv E (pq dr p).2 (Y p) := (g.vy p h0 h1).1.wv (g.szy (pw _ _ (by decide) (g.vy p h0 h1).2))
theorem cross_lt {a b c d : Int} (ha : a.natAbs < 2 ^ 2701) (hb : b.natAbs < 2 ^ 2701) (hc : c.natAbs < 2 ^ 2701) (hd : d.natAbs < 2 ^ 2701) : (a * b - c * d).natAbs < 2 ^ 5403 := sub_lt2 (mul_lt2 ha hb) (mul_lt2 hc hd)
theorem crossed_ok (g : Fig dr D E X Y) {p q : Int} (p0 : 0 ≤ p) (p1 : p < dr.length) (q0 : 0 ≤ q) (q1 : q < dr.length) : ∃ r, m_crossed (pq dr p, pq dr q) = .ok r ∧ Vl (D * E) r (cr X Y p q) ∧ (cr X Y p q).natAbs < 2 ^ 5403 := by
  have u : ∀ {a : Int}, a.natAbs < 2 ^ 2700 → a.natAbs < 2 ^ 2701 := fun h => pw _ _ (by decide) h
  have bx := u (g.vx p p0 p1).2
  have by_ := u (g.vy p p0 p1).2
  have cx := u (g.vx q q0 q1).2
  have cy := u (g.vy q q0 q1).2
  obtain ⟨r1, e1, _, v1⟩ := timesW (g.wx p0 p1) (g.wy q0 q1)
  obtain ⟨r2, e2, _, v2⟩ := timesW (g.wy p0 p1) (g.wx q0 q1)
  rw [Int.mul_comm E D] at v2
  have w1 := v1.wv (g.szd (pw _ _ (by decide) (mul_lt2 bx cy)))
  have w2 := v2.wv (g.szd (pw _ _ (by decide) (mul_lt2 by_ cx)))
  obtain ⟨r3, e3, _, v3⟩ := lessW w1 w2
  refine ⟨r3, ?_, v3, cross_lt bx cy by_ cx⟩
  unfold m_crossed mb_crossed
  simp only [e1, e2, e3, bind_okN, fin0_rt]
/-- the law's own piece -/
theorem piece_ok (g : Fig dr D E X Y) {o p q : Int} (o0 : 0 ≤ o) (o1 : o < dr.length) (p0 : 0 ≤ p) (p1 : p < dr.length) (q0 : 0 ≤ q) (q1 : q < dr.length) : ∃ a b c d x y z, m_law_less ((pq dr p).1, (pq dr o).1) = .ok a ∧ m_law_less ((pq dr q).2, (pq dr o).2) = .ok b ∧ m_law_times (a, b) = .ok x ∧
    m_law_less ((pq dr p).2, (pq dr o).2) = .ok c ∧ m_law_less ((pq dr q).1, (pq dr o).1) = .ok d ∧ m_law_times (c, d) = .ok y ∧ m_law_less (x, y) = .ok z ∧ Vl (D * E) z (cr (fun p => X p - X o) (fun p => Y p - Y o) p q) ∧ (cr (fun p => X p - X o) (fun p => Y p - Y o) p q).natAbs < 2 ^ 5403 := by
  obtain ⟨a, _, e1, v1⟩ := lessW (g.wx p0 p1) (g.wx o0 o1)
  obtain ⟨b, _, e2, v2⟩ := lessW (g.wy q0 q1) (g.wy o0 o1)
  obtain ⟨c, _, e3, v3⟩ := lessW (g.wy p0 p1) (g.wy o0 o1)
  obtain ⟨d, _, e4, v4⟩ := lessW (g.wx q0 q1) (g.wx o0 o1)
  have b1 := sub_lt2 (g.vx p p0 p1).2 (g.vx o o0 o1).2
  have b2 := sub_lt2 (g.vy q q0 q1).2 (g.vy o o0 o1).2
  have b3 := sub_lt2 (g.vy p p0 p1).2 (g.vy o o0 o1).2
  have b4 := sub_lt2 (g.vx q q0 q1).2 (g.vx o o0 o1).2
  obtain ⟨x, _, e5, v5⟩ := timesW (v1.wv (g.szx (pw _ _ (by decide) b1))) (v2.wv (g.szy (pw _ _ (by decide) b2)))
  obtain ⟨y, _, e6, v6⟩ := timesW (v3.wv (g.szy (pw _ _ (by decide) b3))) (v4.wv (g.szx (pw _ _ (by decide) b4)))
  rw [Int.mul_comm E D] at v6
  obtain ⟨z, _, e7, v7⟩ := lessW (v5.wv (g.szd (pw _ _ (by decide) (mul_lt2 b1 b2)))) (v6.wv (g.szd (pw _ _ (by decide) (mul_lt2 b3 b4))))
  exact ⟨a, b, c, d, x, y, z, e1, e2, e5, e3, e4, e6, e7, v7, cross_lt b1 b2 b3 b4⟩
theorem ch_lt {Z W : Int → Int} {l : List Int} (h : ∀ a ∈ l, ∀ b ∈ l, (cr Z W a b).natAbs < 2 ^ 5403) (hl : l.length ≤ 1000) : (ch Z W l).natAbs < 2 ^ 5420 := by
  have := ch_le (X := Z) (Y := W) (K := 2 ^ 5403) fun a ha b hb => Nat.le_of_lt (h a ha b hb)
  have e : (2 : Nat) ^ 5420 = 131072 * 2 ^ 5403 := by decide +kernel
  have e0 : 0 < (2 : Nat) ^ 5403 := Nat.pow_pos (by decide)
  rw [e]
  generalize (2 : Nat) ^ 5403 = w at *
  have : l.length * w ≤ 1000 * w := Nat.mul_le_mul_right _ hl
  omega
/-- a row of places of the figure -/
def Row (dr : List Pq) (row : List Int) : Prop := row.length ≤ 100 ∧ ∀ p ∈ row, 0 ≤ p ∧ p < dr.length
theorem nought_vl : Vl (D * E) ((0 : Int), (1 : Int)) 0 := ⟨by decide, by decide, by show (0 : Int) * _ = 0 * _; rw [Int.zero_mul, Int.zero_mul]⟩
theorem next_get {h : Int} {t : List Int} {i : Nat} (hi : i < (h :: t).length) : ∃ q, atI (h :: t) (Int.fmod ((i : Int) + 1) (((h :: t).length : Nat) : Int)) = some q ∧ (h :: (t ++ [h]))[i + 1]? = some q ∧ q ∈ h :: t := by
  have hl : 0 < ((h :: t).length : Int) := by simp only [List.length_cons]; omega
  rw [Int.fmod_eq_emod_of_nonneg _ (by omega)]
  have e0 : h :: (t ++ [h]) = (h :: t) ++ [h] := rfl
  by_cases k : i + 1 < (h :: t).length
  · rw [Int.emod_eq_of_lt (by omega) (by omega)]
    have e := List.getElem?_eq_getElem k
    refine ⟨(h :: t)[i + 1], atI_nat (by omega) ?_, ?_, List.getElem_mem k⟩
    · rw [show ((i : Int) + 1).toNat = i + 1 by omega]
      exact e
    · rw [e0, List.getElem?_append_left k]
      exact e
  · have e : ((i : Int) + 1) = ((h :: t).length : Int) := by omega
    rw [e, Int.emod_self]
    refine ⟨h, atI_nat (by decide) rfl, ?_, List.mem_cons_self⟩
    have : i + 1 = (h :: t).length := by omega
    rw [e0, this, List.getElem?_append_right (Nat.le_refl _), Nat.sub_self]
    rfl
theorem here_get {h : Int} {t : List Int} {i : Nat} {p : Int} (e : (h :: t)[i]? = some p) : (h :: (t ++ [h]))[i]? = some p := by
  have k := (List.getElem?_eq_some_iff.mp e).1
  show ((h :: t) ++ [h])[i]? = some p
  rw [List.getElem?_append_left k]
  exact e
theorem mem_round {h : Int} {t : List Int} {x : Int} (m : x ∈ h :: (t ++ [h])) : x ∈ h :: t := by
  rcases List.mem_cons.mp m with rfl | m
  · exact List.mem_cons_self
  · rcases List.mem_append.mp m with m | m
    · exact List.mem_cons_of_mem _ m
    · rw [List.mem_singleton.mp m]
      exact List.mem_cons_self
theorem area_ok (g : Fig dr D E X Y) {row : List Int} (hr : Row dr row) : ∃ r, m_area (dr, row) = .ok r ∧ Vl (D * E) r (ar X Y row) ∧ (ar X Y row).natAbs < 2 ^ 5420 := by
  cases row with
  | nil => exact ⟨((0 : Int), (1 : Int)), rfl, nought_vl, by show (0 : Int).natAbs < _; exact Nat.pow_pos (by decide)⟩
  | cons h t =>
    obtain ⟨hl, hr⟩ := hr
    have crb : ∀ a ∈ h :: (t ++ [h]), ∀ b ∈ h :: (t ++ [h]), (cr X Y a b).natAbs < 2 ^ 5403 := fun a ha b hb => by
      have ra := hr a (mem_round ha)
      have rb := hr b (mem_round hb)
      exact (crossed_ok g ra.1 ra.2 rb.1 rb.2).choose_spec.2.2
    have len1 : (h :: (t ++ [h])).length = (h :: t).length + 1 := by simp
    have bd : ∀ i, (ch X Y ((h :: (t ++ [h])).take i)).natAbs < 2 ^ 5420 := fun i => ch_lt (fun a ha b hb => crb a (List.mem_of_mem_take ha) b (List.mem_of_mem_take hb)) (by rw [List.length_take]; omega)
    suffices Ok (m_area (dr, h :: t)) fun r => Vl (D * E) r (ar X Y (h :: t)) by
      obtain ⟨r, e, v⟩ := this
      refine ⟨r, e, v, ?_⟩
      have := bd (h :: (t ++ [h])).length
      rw [List.take_length] at this
      exact this
    unfold m_area mb_area
    simp only [DL.bind_assoc, bind_okN, lt_eqN]
    refine Ok.f0 (Ok.bF (Pn := fun s : Fq => Vl (D * E) s (ar X Y (h :: t))) (Ok.forR (fun i (s : Fq) => Vl (D * E) s (ch X Y ((h :: (t ++ [h])).take (i + 1)))) ?_ ?_ ?_) fun s hs => Ok.rt hs)
    · show Vl (D * E) (0, 1) (ch X Y ((h :: (t ++ [h])).take 1))
      exact nought_vl
    · rintro i ⟨k, p⟩ s e v
      have v : Vl (D * E) s (ch X Y ((h :: (t ++ [h])).take (i + 1))) := v
      rw [enumL_get] at e
      obtain ⟨p', ep, e⟩ := Option.map_eq_some_iff.mp e
      have ep : (h :: t)[i]? = some p' := ep
      have ek : (i : Int) = k := congrArg Prod.fst e
      have ep2 : p' = p := congrArg Prod.snd e
      subst ek ep2
      have mp := List.mem_of_getElem? ep
      have il := (List.getElem?_eq_some_iff.mp ep).1
      obtain ⟨q, e1, e2, e3⟩ := next_get il
      have rp := hr _ mp
      have rq := hr _ e3
      obtain ⟨r, c1, c2, c3⟩ := crossed_ok g rp.1 rp.2 rq.1 rq.2
      refine Ok.somB (pq_at rp.1 rp.2).1 (Ok.grdB (by simp only [List.length_cons]; omega) (Ok.somB e1 (Ok.somB (pq_at rq.1 rq.2).1 (Ok.bind1 c1 ?_))))
      obtain ⟨r2, e5, _, v5⟩ := plusW (v.wv (g.szd (pw _ _ (by decide) (bd _)))) (c2.wv (g.szd (pw _ _ (by decide) c3)))
      refine Ok.bind1 e5 (Ok.nx ?_)
      rw [ch_take (here_get ep) e2]
      exact v5
    · intro s v
      rw [enumL_len] at v
      have v : Vl (D * E) s (ch X Y ((h :: (t ++ [h])).take ((h :: t).length + 1))) := v
      rw [← len1, List.take_length] at v
      exact v
theorem larea_ok (g : Fig dr D E X Y) {row : List Int} (hr : Row dr row) : ∃ r, m_law_area (dr, row) = .ok r ∧ Vl (D * E) r (ar X Y row) := by
  cases row with
  | nil => exact ⟨((0 : Int), (1 : Int)), rfl, nought_vl⟩
  | cons o t =>
    obtain ⟨hl, hr⟩ := hr
    have ho := hr o List.mem_cons_self
    have ht : ∀ p ∈ t, 0 ≤ p ∧ p < dr.length := fun p m => hr p (List.mem_cons_of_mem _ m)
    have crb : ∀ a ∈ t, ∀ b ∈ t, (cr (fun p => X p - X o) (fun p => Y p - Y o) a b).natAbs < 2 ^ 5403 := fun a ha b hb => by
      obtain ⟨_, _, _, _, _, _, _, _, _, _, _, _, _, _, _, h⟩ := piece_ok g ho.1 ho.2 (ht a ha).1 (ht a ha).2 (ht b hb).1 (ht b hb).2
      exact h
    have len1 : (o :: t).length = t.length + 1 := rfl
    have bd : ∀ i, (ch (fun p => X p - X o) (fun p => Y p - Y o) (t.take i)).natAbs < 2 ^ 5420 := fun i => ch_lt (fun a ha b hb => crb a (List.mem_of_mem_take ha) b (List.mem_of_mem_take hb)) (by rw [List.length_take]; omega)
    suffices Ok (m_law_area (dr, o :: t)) fun r => Vl (D * E) r (ar X Y (o :: t)) from this
    have c1 : cut (o :: t) (some (1 : Int)) none = t := cut_from (o :: t) 1
    have c2 : cut (o :: t) (some (2 : Int)) none = t.drop 1 := cut_from (o :: t) 2
    have e0 : atI (o :: t) (0 : Int) = some o := atI_nat (by decide) rfl
    unfold m_law_area mb_law_area
    simp only [DL.bind_assoc, bind_okN, lt_eqN, c1, c2]
    refine Ok.f0 (Ok.bF (Pn := fun s : Fq => Vl (D * E) s (ar X Y (o :: t))) (Ok.forR (fun i (s : Fq) => Vl (D * E) s (ch (fun p => X p - X o) (fun p => Y p - Y o) (t.take (i + 1)))) ?_ ?_ ?_) fun s hs => Ok.rt hs)
    · show Vl (D * E) (0, 1) _
      cases t with
      | nil => exact nought_vl
      | cons a t => exact nought_vl
    · rintro i ⟨p, q⟩ s e v
      have v : Vl (D * E) s (ch (fun p => X p - X o) (fun p => Y p - Y o) (t.take (i + 1))) := v
      rw [List.getElem?_zip_eq_some] at e
      obtain ⟨ep, eq⟩ := e
      have ep : t[i]? = some p := ep
      have eq : (t.drop 1)[i]? = some q := eq
      rw [List.getElem?_drop, Nat.add_comm] at eq
      have rp := ht _ (List.mem_of_getElem? ep)
      have rq := ht _ (List.mem_of_getElem? eq)
      obtain ⟨a, b, c, d, x, y, z, k1, k2, k3, k4, k5, k6, k7, k8, k9⟩ := piece_ok g ho.1 ho.2 rp.1 rp.2 rq.1 rq.2
      have a1 := (pq_at rp.1 rp.2).1
      have a2 := (pq_at rq.1 rq.2).1
      have a3 := (pq_at ho.1 ho.2).1
      simp only [a1, a2, a3, e0, some_ok, bind_okN, k1, k2, k3, k4, k5, k6, k7]
      obtain ⟨r2, _, e5, v5⟩ := plusW (v.wv (g.szd (pw _ _ (by decide) (bd _)))) (k8.wv (g.szd (pw _ _ (by decide) k9)))
      refine Ok.bind1 e5 (Ok.nx ?_)
      rw [ch_take ep eq]
      exact v5
    · intro s v
      have v : Vl (D * E) s (ch (fun p => X p - X o) (fun p => Y p - Y o) (t.take ((List.zip t (t.drop 1)).length + 1))) := v
      rw [List.take_of_length_le (by rw [List.length_zip, List.length_drop]; omega), ar_fan] at v
      exact v
end

--#split
/-! ### hands, bends -/
section
variable {dr : List Pq} {D E : Int} {X Y : Int → Int}
/-- how far, above and below -/
theorem apart_ok {f g : Fq} {F a b : Int} (hf : Wv F f a) (hg : Wv F g b) : ∃ r : Fq, m_apart (f, g) = .ok r ∧ m_law_apart (f, g) = .ok r ∧ 0 < r.2 ∧ r.1 * F = (b - a) * r.2 ∧ r.1.natAbs < 2 ^ 40001 ∧ r.2.natAbs < 2 ^ 40001 := by
  have u : ∀ {i : Int}, i.natAbs < 2 ^ 3990 → i.natAbs < 2 ^ 20000 := fun h => pw _ _ (by decide) h
  have c1 : CMulX g.1 f.2 := mulS hg.b1 hf.b2
  have c2 : CMulX f.1 g.2 := mulS hf.b1 hg.b2
  have c3 : CMulX f.2 g.2 := mulS (u hf.b2) hg.b2
  refine ⟨(g.1 * f.2 - f.1 * g.2, f.2 * g.2), ?_, ?_, Int.mul_pos hf.d0 hg.d0, ?_, sub_lt2 (mul_lt2 hg.b1 (u hf.b2)) (mul_lt2 hf.b1 (u hg.b2)), pw _ _ (by decide) (mul_lt2 (u hf.b2) (u hg.b2))⟩
  · unfold m_apart mb_apart
    simp only [guard_ok c1, guard_ok c2, guard_ok c3, op2_ok, bind_okN, fin0_rt]
  · unfold m_law_apart mb_law_apart
    simp only [guard_ok c1, guard_ok c2, guard_ok c3, op2_ok, bind_okN, fin0_rt]
  · show (g.1 * f.2 - f.1 * g.2) * F = (b - a) * (f.2 * g.2)
    calc (g.1 * f.2 - f.1 * g.2) * F = (g.1 * F) * f.2 - (f.1 * F) * g.2 := by rw [Int.sub_mul]; ac_rfl
      _ = (b * g.2) * f.2 - (a * f.2) * g.2 := by rw [hf.eq, hg.eq]
      _ = _ := by rw [Int.sub_mul]; ac_rfl
theorem sign_ok (n : Int) : m_sign_of n = .ok (sgI n) ∧ m_law_sign (n, 1) = .ok (sgI n) := by
  constructor
  · unfold m_sign_of mb_sign_of sgI
    simp only [decide_eq_true_eq, fin0_rt]
  · unfold m_law_sign mb_law_sign sgI
    simp only [decide_eq_true_eq, fin0_rt]
theorem hand_ok (g : Fig dr D E X Y) {p q r : Int} (p0 : 0 ≤ p) (p1 : p < dr.length) (q0 : 0 ≤ q) (q1 : q < dr.length) (r0 : 0 ≤ r) (r1 : r < dr.length) : m_hand (pq dr p, pq dr q, pq dr r) = .ok (sgI (HH0 X Y p q r)) ∧ m_law_hand (pq dr p, pq dr q, pq dr r) = .ok (sgI (HH0 X Y p q r)) := by
  obtain ⟨a, a1, a2, a3, a4, a5, a6⟩ := apart_ok (g.wx p0 p1) (g.wx q0 q1)
  obtain ⟨b, b1, b2, b3, b4, b5, b6⟩ := apart_ok (g.wy p0 p1) (g.wy q0 q1)
  obtain ⟨c, c1, c2, c3, c4, c5, c6⟩ := apart_ok (g.wx p0 p1) (g.wx r0 r1)
  obtain ⟨d, d1, d2, d3, d4, d5, d6⟩ := apart_ok (g.wy p0 p1) (g.wy r0 r1)
  have u : ∀ {i : Int} {k : Nat}, i.natAbs < 2 ^ k → k ≤ 200000 → i.natAbs < 2 ^ 200000 := fun h l => pw _ _ l h
  have w1 : CMulX a.1 d.1 := mulx 200000 (u a5 (by decide)) (u d5 (by decide))
  have w2 : CMulX (a.1 * d.1) b.2 := mulx 200000 (u (mul_lt2 a5 d5) (by decide)) (u b6 (by decide))
  have w3 : CMulX (a.1 * d.1 * b.2) c.2 := mulx 200000 (u (mul_lt2 (mul_lt2 a5 d5) b6) (by decide)) (u c6 (by decide))
  have w4 : CMulX b.1 c.1 := mulx 200000 (u b5 (by decide)) (u c5 (by decide))
  have w5 : CMulX (b.1 * c.1) a.2 := mulx 200000 (u (mul_lt2 b5 c5) (by decide)) (u a6 (by decide))
  have w6 : CMulX (b.1 * c.1 * a.2) d.2 := mulx 200000 (u (mul_lt2 (mul_lt2 b5 c5) a6) (by decide)) (u d6 (by decide))
  have key : sgI (a.1 * d.1 * b.2 * c.2 - b.1 * c.1 * a.2 * d.2) = sgI (HH0 X Y p q r) := by
    refine sgI_eq (P := D * E) (Q := a.2 * b.2 * (c.2 * d.2)) (Int.mul_pos g.d0 g.e0) (Int.mul_pos (Int.mul_pos a3 b3) (Int.mul_pos c3 d3)) ?_
    unfold HH0
    calc (a.1 * d.1 * b.2 * c.2 - b.1 * c.1 * a.2 * d.2) * (D * E) = (a.1 * D) * (d.1 * E) * (b.2 * c.2) - (b.1 * E) * (c.1 * D) * (a.2 * d.2) := by rw [Int.sub_mul]; ac_rfl
      _ = ((X q - X p) * a.2) * ((Y r - Y p) * d.2) * (b.2 * c.2) - ((Y q - Y p) * b.2) * ((X r - X p) * c.2) * (a.2 * d.2) := by rw [a4, d4, b4, c4]
      _ = _ := by
        generalize X q - X p = u1
        generalize Y r - Y p = u2
        generalize Y q - Y p = u3
        generalize X r - X p = u4
        rw [Int.sub_mul]
        ac_rfl
  have s := sign_ok (a.1 * d.1 * b.2 * c.2 - b.1 * c.1 * a.2 * d.2)
  rw [key] at s
  constructor
  · have e1 : m_way (pq dr p, pq dr q) = .ok (a, b) := by
      unfold m_way mb_way
      simp only [a1, b1, bind_okN, fin0_rt]
    have e2 : m_way (pq dr p, pq dr r) = .ok (c, d) := by
      unfold m_way mb_way
      simp only [c1, d1, bind_okN, fin0_rt]
    unfold m_hand mb_hand
    simp only [e1, e2, guard_ok w1, guard_ok w2, guard_ok w3, guard_ok w4, guard_ok w5, guard_ok w6, op2_ok, bind_okN, s.1, fin0_rt]
  · unfold m_law_hand mb_law_hand
    simp only [a2, b2, c2, d2, guard_ok w1, guard_ok w2, guard_ok w3, guard_ok w4, guard_ok w5, guard_ok w6, op2_ok, bind_okN, s.2, fin0_rt]
theorem el_get {row : List Int} {i : Nat} (h : i < row.length) : row[i]? = some (el row i) := by
  unfold el
  rw [List.getD_eq_getElem?_getD, List.getElem?_eq_getElem h]
  rfl
theorem el_at {row : List Int} {i : Nat} (h : i < row.length) : atI row (i : Int) = some (el row i) := atI_nat (by omega) (by rw [Int.toNat_natCast]; exact el_get h)
theorem el_mem {row : List Int} {i : Nat} (h : i < row.length) : el row i ∈ row := List.mem_of_getElem? (el_get h)
theorem el_inj {row : List Int} (nd : row.Nodup) {i j : Nat} (hi : i < row.length) (hj : j < row.length) (h : el row i = el row j) : i = j := by
  have a := el_get hi
  have b := el_get hj
  rw [h] at a
  rw [List.getElem?_eq_getElem hi] at a
  rw [List.getElem?_eq_getElem hj] at b
  have e := (Option.some.inj a).trans (Option.some.inj b).symm
  have pw := List.pairwise_iff_getElem.mp nd
  rcases Nat.lt_trichotomy i j with k | k | k
  · exact absurd e (pw i j hi hj k)
  · exact k
  · exact absurd e.symm (pw j i hj hi k)
theorem lbends_ok (g : Fig dr D E X Y) {row : List Int} (hr : Row dr row) : Ok (m_law_bends (dr, row)) fun b => (b = true ↔ Bow X Y row ∧ 2 < row.length) := by
  obtain ⟨hl, hr⟩ := hr
  unfold m_law_bends mb_law_bends
  simp only [DL.bind_assoc, bind_okN, lt_eqN]
  let Pt : Bool → Prop := fun b => (b = true ↔ Bow X Y row ∧ 2 < row.length)
  let S1 : Nat → Prop := fun n => ∀ i j k : Nat, i < j → j < k → k < n → 0 < HH0 X Y (el row i) (el row j) (el row k)
  refine Ok.f0 (Ok.bF (Pn := fun _ : Unit => S1 row.length) (Ok.grdB (rng_ok (by omega) (by omega)) (Ok.forR (fun n (_ : Unit) => S1 n) ?_ ?_ ?_)) fun _ hs => Ok.rt ?_)
  · exact fun i j k _ _ h => absurd h (Nat.not_lt_zero _)
  · rintro k x _ e h
    obtain ⟨ek, ek2⟩ := rng_get e
    have ek : x = (k : Int) := by omega
    subst ek
    have kl : k < row.length := by omega
    have h : S1 k := h
    let S2 : Nat → Prop := fun n => S1 k ∧ ∀ i j : Nat, i < j → j < n → 0 < HH0 X Y (el row i) (el row j) (el row k)
    refine Ok.bF (Pn := fun _ : Unit => S1 (k + 1)) (Ok.grdB (rng_ok (by omega) (by omega)) (Ok.forR (fun n (_ : Unit) => S2 n) ?_ ?_ ?_)) fun _ hs => Ok.nx hs
    · exact ⟨h, fun i j _ z => absurd z (Nat.not_lt_zero _)⟩
    · rintro j y _ e2 h2
      obtain ⟨ej, ej2⟩ := rng_get e2
      have ej : y = (j : Int) := by omega
      subst ej
      have h2 : S2 j := h2
      let S3 : Nat → Prop := fun n => S2 j ∧ ∀ i : Nat, i < n → 0 < HH0 X Y (el row i) (el row j) (el row k)
      refine Ok.bF (Pn := fun _ : Unit => S2 (j + 1)) (Ok.grdB (rng_ok (by omega) (by omega)) (Ok.forR (fun n (_ : Unit) => S3 n) ?_ ?_ ?_)) fun _ hs => Ok.nx hs
      · exact ⟨h2, fun i z => absurd z (Nat.not_lt_zero _)⟩
      · rintro i z _ e3 h3
        obtain ⟨ei, ei2⟩ := rng_get e3
        have ei : z = (i : Int) := by omega
        subst ei
        have h3 : S3 i := h3
        have i1 : i < row.length := by omega
        have j1 : j < row.length := by omega
        have ri := hr _ (el_mem i1)
        have rj := hr _ (el_mem j1)
        have rk := hr _ (el_mem kl)
        have hd := (hand_ok g ri.1 ri.2 rj.1 rj.2 rk.1 rk.2).2
        refine Ok.bF (Pn := fun _ : Unit => 0 < HH0 X Y (el row i) (el row j) (el row k)) ?_ fun _ hs => Ok.nx ⟨h3.1, fun i' z => ?_⟩
        · refine Ok.somB (el_at i1) (Ok.somB (pq_at ri.1 ri.2).1 (Ok.somB (el_at j1) (Ok.somB (pq_at rj.1 rj.2).1 (Ok.somB (el_at kl) (Ok.somB (pq_at rk.1 rk.2).1 (Ok.bind1 hd (Ok.ite (fun w => Ok.rt ?_) fun w => Ok.nx ?_)))))))
          · have w : sgI (HH0 X Y (el row i) (el row j) (el row k)) < 1 := of_decide_eq_true w
            refine ⟨fun z => (by cases z), fun z => absurd (sgI_pos.mpr (z.1 i j k (by omega) (by omega) kl)) (by omega)⟩
          · have w : ¬ sgI (HH0 X Y (el row i) (el row j) (el row k)) < 1 := of_decide_eq_false w
            exact sgI_pos.mp (by omega)
        · by_cases z2 : i' = i
          · rw [z2]; exact hs
          · exact h3.2 i' (by omega)
      · intro _ hs
        have hs : S3 (rng 0 (j : Int)).length := hs
        rw [rng_len] at hs
        refine ⟨hs.1.1, fun i j' a b => ?_⟩
        by_cases z2 : j' = j
        · rw [z2]; exact hs.2 i (by omega)
        · exact hs.1.2 i j' a (by omega)
    · intro _ hs
      have hs : S2 (rng 0 (k : Int)).length := hs
      rw [rng_len] at hs
      intro i j k' a b c
      by_cases z2 : k' = k
      · rw [z2]; exact hs.2 i j a (by omega)
      · exact hs.1 i j k' a b (by omega)
  · intro _ hs
    have hs : S1 (rng 0 ((row.length : Nat) : Int)).length := hs
    rw [rng_len] at hs
    simpa using hs
  · show (decide _ = true ↔ _)
    rw [decide_eq_true_eq]
    exact ⟨fun z => ⟨hs, by omega⟩, fun z => by have := z.2; omega⟩
theorem bends_ok (g : Fig dr D E X Y) {row : List Int} (hr : Row dr row) (nd : row.Nodup) : Ok (m_bends (dr, row)) fun b => (b = true ↔ Ben X Y row ∧ 3 ≤ row.length) := by
  obtain ⟨hl, hr⟩ := hr
  unfold m_bends mb_bends
  simp only [DL.bind_assoc, bind_okN, lt_eqN]
  let S1 : Nat → Prop := fun n => ∀ k r : Nat, k < n → r < row.length → r ≠ k → r ≠ (k + 1) % row.length → 0 < HH0 X Y (el row k) (el row ((k + 1) % row.length)) (el row r)
  refine Ok.f0 (Ok.bF (Pn := fun _ : Unit => S1 row.length) (Ok.forR (fun n (_ : Unit) => S1 n) ?_ ?_ ?_) fun _ hs => Ok.rt ?_)
  · exact fun k r h => absurd h (Nat.not_lt_zero _)
  · rintro k ⟨x, p⟩ _ e h
    have h : S1 k := h
    rw [enumL_get] at e
    obtain ⟨p', ep, e⟩ := Option.map_eq_some_iff.mp e
    have ep : row[k]? = some p' := ep
    have ek : (k : Int) = x := congrArg Prod.fst e
    have ep2 : p' = p := congrArg Prod.snd e
    subst ek ep2
    have kl : k < row.length := (List.getElem?_eq_some_iff.mp ep).1
    have ep : p' = el row k := by rw [el_get kl] at ep; exact (Option.some.inj ep).symm
    subst ep
    have nl : (k + 1) % row.length < row.length := Nat.mod_lt _ (by omega)
    have e1 : atI row (Int.fmod ((k : Int) + 1) ((row.length : Nat) : Int)) = some (el row ((k + 1) % row.length)) := by
      rw [Int.fmod_eq_emod_of_nonneg _ (by omega)]
      have : ((k : Int) + 1) % (row.length : Int) = (((k + 1) % row.length : Nat) : Int) := by rw [Int.natCast_emod]; rfl
      rw [this]
      exact el_at nl
    have rk := hr _ (el_mem kl)
    have rn := hr _ (el_mem nl)
    refine Ok.grdB (by omega) (Ok.somB e1 (Ok.bF (Pn := fun _ : Unit => S1 (k + 1)) ?_ fun _ hs => Ok.nx hs))
    generalize hq : (k + 1) % row.length = n1 at *
    refine Ok.grdB (line_ok (by omega)) ((Ok.compR (fun j acc (_ : Unit) => (acc.all id = true ↔ ∀ r : Nat, r < j → r ≠ k → r ≠ n1 → 0 < HH0 X Y (el row k) (el row n1) (el row r))) ?_ ?_).bind ?_)
    · exact ⟨fun _ r z => absurd z (Nat.not_lt_zero _), fun _ => rfl⟩
    · rintro j x acc _ ex hI
      have jl : j < row.length := (List.getElem?_eq_some_iff.mp ex).1
      have ex : x = el row j := by rw [el_get jl] at ex; exact (Option.some.inj ex).symm
      subst ex
      have rj := hr _ (el_mem jl)
      have me : (!hasL (el row j) [el row k, el row n1]) = true ↔ j ≠ k ∧ j ≠ n1 := by
        rw [Bool.not_eq_true', ← Bool.not_eq_true, hasL_iff]
        simp only [List.mem_cons, List.not_mem_nil, or_false, not_or]
        exact ⟨fun z => ⟨fun w => z.1 (by rw [w]), fun w => z.2 (by rw [w])⟩, fun z => ⟨fun w => z.1 (el_inj nd jl kl w), fun w => z.2 (el_inj nd jl nl w)⟩⟩
      refine Ok.compF (P := fun b => b = (!hasL (el row j) [el row k, el row n1])) (Ok.ret rfl) (fun b hb hb2 => ?_) fun b hb hb2 => ?_
      · have hb3 := me.mp (hb ▸ hb2)
        refine Ok.somB (pq_at rk.1 rk.2).1 (Ok.somB (pq_at rn.1 rn.2).1 (Ok.somB (pq_at rj.1 rj.2).1 (Ok.bind1 (hand_ok g rk.1 rk.2 rn.1 rn.2 rj.1 rj.2).1 (Ok.ret ?_))))
        show ((acc ++ [decide (sgI _ > 0)]).all id = true ↔ _)
        rw [List.all_append, Bool.and_eq_true, hI]
        have e2 : (([decide (sgI (HH0 X Y (el row k) (el row n1) (el row j)) > 0)] : List Bool).all id = true) ↔ 0 < HH0 X Y (el row k) (el row n1) (el row j) := by
          simp only [List.all_cons, List.all_nil, Bool.and_true, id, decide_eq_true_eq]
          exact sgI_pos
        rw [e2]
        exact ⟨fun z r hr1 hr2 hr3 => by
          by_cases zz : r = j
          · rw [zz]; exact z.2
          · exact z.1 r (by omega) hr2 hr3, fun z => ⟨fun r hr1 => z r (by omega), z j (by omega) hb3.1 hb3.2⟩⟩
      · have hb3 : ¬ (j ≠ k ∧ j ≠ n1) := fun z => by rw [← me, ← hb, hb2] at z; cases z
        refine hI.trans ⟨fun z r hr1 hr2 hr3 => ?_, fun z r hr1 => z r (by omega)⟩
        by_cases zz : r = j
        · exact absurd ⟨zz ▸ hr2, zz ▸ hr3⟩ hb3
        · exact z r (by omega) hr2 hr3
    · rintro ⟨bs, _⟩ hI
      have hI : (bs.all id = true ↔ ∀ r : Nat, r < row.length → r ≠ k → r ≠ n1 → 0 < HH0 X Y (el row k) (el row n1) (el row r)) := hI
      refine Ok.ite (fun z => Ok.rt ?_) fun z => Ok.nx ?_
      · have z : bs.all id = false := by simpa using z
        refine ⟨fun w => (by cases w), fun w => ?_⟩
        have : bs.all id = true := hI.mpr fun r a b c => by
          have := w.1 k r kl a b (by rw [hq]; exact c)
          rwa [hq] at this
        rw [z] at this
        cases this
      · have z : bs.all id = true := by simpa using z
        intro k' r a b c d
        by_cases zz : k' = k
        · subst zz
          rw [hq] at d ⊢
          exact hI.mp z r b c d
        · exact h k' r (by omega) b c d
  · intro _ hs
    rw [enumL_len] at hs
    exact hs
  · show (decide _ = true ↔ _)
    rw [decide_eq_true_eq]
    exact ⟨fun z => ⟨hs, by omega⟩, fun z => by have := z.2; omega⟩
end

--#split
/-! ### k45's law -/
theorem is_fr {f : Fq} (h0 : 0 < f.2) (h1 : Int.gcd f.1 f.2 = 1) (hb : f.2.natAbs < 2 ^ 8000) : m_law_is_fraction f = .ok true := by
  obtain ⟨r, e, k, _⟩ := low_ok f.1 f.2 (by omega) hb
  have : r = f := coprime_unique (a := r.1) (b := r.2) (c := f.1) (d := f.2) k.1 h0 k.2.1 h1 k.2.2
  subst this
  unfold m_law_is_fraction mb_law_is_fraction
  have d0 : decide (r.2 > 0) = true := decide_eq_true h0
  simp [isTup, isBool, isInt, bindF_nx, bind_okN, guard_ok (line_ok (show 2 ≤ 1000 by decide)), fin0_rt, eP2, e, d0, or2_ok, and2_ok]
theorem Vl.isf {D a : Int} {f : Fq} (h : Vl D f a) (hD : 0 < D) (hb : D.natAbs < 2 ^ 8000) : m_law_is_fraction f = .ok true := is_fr h.d0 h.low (by
  have := h.d_le hD
  have := h.d0
  omega)
section
variable {dr : List Pq} {D E : Int} {X Y : Int → Int}
theorem Row.sub {row row' : List Int} (h : Row dr row) (hl : row'.length ≤ 100) (hs : ∀ x ∈ row', x ∈ row) : Row dr row' := ⟨hl, fun p m => h.2 p (hs p m)⟩
theorem area_right_ok (g : Fig dr D E X Y) {row : List Int} (hr : Row dr row) (h90 : row.length ≤ 90) {l : List Int} (hp : Pot l) : Ok (m_law_area_right (l, dr, row)) fun r => r.1 = true ∧ Pot r.2 := by
  have hl := h90
  have D0 : 0 < D * E := Int.mul_pos g.d0 g.e0
  have Db : (D * E).natAbs < 2 ^ 8000 := pw _ _ (by decide) (mul_lt2 g.db g.eb)
  obtain ⟨due, e1, v1⟩ := larea_ok g hr
  obtain ⟨fd, e2, v2, _⟩ := area_ok g hr
  have := v2.uniq D0 v1
  subst this
  obtain ⟨f3, e3, v3, _⟩ := area_ok g (hr.sub (row' := row.reverse) (by rw [List.length_reverse]; omega) fun x m => List.mem_reverse.mp m)
  rw [ar_rev] at v3
  have q3 := v3.uniq D0 v1.neg
  subst q3
  unfold m_law_area_right mb_law_area_right
  refine Ok.f0 (Ok.bind1 e1 (Ok.ltI ((digit hp (show (0 : Int) < ((row.length : Nat) : Int) + 1 by omega) (small8000 (by omega))).bind fun x hx => Ok.ltI (Ok.bind1 e2 (Ok.ltI ?_)))))
  obtain ⟨at0, l1⟩ := x
  obtain ⟨a0, a1, p1⟩ := hx
  have a0 : 0 ≤ at0 := a0
  have a1 : at0 < ((row.length : Nat) : Int) + 1 := a1
  obtain ⟨k, rfl⟩ : ∃ k : Nat, at0 = k := ⟨at0.toNat, by omega⟩
  have kl : k ≤ row.length := by omega
  have c1 : cut row (some (k : Int)) none = row.drop k := cut_from row k
  have c2 : cut row none (some (k : Int)) = row.take k := cut_to row k
  have c3 : cut row none (some ((k : Int) + 1)) = row.take (k + 1) := cut_to row (k + 1)
  have c4 : cut row none (some (1 : Int)) = row.take 1 := cut_to row 1
  obtain ⟨f4, e4, v4, _⟩ := area_ok g (hr.sub (row' := row.drop k ++ row.take k) (by rw [List.length_append, List.length_drop, List.length_take]; omega) fun x m => by
    rcases List.mem_append.mp m with m | m
    · exact List.mem_of_mem_drop m
    · exact List.mem_of_mem_take m)
  rw [← ar_rot, List.take_append_drop] at v4
  have q4 := v4.uniq D0 v1
  subst q4
  obtain ⟨f5, e5, v5, b5⟩ := area_ok g (hr.sub (row' := row.take (k + 1)) (by rw [List.length_take]; omega) fun x m => List.mem_of_mem_take m)
  obtain ⟨f6, e6, v6, b6⟩ := area_ok g (hr.sub (row' := row.take 1 ++ row.drop k) (by rw [List.length_append, List.length_drop, List.length_take]; omega) fun x m => by
    rcases List.mem_append.mp m with m | m
    · exact List.mem_of_mem_take m
    · exact List.mem_of_mem_drop m)
  obtain ⟨f7, _, e7, v7⟩ := plusW (v5.wv (g.szd (pw _ _ (by decide) b5))) (v6.wv (g.szd (pw _ _ (by decide) b6)))
  have g1 : (row.drop k).length + (row.take k).length ≤ sizeLine := line_ok (by rw [List.length_drop, List.length_take]; omega)
  have g2 : (row.take 1).length + (row.drop k).length ≤ sizeLine := line_ok (by rw [List.length_drop, List.length_take]; omega)
  have isf := v1.isf D0 Db
  refine Ok.bF (Pn := fun _ => True) ?_ fun _ _ => Ok.bF (Pn := fun _ => True) ?_ fun _ _ => ?_
  · refine Ok.bind1 (a := false) ?_ (Ok.iteF rfl (Ok.nx trivial))
    simp [isf, or2_ok, bind_okN]
  · refine Ok.bind1 (a := false) ?_ (Ok.iteF rfl (Ok.nx trivial))
    simp only [List.drop_zero, guard_ok (Nat.zero_le row.length), bind_okN, e3, c1, c2, guard_ok g1, e4, or2_ok]
    simp
  · simp only [c3, c4, c1, e5, guard_ok g2, e6, bind_okN]
    refine Ok.bind1 (a := true) ?_ (Ok.rt ⟨rfl, p1⟩)
    rw [or2_ok]
    by_cases h2 : ((row.length : Nat) : Int) < 2
    · rw [decide_eq_true h2, if_pos rfl]
    · rw [decide_eq_false h2, if_neg (by decide), e7, bind_okN]
      rw [ar_parts (by omega) kl] at v7
      rw [v7.uniq D0 v1, decide_eq_true rfl]
end
theorem row_ok {l : List Int} (hp : Pot l) {many : Int} (n0 : 0 < many) (n1 : many ≤ 8) : Ok (m_law_row (l, many)) fun r => (r.1.length ≤ 9 ∧ ∀ p ∈ r.1, 0 ≤ p ∧ p < many) ∧ Pot r.2 := by
  unfold m_law_row mb_law_row
  simp only [DL.bind_assoc, bind_okN, lt_eqN]
  refine Ok.f0 ((digit hp (by decide) (by decide)).bind fun x hx => ?_)
  obtain ⟨x0, x1, p1⟩ := hx
  refine Ok.grdB (rng_ok x0 (by omega)) (Ok.grdB (line_ok (by rw [rng_len]; omega)) ((Ok.compR (fun i acc s => (acc.length = i ∧ ∀ p ∈ acc, 0 ≤ p ∧ p < many) ∧ Pot s) ⟨⟨rfl, fun _ m => nomatch m⟩, p1⟩ ?_).bind ?_))
  · rintro i y acc s e ⟨⟨h1, h2⟩, h3⟩
    refine Ok.compF (P := fun _ => True) (Ok.ret trivial) (fun _ _ _ => ?_) fun _ _ z => by cases z
    refine (digit h3 n0 (small8000 (by omega))).bind fun z hz => Ok.ret ⟨⟨by simp [h1], fun p m => ?_⟩, hz.2.2⟩
    rcases List.mem_append.mp m with m | m
    · exact h2 p m
    · rw [List.mem_singleton.mp m]
      exact ⟨hz.1, hz.2.1⟩
  · rintro ⟨r, l3⟩ ⟨⟨h3, h4⟩, h5⟩
    have h3 : r.length = (rng 0 x.1).length := h3
    rw [rng_len] at h3
    exact Ok.rt ⟨⟨by show r.length ≤ 9; omega, h4⟩, h5⟩
theorem rng0_mem {n x : Int} (h : x ∈ rng 0 n) : 0 ≤ x ∧ x < n := mem_rng h
theorem rng0_nodup (n : Int) : (rng 0 n).Nodup := by
  unfold rng
  refine List.nodup_iff_pairwise_ne.mpr (List.pairwise_map.mpr (List.Pairwise.imp (fun {a b} h => ?_) List.nodup_range))
  intro z
  exact h (by omega)
theorem unlike_ok {l : List Int} (hp : Pot l) {many : Int} (n0 : 0 < many) (n1 : many ≤ 8) : Ok (m_law_unlike (l, many)) fun r => (r.1.length ≤ 8 ∧ r.1.Nodup ∧ ∀ p ∈ r.1, 0 ≤ p ∧ p < many) ∧ Pot r.2 := by
  unfold m_law_unlike mb_law_unlike
  have rl : (rng 0 many).length = many.toNat := by rw [rng_len, Int.sub_zero]
  refine Ok.f0 (Ok.grdB (RgOk.of_le (by omega) (by omega) (by omega) (by omega)) (Ok.ltI (Ok.bF (Pn := fun s => Pot s) ?_ fun s hs => ?_)))
  · refine (digit hp (by decide) (by decide)).bind fun x hx => Ok.ite (fun _ => ?_) fun _ => Ok.nx hx.2.2
    refine (digit hx.2.2 n0 (small8000 (by omega))).bind fun y hy => Ok.ltI ?_
    obtain ⟨k, hk⟩ : ∃ k : Nat, y.1 = k := ⟨y.1.toNat, by have := hy.1; omega⟩
    have c1 : cut (rng 0 many) (some (k : Int)) none = (rng 0 many).drop k := cut_from _ k
    have c2 : cut (rng 0 many) none (some (k : Int)) = (rng 0 many).take k := cut_to _ k
    rw [hk, c1, c2]
    have pm : ((rng 0 many).drop k ++ (rng 0 many).take k).Perm (rng 0 many) := List.perm_append_comm.trans (by rw [List.take_append_drop])
    have nd := pm.nodup_iff.mpr (rng0_nodup many)
    refine Ok.grdB (line_ok (by rw [List.length_drop, List.length_take]; omega)) (Ok.ltI ((digit hy.2.2 (show (0 : Int) < many + 1 by omega) (small8000 (by omega))).bind fun z hz => ?_))
    obtain ⟨j, hj⟩ : ∃ j : Nat, z.1 = j := ⟨z.1.toNat, by have := hz.1; omega⟩
    have c3 : cut ((rng 0 many).drop k ++ (rng 0 many).take k) none (some (j : Int)) = ((rng 0 many).drop k ++ (rng 0 many).take k).take j := cut_to _ j
    rw [hj, c3]
    refine Ok.rt ⟨⟨?_, nd.sublist (List.take_sublist _ _), fun p m => rng0_mem (pm.mem_iff.mp (List.mem_of_mem_take m))⟩, hz.2.2⟩
    show (List.take _ _).length ≤ 8
    rw [List.length_take, pm.length_eq]
    omega
  · simp only [DL.bind_assoc, bind_okN, lt_eqN]
    let I : Nat → List Int × List Int × List Int → Prop := fun i s => Pot s.1 ∧ s.2.1.length = many.toNat - i ∧ s.2.2.length = i ∧ (s.2.1 ++ s.2.2).Perm (rng 0 many)
    refine Ok.bF (Pn := fun s => ∃ i, i ≤ 8 ∧ I i s) ((digit hs (show (0 : Int) < many + 1 by omega) (small8000 (by omega))).bind fun b hb => Ok.grdB (rng_ok hb.1 (by have := hb.2.1; omega)) (Ok.forR I ⟨hb.2.2, by rw [rl]; rfl, rfl, by simp⟩ ?_ ?_)) fun s hs => ?_
    · rintro i x ⟨l1, left, found⟩ e ⟨h1, h2, h3, h4⟩
      obtain ⟨b0, b1, _⟩ := hb
      have h1 : Pot l1 := h1
      have h2 : left.length = many.toNat - i := h2
      have h3 : found.length = i := h3
      have h4 : (left ++ found).Perm (rng 0 many) := h4
      obtain ⟨ex, ex2⟩ := rng_get e
      have pos : (0 : Int) < ((left.length : Nat) : Int) := by omega
      refine (digit h1 pos (small8000 (by omega))).bind fun d hd => ?_
      obtain ⟨k, hk⟩ : ∃ k : Nat, d.1 = k := ⟨d.1.toNat, by have := hd.1; omega⟩
      have kl : k < left.length := by have := hd.2.1; omega
      have ek := List.getElem?_eq_getElem kl
      have pe : popAt left d.1 = some (left[k], k) := by
        unfold popAt
        rw [hk, if_pos ⟨by omega, by omega⟩, Int.toNat_natCast, ek]
        rfl
      refine Ok.somB pe (Ok.grdB (Nat.lt_of_le_of_lt (show found.length ≤ 8 by omega) (by decide)) (Ok.nx ⟨hd.2.2, ?_, by simp [h3], ?_⟩))
      · show (left.eraseIdx k).length = _
        rw [List.length_eraseIdx_of_lt kl]
        omega
      · show (left.eraseIdx k ++ (found ++ [left[k]])).Perm _
        refine List.Perm.trans ?_ h4
        have e1 : left.eraseIdx k = left.take k ++ left.drop (k + 1) := List.eraseIdx_eq_take_drop_succ ..
        have e2 : left = left.take k ++ left[k] :: left.drop (k + 1) := by rw [← List.drop_eq_getElem_cons kl, List.take_append_drop]
        rw [e1]
        conv => rhs; rw [e2]
        have a1 : (left.take k ++ left.drop (k + 1) ++ (found ++ [left[k]])).Perm (left[k] :: (left.take k ++ left.drop (k + 1) ++ found)) := by
          rw [← List.append_assoc]
          exact List.perm_append_singleton _ _
        refine a1.trans ?_
        rw [List.append_assoc (left.take k) (left[k] :: _)]
        rw [List.append_assoc (left.take k)]
        exact List.perm_middle.symm
    · intro s hs
      obtain ⟨b0, b1, _⟩ := hb
      rw [rng_len] at hs
      exact ⟨_, by omega, hs⟩
    · obtain ⟨i, i8, h1, h2, h3, h4⟩ := hs
      refine Ok.rt ⟨⟨by show s.2.2.length ≤ 8; omega, ?_, fun p m => rng0_mem (h4.mem_iff.mp (List.mem_append_right _ m))⟩, h1⟩
      exact (h4.nodup_iff.mpr (rng0_nodup many)).sublist (List.sublist_append_right _ _)
theorem bow_ok {l : List Int} (hp : Pot l) {many : Int} (n0 : 0 < many) (n1 : many ≤ 8) : Ok (m_law_bow (l, many)) fun r => (r.1.length = many.toNat ∧ ∃ D E, Grid 1 D E r.1) ∧ Pot r.2 := by
  unfold m_law_bow mb_law_bow
  simp only [DL.bind_assoc, bind_okN, lt_eqN]
  have big : (100000 : Nat) < 2 ^ 660 := by decide +kernel
  have big2 : (100000 : Int) < 2 ^ 8000 := by decide +kernel
  refine Ok.f0 ((digit hp (by decide) (by decide)).bind fun x hx => ?_)
  obtain ⟨x0, x1, p1⟩ := hx
  refine Ok.grdB (rng_ok (by omega) (by omega)) (Ok.grdB (line_ok (by rw [rng_len]; omega)) ((Ok.compR (fun i (acc : List Pq) s => (acc.length = i ∧ ∀ p ∈ acc, (∃ a : Int, Vl 3 p.1 a ∧ a.natAbs < 100000) ∧ ∃ b : Int, p.2 = (b, 1) ∧ b.natAbs < 100000) ∧ Pot s) ⟨⟨rfl, fun _ m => nomatch m⟩, p1⟩ ?_).bind ?_))
  · rintro i y acc s e ⟨⟨h1, h2⟩, h3⟩
    obtain ⟨ey, ey2⟩ := rng_get e
    have y0 : 0 ≤ y := by omega
    have y8 : y < 8 := by omega
    have m1 : 0 ≤ y * (1 + x.1) ∧ y * (1 + x.1) ≤ 100 := by
      have h1 := Int.mul_nonneg y0 (show 0 ≤ 1 + x.1 by omega)
      have h2 : y * (1 + x.1) ≤ 8 * 10 := Int.mul_le_mul (by omega) (by omega) (by omega) (by decide)
      omega
    have m2 : 0 ≤ y * y ∧ y * y ≤ 64 := by
      have h1 := Int.mul_nonneg y0 y0
      have h2 : y * y ≤ 8 * 8 := Int.mul_le_mul (by omega) (by omega) (by omega) (by decide)
      omega
    have m3 : 0 ≤ y * y * (1 + x.1) ∧ y * y * (1 + x.1) ≤ 640 := by
      have h1 := Int.mul_nonneg m2.1 (show 0 ≤ 1 + x.1 by omega)
      have h2 : y * y * (1 + x.1) ≤ 64 * 10 := Int.mul_le_mul m2.2 (by omega) (by omega) (by decide)
      omega
    refine Ok.compF (P := fun _ => True) (Ok.ret trivial) (fun _ _ _ => ?_) fun _ _ z => by cases z
    have w1 : CMulX y (1 + x.1) := mulx 100 (by omega) (by omega)
    have w2 : CMulX y y := mulx 100 (by omega) (by omega)
    have w3 : CMulX (y * y) (1 + x.1) := mulx 100 (by omega) (by omega)
    rw [guard_ok w1, op2_ok]
    simp only [DL.bind_assoc, bind_okN]
    refine (digit h3 (by decide) (by decide)).bind fun z hz => ?_
    obtain ⟨f, e1, k1, _, _⟩ := low_ok (y * (1 + x.1) + z.1) 3 (by decide) (pw 2 8000 (by decide) (by decide))
    refine Ok.bind1 e1 (Ok.grdB w2 (Ok.grdB w3 (Ok.ret ⟨⟨by simp [h1], fun p m => ?_⟩, hz.2.2⟩)))
    rcases List.mem_append.mp m with m | m
    · exact h2 p m
    · rw [List.mem_singleton.mp m]
      exact ⟨⟨_, vl_of (by decide) k1 rfl, by have := hz.1; have := hz.2.1; omega⟩, _, rfl, by omega⟩
  · rintro ⟨r, l3⟩ ⟨⟨h3, h4⟩, h5⟩
    have h3 : r.length = (rng 0 many).length := h3
    have h5 : Pot l3 := h5
    rw [rng_len, Int.sub_zero] at h3
    refine (digit h5 n0 (small8000 (by omega))).bind fun a ha => ?_
    have G0 : ∀ E : Int, 0 < E → E.natAbs < 2 ^ 195 → ∀ p ∈ r, Gv 1 3 p.1 ∧ Gv 1 E p.2 := fun E e0 eb p m => by
      obtain ⟨⟨a, v, b⟩, c, e, d⟩ := h4 p m
      have c17 : c.natAbs < 2 ^ 17 := Nat.lt_of_lt_of_le d (by decide)
      refine ⟨⟨a, v, Nat.lt_trans b big⟩, c * E, ⟨by rw [e]; exact Int.one_pos, by rw [e]; show Int.gcd c 1 = 1; simp [Int.gcd], by rw [e]; show c * E = c * E * 1; rw [Int.mul_one]⟩, pw _ _ (by decide) (mul_lt2 c17 eb)⟩
    have g3 : Gc 1 3 := ⟨by decide, pw 2 _ (by decide) (by decide)⟩
    refine Ok.bF (Pn := fun s : List Int × List Pq => Pot s.1 ∧ s.2.length = many.toNat ∧ ∃ D E, Grid 1 D E s.2) ((digit ha.2.2 (by decide) (by decide)).bind fun b hb => Ok.ite (fun _ => ?_) fun _ => Ok.nx ⟨hb.2.2, h3, 3, 1, g3, ⟨by decide, pw 1 _ (by decide) (by decide)⟩, G0 1 (by decide) (pw 1 _ (by decide) (by decide))⟩) fun s hs => Ok.rt ⟨hs.2, hs.1⟩
    obtain ⟨p, e1, _, e3⟩ := atI_ok (l := r) ha.1 (by have := ha.2.1; omega)
    refine Ok.somB e1 ((number_ok hb.2.2 (by decide) (by decide)).bind fun f hf => Ok.somB (ixN_nat ha.1 (show a.1 < ((r.length : Nat) : Int) by have := ha.2.1; omega)) (Ok.nx ⟨hf.2, by show (List.set _ _ _).length = _; rw [List.length_set]; exact h3, 3, f.1.2, g3, ⟨hf.1.1, pw _ _ (by decide) hf.1.2.2.2⟩, fun q m => ?_⟩))
    have G1 := G0 f.1.2 hf.1.1 hf.1.2.2.2
    rcases List.mem_or_eq_of_mem_set m with m | m
    · exact G1 q m
    · rw [m]
      refine ⟨(G1 p e3).1, f.1.1, ⟨hf.1.1, hf.1.2.1, rfl⟩, pw _ _ (by decide) hf.1.2.2.1⟩
theorem law_true (ns : List Int) (hl : ns.length ≤ 63) : m_law ns = .ok true := by
  refine Ok.eq ?_
  unfold m_law mb_law
  refine Ok.f0 (Ok.bF (Pn := fun _ => True) (Ok.grdB (rng_ok (by omega) (by omega)) ?_) fun _ _ => Ok.rt rfl)
  refine (Ok.forC (fun _ => True) trivial fun x hx s _ => ?_)
  have hx0 := (mem_rng hx).1
  refine (pot ns hx0).bind fun l0 p0 => Ok.ltI ?_
  refine (digit p0 (by decide) (by decide)).bind fun c hc => Ok.ltI ?_
  obtain ⟨c0, c1, p1⟩ := hc
  generalize hn : 3 + c.1 = many
  have n0 : 0 < many := by omega
  have n8 : many ≤ 8 := by omega
  simp only [DL.bind_assoc, bind_okN]
  refine (digit p1 (by decide) (by decide)).bind fun d hd => Ok.grdB (by have := hd.1; have := hd.2.1; omega) ?_
  refine Ok.bind (P := fun r : List Pq × List Int => (r.1.length = many.toNat ∧ ∃ i D E, i ≤ 8 ∧ Grid i D E r.1) ∧ Pot r.2) ?_ ?_
  · split
    · exact (points_ok hd.2.2 (by omega) n8).mono fun r h => ⟨⟨h.1.1, by obtain ⟨D, E, g⟩ := h.1.2; exact ⟨_, D, E, by omega, g⟩⟩, h.2⟩
    · exact (bow_ok hd.2.2 n0 n8).mono fun r h => ⟨⟨h.1.1, by obtain ⟨D, E, g⟩ := h.1.2; exact ⟨_, D, E, by decide, g⟩⟩, h.2⟩
  rintro ⟨dr, l2⟩ ⟨⟨h1, i, D, E, i8, g⟩, p2⟩
  have h1 : dr.length = many.toNat := h1
  have p2 : Pot l2 := p2
  have g := Grid.fig i8 (by omega) g
  have rw_of : ∀ {row : List Int}, row.length ≤ 100 → (∀ p ∈ row, 0 ≤ p ∧ p < many) → Row dr row := fun h k => ⟨h, fun p m => by have := k p m; omega⟩
  simp only [lt_eqN]
  refine Ok.bF (Pn := fun s => Pot s) ?_ fun s hs => ?_
  · refine (row_ok p2 n0 n8).bind fun r hr => (area_right_ok g (rw_of (by have := hr.1.1; omega) hr.1.2) (by have := hr.1.1; omega) hr.2).bind fun b hb => Ok.iteF (by rw [hb.1]; rfl) (Ok.nx hb.2)
  refine (digit hs n0 (small8000 (by omega))).bind fun y hy => (digit hy.2.2 n0 (small8000 (by omega))).bind fun z hz => ?_
  have r1 : Row dr [y.1, y.1, z.1] := rw_of (by simp) fun p m => by
    simp only [List.mem_cons, List.not_mem_nil, or_false] at m
    have := hy.1; have := hy.2.1; have := hz.1; have := hz.2.1
    rcases m with rfl | rfl | rfl <;> omega
  have r2 : Row dr [y.1, z.1, y.1] := rw_of (by simp) fun p m => by
    simp only [List.mem_cons, List.not_mem_nil, or_false] at m
    have := hy.1; have := hy.2.1; have := hz.1; have := hz.2.1
    rcases m with rfl | rfl | rfl <;> omega
  refine Ok.bF (Pn := fun s => Pot s) ?_ fun s hs => ?_
  · refine (area_right_ok g r1 (by simp) hz.2.2).bind fun b hb => ?_
    have e1 : (!b.1) = false := by rw [hb.1]; rfl
    rw [e1, if_neg (by decide)]
    simp only [DL.bind_assoc, bind_okN]
    exact (area_right_ok g r2 (by simp) hb.2).bind fun b2 hb2 => Ok.iteF (by rw [hb2.1]; rfl) (Ok.nx hb2.2)
  refine Ok.bF (Pn := fun s => Pot s) (Ok.grdB (RgOk.of_le (by omega) (by omega) (by omega) (by omega)) ((unlike_ok hs n0 n8).bind fun u hu => (unlike_ok hu.2 n0 n8).bind fun v hv => ?_)) fun _ _ => Ok.nx trivial
  have rl : (rng 0 many).length = many.toNat := by rw [rng_len, Int.sub_zero]
  have all : ∀ row ∈ [rng 0 many, u.1, v.1, ([] : List Int)], (Row dr row ∧ row.length ≤ 90) ∧ row.Nodup := fun row m => by
    simp only [List.mem_cons, List.not_mem_nil, or_false] at m
    rcases m with e | e | e | e <;> rw [e]
    · exact ⟨⟨rw_of (by omega) fun p m => rng0_mem m, by omega⟩, rng0_nodup many⟩
    · exact ⟨⟨rw_of (by have := hu.1.1; omega) hu.1.2.2, by have := hu.1.1; omega⟩, hu.1.2.1⟩
    · exact ⟨⟨rw_of (by have := hv.1.1; omega) hv.1.2.2, by have := hv.1.1; omega⟩, hv.1.2.1⟩
    · exact ⟨⟨rw_of (by simp) (fun _ m => (nomatch m)), by simp⟩, List.nodup_nil⟩
  refine Ok.forC (fun s => Pot s) hv.2 fun row hrow s hs => ?_
  obtain ⟨⟨rr, r90⟩, nd⟩ := all row hrow
  refine (lbends_ok g rr).bind fun due hdue => (bends_ok g rr nd).bind fun fd hfd => ?_
  have same : fd = due := by
    have : fd = true ↔ due = true := hfd.trans (Iff.trans ⟨fun z => ⟨ben_bow z.1, by have := z.2; omega⟩, fun z => ⟨bow_ben z.1, by have := z.2; omega⟩⟩ hdue.symm)
    cases fd <;> cases due <;> simp_all
  subst same
  refine Ok.bF (Pn := fun _ => True) ?_ fun _ _ => ?_
  · refine Ok.bind (P := fun b => b = false) ?_ fun b hb => Ok.iteF hb (Ok.nx trivial)
    have i1 : (!(isBool (DL.D.bool fd))) = false := rfl
    rw [or2_ok, i1, if_neg (by decide), or2_ok, decide_eq_true rfl]
    rw [if_neg (by decide), and2_ok]
    cases fd with
    | false => exact Ok.ret rfl
    | true =>
      have b0 := hfd.mp rfl
      rw [if_pos rfl, guard_ok (Nat.zero_le _), List.drop_zero]
      simp only [bind_okN, DL.bind_assoc]
      refine (bends_ok g (rr.sub (row' := row.reverse) (by rw [List.length_reverse]; exact rr.1) fun x m => List.mem_reverse.mp m) ((List.reverse_perm row).nodup_iff.mpr nd)).bind fun w hw => Ok.ret ?_
      have : ¬ w = true := fun z => ben_rev b0.1 b0.2 (hw.mp z).1
      simpa using this
  · exact Ok.bF (Pn := fun s => Pot s) ((area_right_ok g rr r90 hs).bind fun b hb => Ok.iteF (by rw [hb.1]; rfl) (Ok.nx hb.2)) fun s hs => Ok.nx hs


def e_law_pot : He.DefD := ⟨("_law_pot", none), "_law_pot", "_law_pot", defArgs s_law_pot, defBody s_law_pot, defScope s_law_pot, [], []⟩
def e_law_digit : He.DefD := ⟨("_law_digit", none), "_law_digit", "_law_digit", defArgs s_law_digit, defBody s_law_digit, defScope s_law_digit, [], []⟩
def e_law_low : He.DefD := ⟨("_law_low", none), "_law_low", "_law_low", defArgs s_law_low, defBody s_law_low, defScope s_law_low, [], []⟩
def e_law_plus : He.DefD := ⟨("_law_plus", none), "_law_plus", "_law_plus", defArgs s_law_plus, defBody s_law_plus, defScope s_law_plus, [], []⟩
def e_law_times : He.DefD := ⟨("_law_times", none), "_law_times", "_law_times", defArgs s_law_times, defBody s_law_times, defScope s_law_times, [], []⟩
def e_law_less : He.DefD := ⟨("_law_less", none), "_law_less", "_law_less", defArgs s_law_less, defBody s_law_less, defScope s_law_less, [], []⟩
def e_law_between : He.DefD := ⟨("_law_between", none), "_law_between", "_law_between", defArgs s_law_between, defBody s_law_between, defScope s_law_between, [], []⟩
def e_law_number : He.DefD := ⟨("_law_number", none), "_law_number", "_law_number", defArgs s_law_number, defBody s_law_number, defScope s_law_number, [], []⟩
def e_law_point : He.DefD := ⟨("_law_point", none), "_law_point", "_law_point", defArgs s_law_point, defBody s_law_point, defScope s_law_point, [], []⟩
def e_law_points : He.DefD := ⟨("_law_points", none), "_law_points", "_law_points", defArgs s_law_points, defBody s_law_points, defScope s_law_points, [], []⟩
def e_law_bow : He.DefD := ⟨("_law_bow", none), "_law_bow", "_law_bow", defArgs s_law_bow, defBody s_law_bow, defScope s_law_bow, [], []⟩
def e_law_area : He.DefD := ⟨("_law_area", none), "_law_area", "_law_area", defArgs s_law_area, defBody s_law_area, defScope s_law_area, [], []⟩
def e_divisor : He.DefD := ⟨("divisor", none), "divisor", "divisor", defArgs s_divisor, defBody s_divisor, defScope s_divisor, [], []⟩
def e_fraction : He.DefD := ⟨("fraction", none), "fraction", "fraction", defArgs s_fraction, defBody s_fraction, defScope s_fraction, [], []⟩
def e_plus : He.DefD := ⟨("plus", none), "plus", "plus", defArgs s_plus, defBody s_plus, defScope s_plus, [], []⟩
def e_less : He.DefD := ⟨("less", none), "less", "less", defArgs s_less, defBody s_less, defScope s_less, [], []⟩
def e_times : He.DefD := ⟨("times", none), "times", "times", defArgs s_times, defBody s_times, defScope s_times, [], []⟩
def e_crossed : He.DefD := ⟨("crossed", none), "crossed", "crossed", defArgs s_crossed, defBody s_crossed, defScope s_crossed, [], []⟩
def e_area : He.DefD := ⟨("area", none), "area", "area", defArgs s_area, defBody s_area, defScope s_area, [], []⟩
def e_law_is_fraction : He.DefD := ⟨("_law_is_fraction", none), "_law_is_fraction", "_law_is_fraction", defArgs s_law_is_fraction, defBody s_law_is_fraction, defScope s_law_is_fraction, [], []⟩
def e_law_area_right : He.DefD := ⟨("_law_area_right", none), "_law_area_right", "_law_area_right", defArgs s_law_area_right, defBody s_law_area_right, defScope s_law_area_right, [], []⟩
def e_law_row : He.DefD := ⟨("_law_row", none), "_law_row", "_law_row", defArgs s_law_row, defBody s_law_row, defScope s_law_row, [], []⟩
def e_law_unlike : He.DefD := ⟨("_law_unlike", none), "_law_unlike", "_law_unlike", defArgs s_law_unlike, defBody s_law_unlike, defScope s_law_unlike, [], []⟩
def e_law_apart : He.DefD := ⟨("_law_apart", none), "_law_apart", "_law_apart", defArgs s_law_apart, defBody s_law_apart, defScope s_law_apart, [], []⟩
def e_law_sign : He.DefD := ⟨("_law_sign", none), "_law_sign", "_law_sign", defArgs s_law_sign, defBody s_law_sign, defScope s_law_sign, [], []⟩
def e_law_hand : He.DefD := ⟨("_law_hand", none), "_law_hand", "_law_hand", defArgs s_law_hand, defBody s_law_hand, defScope s_law_hand, [], []⟩
def e_law_bends : He.DefD := ⟨("_law_bends", none), "_law_bends", "_law_bends", defArgs s_law_bends, defBody s_law_bends, defScope s_law_bends, [], []⟩
def e_apart : He.DefD := ⟨("apart", none), "apart", "apart", defArgs s_apart, defBody s_apart, defScope s_apart, [], []⟩
def e_way : He.DefD := ⟨("way", none), "way", "way", defArgs s_way, defBody s_way, defScope s_way, [], []⟩
def e_sign_of : He.DefD := ⟨("sign_of", none), "sign_of", "sign_of", defArgs s_sign_of, defBody s_sign_of, defScope s_sign_of, [], []⟩
def e_hand : He.DefD := ⟨("hand", none), "hand", "hand", defArgs s_hand, defBody s_hand, defScope s_hand, [], []⟩
def e_bends : He.DefD := ⟨("bends", none), "bends", "bends", defArgs s_bends, defBody s_bends, defScope s_bends, [], []⟩
def e_law : He.DefD := ⟨("law", none), "law", "law", defArgs s_law, defBody s_law, defScope s_law, [], []⟩
def fnL : List He.DefD := [e_law_pot, e_law_digit, e_law_low, e_law_plus, e_law_times, e_law_less, e_law_between, e_law_number, e_law_point, e_law_points, e_law_bow, e_law_area, e_divisor, e_fraction, e_plus, e_less, e_times, e_crossed, e_area, e_law_is_fraction, e_law_area_right, e_law_row, e_law_unlike, e_law_apart, e_law_sign, e_law_hand, e_law_bends, e_apart, e_way, e_sign_of, e_hand, e_bends, e_law]
def faL : List He.Fa := [.glo "_law_pot", .glo "_law_digit", .glo "_law_low", .glo "_law_plus", .glo "_law_times", .glo "_law_less", .glo "_law_between", .glo "_law_number", .glo "_law_point", .glo "_law_points", .glo "_law_bow", .glo "_law_area", .glo "divisor", .glo "fraction", .glo "plus", .glo "less", .glo "times", .glo "crossed", .glo "area", .glo "_law_is_fraction", .glo "_law_area_right", .glo "_law_row", .glo "_law_unlike", .glo "_law_apart", .glo "_law_sign", .glo "_law_hand", .glo "_law_bends", .glo "apart", .glo "way", .glo "sign_of", .glo "hand", .glo "bends", .glo "law", .free "abs", .free "all", .free "bool", .free "divmod", .free "enumerate", .free "int", .free "isinstance", .free "len", .free "list", .free "max", .free "min", .free "range", .free "tuple", .free "zip", .int "FEWEST_BENDING" 3]
abbrev Rw : PySem.W.OpenRow := PySem.W.OpenLaw.row PySem.Challenge.rw_restdraw_k45_areas_and_bends
def exL (K : PySem.W.Frag) : Bool := gtupB K "NOUGHT" [0, 1]
abbrev hkL : PySem.W.Hook := DL.hookE 4 faL fnL exL
def obL (s : PySem.W.SharedT) : DL.AlE := DL.obsEG 4 faL fnL exL (HandSHeadRun.getT s)
theorem ob_eqL (s : PySem.W.SharedT) : obL s = hkL.obs s.abs := DL.obsEG_eq (HandSHeadRun.getT_eq s)
theorem runL (w : World) : HandSHeadRun.RunEq Rw (PySem.W.view Rw.prog [38]) hkL obL 4000 ((["divisor", "fraction", "plus", "less", "times", "apart", "way", "crossed", "sign_of", "hand", "NOUGHT", "FEWEST_BENDING", "area", "bends", "_law_pot", "_law_digit", "_law_low", "_law_plus", "_law_less", "_law_times"] : List PySem.Str) ++ (["_law_sign", "_law_number", "_law_between", "_law_point", "_law_points", "_law_apart", "_law_hand", "_law_area", "_law_bow", "_law_row", "_law_unlike", "_law_is_fraction", "_law_area_right", "_law_bends"] : List PySem.Str)) w := by
  intro os
  kernel_rfl
theorem factsL {P : Program} {w : World} {K : PySem.W.Frag} {h : Heap} {mg : Str → Option Value} {f : Addr} (X : K.In h) (G : h.Ns mainGlobals mg) (hfa : mg ("law" : Str) = some (.ref f)) (c : He.SaysD faL fnL K) (cx : exL K = true) :
    ∃ fd : FuncData, (∀ (s : Shared) (v : Value), BindsTo s fd ⟨[v], []⟩ [("_law_script", v)]) ∧ ∀ base : Heap, K.In base → base.Ns mainGlobals mg → FnG P w K mg base CX0 7 f fd ["_law_script"] (spM K i_law m_law l_law o_law) := by
  obtain ⟨d0, F0⟩ := c.def_ 0 (d := e_law_pot) rfl
  obtain ⟨d1, F1⟩ := c.def_ 1 (d := e_law_digit) rfl
  obtain ⟨d2, F2⟩ := c.def_ 2 (d := e_law_low) rfl
  obtain ⟨d3, F3⟩ := c.def_ 3 (d := e_law_plus) rfl
  obtain ⟨d4, F4⟩ := c.def_ 4 (d := e_law_times) rfl
  obtain ⟨d5, F5⟩ := c.def_ 5 (d := e_law_less) rfl
  obtain ⟨d6, F6⟩ := c.def_ 6 (d := e_law_between) rfl
  obtain ⟨d7, F7⟩ := c.def_ 7 (d := e_law_number) rfl
  obtain ⟨d8, F8⟩ := c.def_ 8 (d := e_law_point) rfl
  obtain ⟨d9, F9⟩ := c.def_ 9 (d := e_law_points) rfl
  obtain ⟨d10, F10⟩ := c.def_ 10 (d := e_law_bow) rfl
  obtain ⟨d11, F11⟩ := c.def_ 11 (d := e_law_area) rfl
  obtain ⟨d12, F12⟩ := c.def_ 12 (d := e_divisor) rfl
  obtain ⟨d13, F13⟩ := c.def_ 13 (d := e_fraction) rfl
  obtain ⟨d14, F14⟩ := c.def_ 14 (d := e_plus) rfl
  obtain ⟨d15, F15⟩ := c.def_ 15 (d := e_less) rfl
  obtain ⟨d16, F16⟩ := c.def_ 16 (d := e_times) rfl
  obtain ⟨d17, F17⟩ := c.def_ 17 (d := e_crossed) rfl
  obtain ⟨d18, F18⟩ := c.def_ 18 (d := e_area) rfl
  obtain ⟨d19, F19⟩ := c.def_ 19 (d := e_law_is_fraction) rfl
  obtain ⟨d20, F20⟩ := c.def_ 20 (d := e_law_area_right) rfl
  obtain ⟨d21, F21⟩ := c.def_ 21 (d := e_law_row) rfl
  obtain ⟨d22, F22⟩ := c.def_ 22 (d := e_law_unlike) rfl
  obtain ⟨d23, F23⟩ := c.def_ 23 (d := e_law_apart) rfl
  obtain ⟨d24, F24⟩ := c.def_ 24 (d := e_law_sign) rfl
  obtain ⟨d25, F25⟩ := c.def_ 25 (d := e_law_hand) rfl
  obtain ⟨d26, F26⟩ := c.def_ 26 (d := e_law_bends) rfl
  obtain ⟨d27, F27⟩ := c.def_ 27 (d := e_apart) rfl
  obtain ⟨d28, F28⟩ := c.def_ 28 (d := e_way) rfl
  obtain ⟨d29, F29⟩ := c.def_ 29 (d := e_sign_of) rfl
  obtain ⟨d30, F30⟩ := c.def_ 30 (d := e_hand) rfl
  obtain ⟨d31, F31⟩ := c.def_ 31 (d := e_bends) rfl
  obtain ⟨d32, F32⟩ := c.def_ 32 (d := e_law) rfl
  have e := hfa.symm.trans (He.glo_ok X G (c.fact 32 (f := .glo "law") rfl))
  cases e
  have b := FunD.bindsA (ps := ["_law_script"]) F32 fun _ _ _ _ _ _ us hl => match us, hl with | [_], _ => rfl
  let T : Top K mg := {
    law_pot := ⟨_, d0, F0, He.glo_ok X G (c.fact 0 (f := .glo "_law_pot") rfl), FunD.bindsN F0 fun _ _ _ _ _ _ us hl => match us, hl with | [_, _], _ => rfl⟩
    law_digit := ⟨_, d1, F1, He.glo_ok X G (c.fact 1 (f := .glo "_law_digit") rfl), FunD.bindsN F1 fun _ _ _ _ _ _ us hl => match us, hl with | [_, _], _ => rfl⟩
    law_low := ⟨_, d2, F2, He.glo_ok X G (c.fact 2 (f := .glo "_law_low") rfl), FunD.bindsN F2 fun _ _ _ _ _ _ us hl => match us, hl with | [_, _], _ => rfl⟩
    law_plus := ⟨_, d3, F3, He.glo_ok X G (c.fact 3 (f := .glo "_law_plus") rfl), FunD.bindsN F3 fun _ _ _ _ _ _ us hl => match us, hl with | [_, _], _ => rfl⟩
    law_times := ⟨_, d4, F4, He.glo_ok X G (c.fact 4 (f := .glo "_law_times") rfl), FunD.bindsN F4 fun _ _ _ _ _ _ us hl => match us, hl with | [_, _], _ => rfl⟩
    law_less := ⟨_, d5, F5, He.glo_ok X G (c.fact 5 (f := .glo "_law_less") rfl), FunD.bindsN F5 fun _ _ _ _ _ _ us hl => match us, hl with | [_, _], _ => rfl⟩
    law_between := ⟨_, d6, F6, He.glo_ok X G (c.fact 6 (f := .glo "_law_between") rfl), FunD.bindsN F6 fun _ _ _ _ _ _ us hl => match us, hl with | [_, _, _], _ => rfl⟩
    law_number := ⟨_, d7, F7, He.glo_ok X G (c.fact 7 (f := .glo "_law_number") rfl), FunD.bindsN F7 fun _ _ _ _ _ _ us hl => match us, hl with | [_, _], _ => rfl⟩
    law_point := ⟨_, d8, F8, He.glo_ok X G (c.fact 8 (f := .glo "_law_point") rfl), FunD.bindsN F8 fun _ _ _ _ _ _ us hl => match us, hl with | [_, _, _], _ => rfl⟩
    law_points := ⟨_, d9, F9, He.glo_ok X G (c.fact 9 (f := .glo "_law_points") rfl), FunD.bindsN F9 fun _ _ _ _ _ _ us hl => match us, hl with | [_, _], _ => rfl⟩
    law_bow := ⟨_, d10, F10, He.glo_ok X G (c.fact 10 (f := .glo "_law_bow") rfl), FunD.bindsN F10 fun _ _ _ _ _ _ us hl => match us, hl with | [_, _], _ => rfl⟩
    law_area := ⟨_, d11, F11, He.glo_ok X G (c.fact 11 (f := .glo "_law_area") rfl), FunD.bindsN F11 fun _ _ _ _ _ _ us hl => match us, hl with | [_, _], _ => rfl⟩
    divisor := ⟨_, d12, F12, He.glo_ok X G (c.fact 12 (f := .glo "divisor") rfl), FunD.bindsN F12 fun _ _ _ _ _ _ us hl => match us, hl with | [_, _], _ => rfl⟩
    fraction := ⟨_, d13, F13, He.glo_ok X G (c.fact 13 (f := .glo "fraction") rfl), FunD.bindsN F13 fun _ _ _ _ _ _ us hl => match us, hl with | [_, _], _ => rfl⟩
    plus := ⟨_, d14, F14, He.glo_ok X G (c.fact 14 (f := .glo "plus") rfl), FunD.bindsN F14 fun _ _ _ _ _ _ us hl => match us, hl with | [_, _], _ => rfl⟩
    less := ⟨_, d15, F15, He.glo_ok X G (c.fact 15 (f := .glo "less") rfl), FunD.bindsN F15 fun _ _ _ _ _ _ us hl => match us, hl with | [_, _], _ => rfl⟩
    times := ⟨_, d16, F16, He.glo_ok X G (c.fact 16 (f := .glo "times") rfl), FunD.bindsN F16 fun _ _ _ _ _ _ us hl => match us, hl with | [_, _], _ => rfl⟩
    crossed := ⟨_, d17, F17, He.glo_ok X G (c.fact 17 (f := .glo "crossed") rfl), FunD.bindsN F17 fun _ _ _ _ _ _ us hl => match us, hl with | [_, _], _ => rfl⟩
    area := ⟨_, d18, F18, He.glo_ok X G (c.fact 18 (f := .glo "area") rfl), FunD.bindsN F18 fun _ _ _ _ _ _ us hl => match us, hl with | [_, _], _ => rfl⟩
    law_is_fraction := ⟨_, d19, F19, He.glo_ok X G (c.fact 19 (f := .glo "_law_is_fraction") rfl), FunD.bindsN F19 fun _ _ _ _ _ _ us hl => match us, hl with | [_], _ => rfl⟩
    law_area_right := ⟨_, d20, F20, He.glo_ok X G (c.fact 20 (f := .glo "_law_area_right") rfl), FunD.bindsN F20 fun _ _ _ _ _ _ us hl => match us, hl with | [_, _, _], _ => rfl⟩
    law_row := ⟨_, d21, F21, He.glo_ok X G (c.fact 21 (f := .glo "_law_row") rfl), FunD.bindsN F21 fun _ _ _ _ _ _ us hl => match us, hl with | [_, _], _ => rfl⟩
    law_unlike := ⟨_, d22, F22, He.glo_ok X G (c.fact 22 (f := .glo "_law_unlike") rfl), FunD.bindsN F22 fun _ _ _ _ _ _ us hl => match us, hl with | [_, _], _ => rfl⟩
    law_apart := ⟨_, d23, F23, He.glo_ok X G (c.fact 23 (f := .glo "_law_apart") rfl), FunD.bindsN F23 fun _ _ _ _ _ _ us hl => match us, hl with | [_, _], _ => rfl⟩
    law_sign := ⟨_, d24, F24, He.glo_ok X G (c.fact 24 (f := .glo "_law_sign") rfl), FunD.bindsN F24 fun _ _ _ _ _ _ us hl => match us, hl with | [_], _ => rfl⟩
    law_hand := ⟨_, d25, F25, He.glo_ok X G (c.fact 25 (f := .glo "_law_hand") rfl), FunD.bindsN F25 fun _ _ _ _ _ _ us hl => match us, hl with | [_, _, _], _ => rfl⟩
    law_bends := ⟨_, d26, F26, He.glo_ok X G (c.fact 26 (f := .glo "_law_bends") rfl), FunD.bindsN F26 fun _ _ _ _ _ _ us hl => match us, hl with | [_, _], _ => rfl⟩
    apart := ⟨_, d27, F27, He.glo_ok X G (c.fact 27 (f := .glo "apart") rfl), FunD.bindsN F27 fun _ _ _ _ _ _ us hl => match us, hl with | [_, _], _ => rfl⟩
    way := ⟨_, d28, F28, He.glo_ok X G (c.fact 28 (f := .glo "way") rfl), FunD.bindsN F28 fun _ _ _ _ _ _ us hl => match us, hl with | [_, _], _ => rfl⟩
    sign_of := ⟨_, d29, F29, He.glo_ok X G (c.fact 29 (f := .glo "sign_of") rfl), FunD.bindsN F29 fun _ _ _ _ _ _ us hl => match us, hl with | [_], _ => rfl⟩
    hand := ⟨_, d30, F30, He.glo_ok X G (c.fact 30 (f := .glo "hand") rfl), FunD.bindsN F30 fun _ _ _ _ _ _ us hl => match us, hl with | [_, _, _], _ => rfl⟩
    bends := ⟨_, d31, F31, He.glo_ok X G (c.fact 31 (f := .glo "bends") rfl), FunD.bindsN F31 fun _ _ _ _ _ _ us hl => match us, hl with | [_, _], _ => rfl⟩
    law := ⟨_, d32, F32, He.glo_ok X G (c.fact 32 (f := .glo "law") rfl), FunD.bindsN F32 fun _ _ _ _ _ _ us hl => match us, hl with | [_], _ => rfl⟩
    z_abs := He.free_ok X G (c.fact 33 (f := .free "abs") rfl)
    z_all := He.free_ok X G (c.fact 34 (f := .free "all") rfl)
    z_bool := He.free_ok X G (c.fact 35 (f := .free "bool") rfl)
    z_divmod := He.free_ok X G (c.fact 36 (f := .free "divmod") rfl)
    z_enumerate := He.free_ok X G (c.fact 37 (f := .free "enumerate") rfl)
    z_int := He.free_ok X G (c.fact 38 (f := .free "int") rfl)
    z_isinstance := He.free_ok X G (c.fact 39 (f := .free "isinstance") rfl)
    z_len := He.free_ok X G (c.fact 40 (f := .free "len") rfl)
    z_list := He.free_ok X G (c.fact 41 (f := .free "list") rfl)
    z_max := He.free_ok X G (c.fact 42 (f := .free "max") rfl)
    z_min := He.free_ok X G (c.fact 43 (f := .free "min") rfl)
    z_range := He.free_ok X G (c.fact 44 (f := .free "range") rfl)
    z_tuple := He.free_ok X G (c.fact 45 (f := .free "tuple") rfl)
    z_zip := He.free_ok X G (c.fact 46 (f := .free "zip") rfl)
    g_FEWEST_BENDING := He.int_ok X G (c.fact 47 (f := .int "FEWEST_BENDING" 3) rfl)
    t_NOUGHT := DL.gtup_ok X G cx
  }
  exact ⟨d32, fun s v => b s [v] rfl, fun base _ _ => ok_law T⟩

end W
open PySem PySem.W PySem.Calls PyProof.Rows
set_option maxHeartbeats 8000000 in
theorem PySem.Challenge.cw_restdraw_k45_areas_and_bends_holds : PySem.Challenge.rw_restdraw_k45_areas_and_bends.Holds := by
  w_on; o_law
  refine HandSHeadRun.head_any (r := W.Rw) (q := view W.Rw.prog [38]) (H := W.hkL) (ob := W.obL) (M := 4000) (loose := ((["divisor", "fraction", "plus", "less", "times", "apart", "way", "crossed", "sign_of", "hand", "NOUGHT", "FEWEST_BENDING", "area", "bends", "_law_pot", "_law_digit", "_law_low", "_law_plus", "_law_less", "_law_times"] : List PySem.Str) ++ (["_law_sign", "_law_number", "_law_between", "_law_point", "_law_points", "_law_apart", "_law_hand", "_law_area", "_law_bow", "_law_row", "_law_unlike", "_law_is_fraction", "_law_area_right", "_law_bends"] : List PySem.Str))) (d := HandSHeadRun.topDef W.Rw.prog 38) (kwd := []) W.ob_eqL
    (by kernel_rfl) (fun s => by kernel_rfl) W.runL (by kernel_rfl) (by kernel_rfl) (by kernel_rfl) (by rfl) (by first | assumption | decide +kernel) (by decide +kernel) ⟨rfl, rfl, rfl, rfl, rfl, by decide +kernel⟩ ?hw ?hc
  case hw => w_witness2
  case hc =>
    refine DL.walk_ofG (l := PySem.Challenge.rw_restdraw_k45_areas_and_bends) (n := 63) (k := 7) (x := "_law_script") (CX := L2.CX0) rfl (by decide) (by kernel_rfl) ⟨⟨rfl, by decide, by decide⟩, rfl⟩ ?F (fun _ _ _ _ z => z)
    intro w mg fa h Y G hmg0
    obtain ⟨K, KX, c, cx⟩ := Y
    have hmg : mg ("law" : PySem.Str) = some (.ref fa) := by
      have e : (HandSHeadRun.topDef W.Rw.prog 38).name = ("law" : PySem.Str) := by kernel_rfl
      rw [← e]
      exact hmg0
    obtain ⟨fd, hb, hF⟩ := W.factsL (P := (PySem.Challenge.rw_restdraw_k45_areas_and_bends).prog) (w := w) KX G hmg c cx
    exact ⟨K, fd, _, KX, hb, fun H a ns hl _ hS => DL.law_sp hS (W.law_true ns hl), hF⟩
