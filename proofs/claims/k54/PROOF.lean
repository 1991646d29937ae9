import PyProof.Rows.All
import Wide.All
import OpenK.AllK
import Wide.FinOn
import HandS.ForMost
import HandS.Wide
import HandS.WideBits
import HandS.Defaults
import HandS.Ends
import HandS.HeadEnd
import HandS.IsInst
import HandS.Words
import HandS.WordsExc
import HandS.Comp
import HandS.Deep
import HandS.NoneIn
import HandS.More
import HandS.SetFor
import HandS.Strs
import HandS.Iter
import PyProof.EnumMake
import PyProof.Draws
import PyProof.TupleIter
import PyProof.ReprRoads
import PyProof.ReprText
import PyProof.ReprLen
import HandS.Conv
import HandS.Dict
import HandS.SortInts
import HandS.TupAny
import HandS.Style
import HandS.TupSets
import KE.DatumOrd
import KE.KDictCopyH
import KE.KDictPairs
import KE.SortKeyHeap
import PyProof.Rows.SetFrom
import HandS.Zip
import HandS.Head0
import HandS.Head1
import HandS.Head2
import HandS.HeadHook1
import HandS.HeadHook2
import PySem.Challenge.RW_restdraw_k54_whole_rounds_and_stretches
set_option Elab.async false
set_option linter.all false
set_option autoImplicit false
set_option exponentiation.threshold 100000
set_option maxRecDepth 100000
set_option maxHeartbeats 4000000
/-! DL0: defs' promises where no display is under way -/
namespace DL
open PySem PySem.Spec L2 PyProof.Rows

/-- there is room, and no display stands below -/
structure RoomG (k : Nat) (A : Around) : Prop where
  r : Room k A
  gd : A.guards = some []
theorem RoomG.mono {j k : Nat} {A : Around} (h : RoomG k A) (l : j ≤ k) : RoomG j A := ⟨h.r.mono l, h.gd⟩
theorem RoomG.deeper {k : Nat} {A : Around} (h : RoomG (k + 1) A) (env : PySem.Env) : RoomG k (A.deeper env) := ⟨h.r.deeper env, h.gd⟩
/-- a def's promise, there -/
structure FnG (P : Program) (w : World) (K : PySem.W.Frag) (mg : Str → Option Value) (bs : Heap) (CX : CXT) (k : Nat) (fa : Addr) (fd : FuncData) (ps : List Str) (sp : Sp) : Prop where
  many : ∀ xs G Z W, sp xs G Z W → xs.length = ps.length
  go : ∀ (A : Around) (out : List PySem.Env) (t : Shared) (G : Hp) (ar : Args) (us : List Value) (xs : List V) (Z : VK) (W : XK), RoomG k A → Env0 P w K mg bs A out t G → BindsTo t fd ar (ps.zip us) → Vals xs us →
    sp xs G Z W → codeAny (model P w) A (.call (.ref fa) ar) (CR CX out P w G t Z W) t
section
variable {P : Program} {w : World} {K : PySem.W.Frag} {mg : Str → Option Value} {bs : Heap} {CX : CXT} {k : Nat} {fa : Addr} {fd : FuncData} {ps : List Str} {sp : Sp}
/-- by a def's body -/
theorem fn_ofG {x qual : Str} {params : Arguments} {body : List Stmt} {scope : Scope} {N : List Str} (F : FunD K x qual params body scope [] [] fa fd) (S : FnScope N ps scope) (many : ∀ xs G Z W, sp xs G Z W → xs.length = ps.length)
    (hb : ∀ (cv : Value) (A : Around) (out : List PySem.Env) (t : Shared) (G : Hp) (xs : List V) (Z : VK) (W : XK), RoomG k (A.deeper (envOfC qual scope t.heap.objs.size fa cv)) → sp xs G Z W →
      ∃ r, PSs (cxOf CX P w K mg bs N qual scope fa cv A out t G W) body r ∧ r { nx := fun _ G' => Z .non G', rt := Z } (start N xs) G) :
    FnG P w K mg bs CX (k + 1) fa fd ps sp := by
  obtain ⟨oc, od, dV, kV, doc, pm, an, cv, ct, osl, e, lk, cin, _, _⟩ := F.ex
  subst e
  refine ⟨many, ?_⟩
  intro A out t G ar us xs Z W room env bind rel pr
  have sizes := many _ _ _ _ pr
  have KI : K.In t.heap := env.mod.kin.keeps fun b o z => (env.bs b o z).1
  have free : t.heap.NoLimit := env.mod.nolimit.keeps fun b o z => (env.bs b o z).1
  refine codeAny_call_function room.r.depth (KI _ _ lk) rfl S.co S.gen rfl (PySem.W.codeRec_of KI cin) (bind _ _ _ _ ?_)
  have kinds : ∀ q ∈ ps.zip us, scope.names.lookup q.1 = some .local ∨ (scope.names.lookup q.1 = some .cell ∧ ((cellsFrom (t.heap.objs.size + 1) scope.names []).lookup q.1).isSome = true) := by
    rintro ⟨n, v⟩ hq
    exact (S.par n (List.of_mem_zip hq).1).elim Or.inl fun z => Or.inr ⟨z, PySem.W.cellsFrom_some _ _ _ (.inl z)⟩
  refine wpAny_newFunctionEnv_cells S.kind kinds ?_
  intro ev hev t1 x1
  subst hev
  refine ⟨free.keeps x1.toInCall.keep, codeAny_func ?_⟩
  obtain ⟨r, hrun, hst⟩ := hb cv A out t G xs Z W (room.deeper _) pr
  have I0 : Inv (cxOf CX P w K mg bs N qual scope fa cv A out t G W) [] (start N xs) G t1 := inv_start S room.r.hd env sizes rel x1
  refine wpAny_mono (hrun.run [] t1 (start N xs) G _ I0 hst) ?_ (fun e t' z => z)
  intro fl t' z
  have done : ∀ {τ : L2.St} {G' : Hp} {v : V} {u : Value}, Inv (cxOf CX P w K mg bs N qual scope fa cv A out t G W) [] τ G' t' → RelV v u → Z v G' → CE out P w G t Z u t' := by
    intro τ G' v u J rv q
    exact ⟨v, G', J.os, J.bare, J.base, J.hok, rv, q⟩
  match fl, z with
  | .ret u, ⟨v, τ, G', J, rv, q⟩ => exact done J rv q
  | .next, ⟨τ, G', J, q⟩ => exact done (v := .non) (u := .none) J rfl q
  | .brk, ⟨_, _, _, q⟩ => exact q.elim
  | .cont, ⟨_, _, _, q⟩ => exact q.elim
end
section
variable {X : Cx} {CX : CXT} {k : Nat} {f : Addr} {fd : FuncData} {ps : List Str} {sp : Sp} {W : XK} {x : Str} {p pos : Pos} {e : Expr} {es : List Expr} {t : TA}
theorem go_fn {pins : List (Addr × Obj)} {σ : L2.St} {G : Hp} {s : Shared} {Q : VK} {us : List Value} {xs : List V} (F : FnG X.prog X.w X.K X.mg X.base CX k f fd ps sp) (room : RoomG k X.A) (hb : Binds X.K fd ps []) (pass : Passes CX X W)
    (I : Inv X pins σ G s) (r : Vals xs us) (pr : sp xs G Q W) : wpAny (model X.prog X.w) X.A (call (.ref f) us) (EP X pins σ Q) X.xe s := by
  have n : (us ++ []).length = ps.length := by
    rw [List.append_nil, ← r.length]
    exact F.many _ _ _ _ pr
  have b := hb s us I.kIn n
  rw [List.append_nil] at b
  refine wpAny_call (codeAny_mono (F.go X.A X.stack s G ⟨us, []⟩ us xs Q W room I.env0 b r pr) ?_)
  intro res s' z
  match res, z with
  | .error e, z => exact pass pins σ G s e s' I z
  | .ok (.ret u), z => exact I.after z
  | .ok .next, z => exact z.elim
  | .ok .brk, z => exact z.elim
  | .ok .cont, z => exact z.elim
/-- the call of a def -/
theorem pe_callG (F : FnG X.prog X.w X.K X.mg X.base CX k f fd ps sp) (room : RoomG k X.A) (hg : Gl X x) (hm : X.mg x = some (.ref f)) (hk : PySem.W.keepIn X.K (.ref f) = true) (hb : Binds X.K fd ps []) (pass : Passes CX X W) (ha : PA X (e :: es) t)
    (hdb : (x == ("__debug__" : Str)) = false := by decide) (he : starEach (e :: es) X.env = (false, eval e X.env) :: starEach es X.env := by rfl) (hpl : (backTo pos (starEach es X.env)).any (·.1) = false := by rfl) :
    PE X (.Call (.Name x p) (e :: es) [] pos) (tCall sp [] W t) :=
  ⟨fun pins s σ G Q I h => wpAny_Call_Name_kw (ld_glob I hg hm (PySem.W.callWith_K (h₀ := X.base) I.ok.mod.kin hk (thn (ha.run pos pins s σ G _ I h) fun us s1 z => by
    obtain ⟨xs, G1, I1, r, q⟩ := z
    refine ⟨I1.kIn, go_fn F room hb pass I1 r ?_⟩
    rw [List.append_nil] at q
    exact q) he hpl) hdb)⟩
end
/-! ### the law's own call -/
theorem law_callG {P : Program} {w : World} {K : PySem.W.Frag} {mg mb : Str → Option Value} {CX : CXT} {k : Nat} {fa a : Addr} {fd : FuncData} {x : Str} {sp : Sp} {t : Shared} {us : List Value} {ns : List Int}
    (KI : K.In t.heap) (n1 : t.heap.Ns mainGlobals mg) (n2 : t.heap.Ns builtinsNs mb) (n3 : ∀ x : Str, x ≠ "__name__" → mb x = bootBuiltins x) (n4 : t.heap.NoLimit) (n5 : t.gens = #[])
    (ob : t.heap.get? a = some { cls := .type "list", data := .seq us.toArray }) (are : IntsAre us ns) (few : ns.length ≤ sizeLine) (room : RoomG k callerA)
    (F : ∀ bs : Heap, K.In bs → bs.Ns mainGlobals mg → FnG P w K mg bs CX k fa fd [x] sp) (bind : ∀ (s : Shared) (u : Value), BindsTo s fd ⟨[u], []⟩ [(x, u)])
    (pr : ∀ G : Hp, Only G → SqL K G a (ns.map V.int) → sp [.ref a] G (fun v _ => v = .bl true) fun _ _ _ => False)
    (noX : ∀ G e t', CX [] G t (fun _ _ _ => False) e t' → False) :
    codeAny (model P w) callerA (.call (.ref fa) ⟨[.ref a], []⟩) (fun r t' => r = .ok (.ret (.bool true)) ∧ OldK t.heap t'.heap ∧ t'.os = t.os ∧ AllBare t'.gens) t := by
  have rel := vals_ints are
  have main : ∀ G : Hp, Only G → SqL K G a (ns.map V.int) → HOk P w G t.heap → (∀ b, G b ≠ none → b = a) → (G a ≠ none → K.lookup a = none) →
      codeAny (model P w) callerA (.call (.ref fa) ⟨[.ref a], []⟩) (fun r t' => r = .ok (.ret (.bool true)) ∧ OldK t.heap t'.heap ∧ t'.os = t.os ∧ AllBare t'.gens) t := by
    intro G only sq ok isA notK
    have alone : ∀ {b : Addr}, b ≠ a → G b = none := fun {b} z => Classical.byContradiction fun y => z (isA b y)
    have hid : ∀ {b : Addr} {o : Obj}, t.heap.get? b = some o → G b = none → (hidT t.heap G).get? b = some o := fun z y => hidT_get z y
    have noD : ∀ {b : Addr} {o : Obj} {es : Array DictEntry} {ep : Nat}, t.heap.get? b = some o → o.data = .dict es ep → G b = none := by
      intro b o es ep z d
      by_cases hba : b = a
      · subst hba
        rw [ob] at z
        injection z with z
        subst z
        exact nomatch (show Data.seq us.toArray _ = Data.dict es ep from d)
      · exact alone hba
    have nss : ∀ {b : Addr} {m : Str → Option Value}, t.heap.Ns b m → (hidT t.heap G).Ns b m := by
      rintro b m ⟨o, es, ep, z, d, r⟩
      exact ⟨o, es, ep, hid z (noD z d), d, r⟩
    have KB : K.In (hidT t.heap G) := by
      intro b o z
      refine hid (KI b o z) ?_
      by_cases hba : b = a
      · subst hba
        by_cases y : G b = none
        · exact y
        · rw [notK y] at z
          cases z
      · exact alone hba
    obtain ⟨mc, l1, l2⟩ := n4
    have en : Env0 P w K mg (hidT t.heap G) callerA [] t G :=
      ⟨rfl, ⟨KB, nss n1, ⟨mb, nss n2, n3⟩, ⟨mc, nss l1, l2⟩⟩, fun b o z => of_hidT z, Nat.le_of_eq (hidT_size _ _), trivial, fun b z => absurd (show b ∈ ([] : List Addr) from z) List.not_mem_nil, ok, .of_eq n5⟩
    refine codeAny_mono ((F _ KB (nss n1)).go callerA [] t G ⟨[.ref a], []⟩ [.ref a] [.ref a] _ _ room en (bind t (.ref a)) (.cons rfl .nil) (pr G only sq)) ?_
    intro r t' z
    match r, z with
    | .error e, z => exact (noX G e t' z).elim
    | .ok .next, z => exact z.elim
    | .ok .brk, z => exact z.elim
    | .ok .cont, z => exact z.elim
    | .ok (.ret u), ⟨v, G', os, bare, un, ok', rv, q⟩ =>
      have q : v = .bl true := q
      subst q
      have rv : u = Value.bool true := rv
      subst rv
      refine ⟨rfl, OldK.of_keep ?_, os, bare⟩
      intro b o z
      by_cases y : G b = none
      · exact un.keep b o z y (fun m => absurd (show b ∈ ([] : List Addr) from m) List.not_mem_nil) (by simp)
      · rcases only b with y' | ⟨ob', xs, y'⟩
        · exact absurd y' y
        · obtain ⟨e2, _⟩ := ok' b _ (un.frzs b ob' _ y')
          obtain ⟨e1, _⟩ := ok b _ y'
          rw [z] at e1
          injection e1 with e1
          subst e1
          exact e2
  by_cases hk : ∃ o, K.lookup a = some o
  · obtain ⟨o, hk⟩ := hk
    have z := KI a o hk
    rw [ob] at z
    injection z with z
    subst z
    refine main (fun _ => none) (fun _ => Or.inl rfl) (Or.inr ⟨_, us.toArray, _, hk, rfl, rfl, rfl, ?_, by simpa using rel⟩) ?_ (fun b z => (z rfl).elim) (fun z => (z rfl).elim)
    · rw [List.size_toArray, are.length]
      exact few
    · intro b u z
      exact nomatch (show (none : Option HO) = some u from z)
  · have hk : K.lookup a = none := by
      cases z : K.lookup a with
      | none => rfl
      | some o => exact (hk ⟨o, z⟩).elim
    have at_ : ∀ {b : Addr} {u : HO}, (if b = a then some (HO.frz { cls := .type "list", data := .seq us.toArray } (.lst (ns.map V.int))) else none) = some u → b = a ∧ u = HO.frz { cls := .type "list", data := .seq us.toArray } (.lst (ns.map V.int)) := by
      intro b u z
      split at z
      · injection z with z
        exact ⟨by assumption, z.symm⟩
      · cases z
    refine main (fun b => if b = a then some (.frz { cls := .type "list", data := .seq us.toArray } (.lst (ns.map V.int))) else none) ?_ (Or.inl (Or.inr ⟨_, if_pos rfl⟩)) ?_ ?_ (fun _ => hk)
    · intro b
      by_cases hb : b = a
      · exact Or.inr ⟨_, _, if_pos hb⟩
      · exact Or.inl (if_neg hb)
    · intro b u z
      obtain ⟨rfl, rfl⟩ := at_ z
      exact ⟨ob, by rw [List.length_map]; exact few, us, _, rel, ob⟩
    · intro b z
      by_cases hb : b = a
      · exact hb
      · exact absurd (if_neg hb) z
/-- a law, over a head by facts -/
theorem walk_ofG {l : PySem.W.OpenLaw} {n k : Nat} {q : Program} {loose : List Str} {XP : (Str → Option Value) → Heap → Prop} {YP : World → Heap → Prop} {d : DefRec} {CX : CXT} {x : Str}
    (most : l.most = some n) (few : n ≤ sizeLine) (nodf : d.params.defaults = []) (room : RoomG k callerA)
    (F : ∀ (w : World) (mg : Str → Option Value) (fa : Addr) (h : Heap), YP w h → h.Ns mainGlobals mg → mg d.name = some (.ref fa) →
      ∃ (K : PySem.W.Frag) (fd : FuncData) (sp : Sp), K.In h ∧ (∀ (s : Shared) (u : Value), BindsTo s fd ⟨[u], []⟩ [(x, u)]) ∧
        (∀ (G : Hp) (a : Addr) (ns : List Int), ns.length ≤ n → Only G → SqL K G a (ns.map V.int) → sp [.ref a] G (fun v _ => v = .bl true) fun _ _ _ => False) ∧
        ∀ bs : Heap, K.In bs → bs.Ns mainGlobals mg → FnG l.prog w K mg bs CX k fa fd [x] sp)
    (noX : ∀ (G : Hp) (t : Shared) (e : Value) (t' : Shared), CX [] G t (fun _ _ _ => False) e t' → False) :
    PySem.W.WalkO q loose XP YP l.row.toRowW d [] (fun f us => PySem.call f us) := by
  refine Att.attach_call most nodf ?_
  intro w s0 s1 mg mb fa o pm cd doc a us ns G Y ho hd hcd hmg hob hi hl hg
  obtain ⟨K, fd, sp, KI, bind, pr, hF⟩ := F w mg fa _ Y G.T.g hmg
  exact law_callG KI G.T.g G.T.b G.T.builtins G.T.nolimit hg hob hi (Nat.le_trans hl few) room hF bind (fun H only sq => pr H a ns hl only sq) fun H e s' => noX H s1 e s'
end DL

/-! DL1: mirrors' monad, environments of slots, what is owned -/
namespace DL
open PySem PySem.Spec L2
/-- data, without places; scr: the script -/
inductive D where
  | none
  | bool (b : Bool)
  | int (i : Int)
  | str (s : Str)
  | list (xs : List D)
  | tuple (xs : List D)
  | dict (kvs : List (D × D))
  | scr (ns : List Int)
  | row (ds : List D)
  | key (ks : List Int)

/-! ### the mirrors' monad -/
structure Exn where
  cls : String
  fld : Option D
inductive R (α : Type) where
  | ok (a : α)
  | err (e : Exn)
  | bad
namespace R
def bind {α β : Type} : R α → (α → R β) → R β
  | .ok a, f => f a
  | .err e, _ => .err e
  | .bad, _ => .bad
def post {α : Type} (m : R α) (φ : α → Prop) (ψ : Exn → Prop) : Prop := match m with
  | .ok a => φ a
  | .err e => ψ e
  | .bad => False
theorem post_bind {α β : Type} {m : R α} {f : α → R β} {φ : β → Prop} {ψ : Exn → Prop} : (m.bind f).post φ ψ ↔ m.post (fun a => (f a).post φ ψ) ψ := by
  cases m <;> exact Iff.rfl
theorem post_mono {α : Type} {m : R α} {φ φ' : α → Prop} {ψ : Exn → Prop} (h : m.post φ ψ) (k : ∀ a, φ a → φ' a) : m.post φ' ψ := by
  cases m with
  | ok a => exact k a h
  | err e => exact h
  | bad => exact h
/-- go on where it holds -/
def guard (c : Prop) [Decidable c] : R Unit := if c then .ok () else .bad
theorem post_guard {c : Prop} [Decidable c] {φ : Unit → Prop} {ψ : Exn → Prop} (h : (guard c).post φ ψ) : c ∧ φ () := by
  unfold guard at h
  by_cases hc : c
  · rw [if_pos hc] at h
    exact ⟨hc, h⟩
  · rw [if_neg hc] at h
    exact h.elim
/-- what must be there -/
def some {α : Type} : Option α → R α
  | .some a => .ok a
  | .none => .bad
theorem post_some {α : Type} {o : Option α} {φ : α → Prop} {ψ : Exn → Prop} (h : (some o).post φ ψ) : ∃ a, o = .some a ∧ φ a := by
  cases o with
  | none => exact h.elim
  | some a => exact ⟨a, rfl, h⟩
end R

/-! ### heaps that grow -/
def Ex (H H' : Hp) : Prop := ∀ a o, H a = some o → H' a = some o
theorem Ex.refl (H : Hp) : Ex H H := fun _ _ h => h
theorem Ex.trans {H H1 H2 : Hp} (a : Ex H H1) (b : Ex H1 H2) : Ex H H2 := fun x o h => b x o (a x o h)
theorem Ex.new {H : Hp} {p : Addr} {o : HO} (h : H p = none) : Ex H (upd H p o) := fun a u e => by
  rw [upd_ne (ne_of_none e h)]
  exact e
theorem Ex.upd {H H' : Hp} (e : Ex H H') (p : Addr) (o : HO) : Ex (upd H p o) (upd H' p o) := fun a u h => by
  by_cases ha : a = p
  · subst ha
    rw [upd_same] at h ⊢
    exact h
  · rw [upd_ne ha] at h ⊢
    exact e a u h
theorem Ex.rd {H H' : Hp} {a : Addr} {u : HO} (e : Ex H H') (h : Rd H a u) : Rd H' a u := by
  rcases h with h | ⟨o, h⟩
  · exact Or.inl (e a _ h)
  · exact Or.inr ⟨o, e a _ h⟩
theorem Ex.l {K : PySem.W.Frag} {H H' : Hp} {a : Addr} {xs : List V} (e : Ex H H') (h : SqL K H a xs) : SqL K H' a xs := by
  rcases h with h | h
  · exact Or.inl (e.rd h)
  · exact Or.inr h
theorem Ex.t {K : PySem.W.Frag} {H H' : Hp} {a : Addr} {xs : List V} (e : Ex H H') (h : SqT K H a xs) : SqT K H' a xs := by
  rcases h with h | h
  · exact Or.inl (e.rd h)
  · exact Or.inr h
theorem Ex.back {H H' : Hp} {p : Addr} (e : Ex H H') (h : H' p = none) : H p = none := by
  cases h1 : H p with
  | none => rfl
  | some o =>
    rw [e p o h1] at h
    cases h

/-! ### data in the heap (as Dp, and dicts) -/
mutual
inductive Rp (K : PySem.W.Frag) (G : Hp) : V → D → Prop
  | non : Rp K G .non .none
  | bl (b : Bool) : Rp K G (.bl b) (.bool b)
  | int (i : Int) : Rp K G (.int i) (.int i)
  | str (x : Str) : Rp K G (.str x) (.str x)
  | lst {a : Addr} {xs : List V} {ds : List D} : Rd G a (.lst xs) → RpAll K G xs ds → Rp K G (.ref a) (.list ds)
  | tup {a : Addr} {xs : List V} {ds : List D} : SqT K G a xs → RpAll K G xs ds → Rp K G (.ref a) (.tuple ds)
  | scr {a : Addr} {ns : List Int} : SqL K G a (ns.map V.int) → Rp K G (.ref a) (.scr ns)
  | row {a : Addr} {ob : Obj} {xs : List V} {ds : List D} : G a = some (.frz ob (.tup xs)) → ob.dict = none → RpAll K G xs ds → Rp K G (.ref a) (.row ds)
  | key {a : Addr} {ks : List Int} : G a = some (.tup (ks.map V.int)) → Rp K G (.ref a) (.key ks)
  | dK {a : Addr} {kvs : List (Key × V)} {ds : List (D × D)} : G a = some (.dK kvs) → RpK K G kvs ds → Rp K G (.ref a) (.dict ds)
  | dT {a : Addr} {kvs : List (List Key × V)} {ds : List (D × D)} : G a = some (.dT kvs) → RpT K G kvs ds → Rp K G (.ref a) (.dict ds)
inductive RpAll (K : PySem.W.Frag) (G : Hp) : List V → List D → Prop
  | nil : RpAll K G [] []
  | cons {v : V} {vs : List V} {d : D} {ds : List D} : Rp K G v d → RpAll K G vs ds → RpAll K G (v :: vs) (d :: ds)
inductive RpK (K : PySem.W.Frag) (G : Hp) : List (Key × V) → List (D × D) → Prop
  | nil : RpK K G [] []
  | cons {k : Key} {v : V} {r : List (Key × V)} {d : D} {ds : List (D × D)} : Rp K G v d → RpK K G r ds → RpK K G ((k, v) :: r) ((match k with | .inl i => D.int i | .inr x => D.str x, d) :: ds)
inductive RpT (K : PySem.W.Frag) (G : Hp) : List (List Key × V) → List (D × D) → Prop
  | nil : RpT K G [] []
  | cons {k : List Key} {v : V} {r : List (List Key × V)} {d : D} {ds : List (D × D)} : Rp K G v d → RpT K G r ds → RpT K G ((k, v) :: r) ((D.tuple (k.map fun k => match k with | .inl i => D.int i | .inr x => D.str x), d) :: ds)
end
mutual
theorem Rp.ex {K : PySem.W.Frag} {G G' : Hp} (e : Ex G G') : ∀ {v : V} {d : D}, Rp K G v d → Rp K G' v d
  | _, _, .non => .non
  | _, _, .bl b => .bl b
  | _, _, .int i => .int i
  | _, _, .str x => .str x
  | _, _, .lst h r => .lst (e.rd h) (RpAll.ex e r)
  | _, _, .tup h r => .tup (e.t h) (RpAll.ex e r)
  | _, _, .scr h => .scr (e.l h)
  | _, _, .row h d r => .row (e _ _ h) d (RpAll.ex e r)
  | _, _, .key h => .key (e _ _ h)
  | _, _, .dK h r => .dK (e _ _ h) (RpK.ex e r)
  | _, _, .dT h r => .dT (e _ _ h) (RpT.ex e r)
theorem RpAll.ex {K : PySem.W.Frag} {G G' : Hp} (e : Ex G G') : ∀ {v : List V} {d : List D}, RpAll K G v d → RpAll K G' v d
  | _, _, .nil => .nil
  | _, _, .cons h r => .cons (Rp.ex e h) (RpAll.ex e r)
theorem RpK.ex {K : PySem.W.Frag} {G G' : Hp} (e : Ex G G') : ∀ {v : List (Key × V)} {d : List (D × D)}, RpK K G v d → RpK K G' v d
  | _, _, .nil => .nil
  | _, _, .cons h r => .cons (Rp.ex e h) (RpK.ex e r)
theorem RpT.ex {K : PySem.W.Frag} {G G' : Hp} (e : Ex G G') : ∀ {v : List (List Key × V)} {d : List (D × D)}, RpT K G v d → RpT K G' v d
  | _, _, .nil => .nil
  | _, _, .cons h r => .cons (Rp.ex e h) (RpT.ex e r)
end
section
variable {K : PySem.W.Frag} {G : Hp}
theorem Rp.int_inv {v : V} {i : Int} (h : Rp K G v (.int i)) : v = .int i := by
  cases h
  rfl
theorem Rp.bl_inv {v : V} {b : Bool} (h : Rp K G v (.bool b)) : v = .bl b := by
  cases h
  rfl
theorem Rp.str_inv {v : V} {b : Str} (h : Rp K G v (.str b)) : v = .str b := by
  cases h
  rfl
theorem Rp.non_inv {v : V} (h : Rp K G v .none) : v = .non := by
  cases h
  rfl
theorem Rp.lst_inv {v : V} {ds : List D} (h : Rp K G v (.list ds)) : ∃ a xs, v = .ref a ∧ Rd G a (.lst xs) ∧ RpAll K G xs ds := by
  cases h with
  | lst h r => exact ⟨_, _, rfl, h, r⟩
theorem Rp.tup_inv {v : V} {ds : List D} (h : Rp K G v (.tuple ds)) : ∃ a xs, v = .ref a ∧ SqT K G a xs ∧ RpAll K G xs ds := by
  cases h with
  | tup h r => exact ⟨_, _, rfl, h, r⟩
theorem RpAll.len : ∀ {vs : List V} {ds : List D}, RpAll K G vs ds → vs.length = ds.length
  | _, _, .nil => rfl
  | _, _, .cons _ r => by rw [List.length_cons, List.length_cons, RpAll.len r]
theorem RpAll.get : ∀ {vs : List V} {ds : List D} {i : Nat} {d : D}, RpAll K G vs ds → ds[i]? = some d → ∃ v, vs[i]? = some v ∧ Rp K G v d
  | _, _, _, _, .nil, e => by simp at e
  | _, _, 0, _, .cons h _, e => by
    simp at e
    subst e
    exact ⟨_, rfl, h⟩
  | _, _, i + 1, _, .cons _ r, e => by
    obtain ⟨v, h1, h2⟩ := RpAll.get (i := i) r (by simpa using e)
    exact ⟨v, by simpa using h1, h2⟩
theorem RpAll.getV : ∀ {vs : List V} {ds : List D} {i : Nat} {v : V}, RpAll K G vs ds → vs[i]? = some v → ∃ d, ds[i]? = some d ∧ Rp K G v d
  | _, _, _, _, .nil, e => by simp at e
  | _, _, 0, _, .cons h _, e => by
    simp at e
    subst e
    exact ⟨_, rfl, h⟩
  | _, _, i + 1, _, .cons _ r, e => by
    obtain ⟨v, h1, h2⟩ := RpAll.getV (i := i) r (by simpa using e)
    exact ⟨v, by simpa using h1, h2⟩
theorem RpAll.append : ∀ {vs ws : List V} {ds es : List D}, RpAll K G vs ds → RpAll K G ws es → RpAll K G (vs ++ ws) (ds ++ es)
  | _, _, _, _, .nil, s => s
  | _, _, _, _, .cons h r, s => .cons h (RpAll.append r s)
theorem RpAll.take : ∀ {vs : List V} {ds : List D} (n : Nat), RpAll K G vs ds → RpAll K G (vs.take n) (ds.take n)
  | _, _, 0, _ => by
    rw [List.take_zero, List.take_zero]
    exact .nil
  | _, _, _ + 1, .nil => .nil
  | _, _, n + 1, .cons h r => .cons h (RpAll.take n r)
theorem RpAll.drop : ∀ {vs : List V} {ds : List D} (n : Nat), RpAll K G vs ds → RpAll K G (vs.drop n) (ds.drop n)
  | _, _, 0, r => r
  | _, _, _ + 1, .nil => .nil
  | _, _, n + 1, .cons _ r => RpAll.drop n r
theorem RpAll.ints : ∀ {vs : List V} {ns : List Int}, RpAll K G vs (ns.map D.int) → vs = ns.map V.int
  | _, [], .nil => rfl
  | _, n :: ns, .cons h r => by
    rw [List.map_cons, ← RpAll.ints r, Rp.int_inv h]
theorem RpAll.of_ints : ∀ (ns : List Int), RpAll K G (ns.map V.int) (ns.map D.int)
  | [] => .nil
  | n :: ns => .cons (.int n) (RpAll.of_ints ns)
theorem RpAll.bools : ∀ {vs : List V} {ns : List Bool}, RpAll K G vs (ns.map D.bool) → vs = ns.map V.bl
  | _, [], .nil => rfl
  | _, n :: ns, .cons h r => by
    rw [List.map_cons, ← RpAll.bools r, Rp.bl_inv h]
end
/-! ### what is owned: a tree of lists, at places of their own -/
inductive OT where
  | dat (d : D)
  | lst (os : List OT)
  | dk (kvs : List (Key × D))
  | dt (kvs : List (List Key × D))
def keyD : Key → D
  | .inl i => .int i
  | .inr x => .str x
/-- the entries of a dict that is owned -/
inductive RpE {κ : Type} (K : PySem.W.Frag) (G : Hp) : List (κ × V) → List (κ × D) → Prop
  | nil : RpE K G [] []
  | cons {k : κ} {v : V} {d : D} {r : List (κ × V)} {ds : List (κ × D)} : Rp K G v d → RpE K G r ds → RpE K G ((k, v) :: r) ((k, d) :: ds)
theorem RpE.ex {κ : Type} {K : PySem.W.Frag} {G G' : Hp} (e : Ex G G') {kvs : List (κ × V)} {ds : List (κ × D)} (h : RpE K G kvs ds) : RpE K G' kvs ds := by
  induction h with
  | nil => exact .nil
  | cons h _ ih => exact .cons (h.ex e) ih
theorem RpE.k {K : PySem.W.Frag} {G : Hp} {kvs : List (Key × V)} {ds : List (Key × D)} (h : RpE K G kvs ds) : RpK K G kvs (ds.map fun p => (keyD p.1, p.2)) := by
  induction h with
  | nil => exact .nil
  | @cons k v d r ds h _ ih => cases k <;> exact .cons h ih
theorem RpE.t {K : PySem.W.Frag} {G : Hp} {kvs : List (List Key × V)} {ds : List (List Key × D)} (h : RpE K G kvs ds) : RpT K G kvs (ds.map fun p => (D.tuple (p.1.map keyD), p.2)) := by
  induction h with
  | nil => exact .nil
  | @cons k v d r ds h _ ih =>
    have e : k.map keyD = k.map fun k => match k with | .inl i => D.int i | .inr x => D.str x := List.map_congr_left fun x _ => by cases x <;> rfl
    rw [List.map_cons]
    show RpT K G _ ((D.tuple (k.map keyD), d) :: _)
    rw [e]
    exact .cons h ih
mutual
inductive Own (K : PySem.W.Frag) (G H : Hp) : V → OT → List Addr → Prop
  | dat {v : V} {d : D} : Rp K G v d → Own K G H v (.dat d) []
  | lst {a : Addr} {vs : List V} {os : List OT} {A : List Addr} : H a = some (.lst vs) → OwnAll K G H vs os A → Own K G H (.ref a) (.lst os) (a :: A)
  | dk {a : Addr} {kvs : List (Key × V)} {ds : List (Key × D)} : H a = some (.dK kvs) → RpE K G kvs ds → Own K G H (.ref a) (.dk ds) [a]
  | dt {a : Addr} {kvs : List (List Key × V)} {ds : List (List Key × D)} : H a = some (.dT kvs) → RpE K G kvs ds → Own K G H (.ref a) (.dt ds) [a]
inductive OwnAll (K : PySem.W.Frag) (G H : Hp) : List V → List OT → List Addr → Prop
  | nil : OwnAll K G H [] [] []
  | cons {v : V} {vs : List V} {o : OT} {os : List OT} {A A' : List Addr} : Own K G H v o A → OwnAll K G H vs os A' → OwnAll K G H (v :: vs) (o :: os) (A ++ A')
end
mutual
/-- what is owned stays where its places and the data do -/
theorem Own.ex {K : PySem.W.Frag} {G G' H H' : Hp} (e : Ex G G') : ∀ {v : V} {o : OT} {A : List Addr}, Own K G H v o A → (∀ a ∈ A, ∀ u, H a = some u → H' a = some u) → Own K G' H' v o A
  | _, _, _, .dat h, _ => .dat (h.ex e)
  | _, _, _, .lst h r, k => .lst (k _ (List.mem_cons_self) _ h) (OwnAll.ex e r fun a m => k a (List.mem_cons_of_mem _ m))
  | _, _, _, .dk h r, k => .dk (k _ (List.mem_cons_self) _ h) (r.ex e)
  | _, _, _, .dt h r, k => .dt (k _ (List.mem_cons_self) _ h) (r.ex e)
theorem OwnAll.ex {K : PySem.W.Frag} {G G' H H' : Hp} (e : Ex G G') : ∀ {v : List V} {o : List OT} {A : List Addr}, OwnAll K G H v o A → (∀ a ∈ A, ∀ u, H a = some u → H' a = some u) → OwnAll K G' H' v o A
  | _, _, _, .nil, _ => .nil
  | _, _, _, .cons h r, k => .cons (Own.ex e h fun a m => k a (List.mem_append_left _ m)) (OwnAll.ex e r fun a m => k a (List.mem_append_right _ m))
end
mutual
def OT.toD : OT → D
  | .dat d => d
  | .lst os => .list (OT.toDs os)
  | .dk kvs => .dict (kvs.map fun p => (keyD p.1, p.2))
  | .dt kvs => .dict (kvs.map fun p => (D.tuple (p.1.map keyD), p.2))
def OT.toDs : List OT → List D
  | [] => []
  | o :: os => o.toD :: OT.toDs os
end
mutual
/-- it stands in the heap -/
theorem Own.there {K : PySem.W.Frag} {G H : Hp} : ∀ {v : V} {o : OT} {A : List Addr}, Own K G H v o A → ∀ a ∈ A, ∃ u, H a = some u
  | _, _, _, .dat _, _, m => nomatch m
  | _, _, _, .lst h r, a, m => by
    rcases List.mem_cons.mp m with rfl | m
    · exact ⟨_, h⟩
    · exact OwnAll.there r a m
  | _, _, _, .dk h r, a, m => by
    rw [List.mem_singleton.mp m]
    exact ⟨_, h⟩
  | _, _, _, .dt h r, a, m => by
    rw [List.mem_singleton.mp m]
    exact ⟨_, h⟩
theorem OwnAll.there {K : PySem.W.Frag} {G H : Hp} : ∀ {v : List V} {o : List OT} {A : List Addr}, OwnAll K G H v o A → ∀ a ∈ A, ∃ u, H a = some u
  | _, _, _, .nil, _, m => nomatch m
  | _, _, _, .cons h r, a, m => by
    rcases List.mem_append.mp m with m | m
    · exact Own.there h a m
    · exact OwnAll.there r a m
end
mutual
/-- owned things, made data -/
theorem Own.rp {K : PySem.W.Frag} {G G' H : Hp} (e : Ex G G') : ∀ {v : V} {o : OT} {A : List Addr}, Own K G H v o A → (∀ a ∈ A, ∀ u, H a = some u → G' a = some u) → Rp K G' v o.toD
  | _, _, _, .dat h, _ => by
    rw [OT.toD]
    exact h.ex e
  | _, _, _, .lst h r, k => by
    rw [OT.toD]
    exact .lst (Or.inl (k _ (List.mem_cons_self) _ h)) (OwnAll.rp e r fun a m => k a (List.mem_cons_of_mem _ m))
  | _, _, _, .dk h r, k => by
    rw [OT.toD]
    exact .dK (k _ (List.mem_cons_self) _ h) (r.ex e).k
  | _, _, _, .dt h r, k => by
    rw [OT.toD]
    exact .dT (k _ (List.mem_cons_self) _ h) (r.ex e).t
theorem OwnAll.rp {K : PySem.W.Frag} {G G' H : Hp} (e : Ex G G') : ∀ {v : List V} {o : List OT} {A : List Addr}, OwnAll K G H v o A → (∀ a ∈ A, ∀ u, H a = some u → G' a = some u) → RpAll K G' v (OT.toDs o)
  | _, _, _, .nil, _ => by
    rw [OT.toDs]
    exact .nil
  | _, _, _, .cons h r, k => by
    rw [OT.toDs]
    exact .cons (Own.rp e h fun a m => k a (List.mem_append_left _ m)) (OwnAll.rp e r fun a m => k a (List.mem_append_right _ m))
end
end DL

/-! DL2: environments -/
namespace DL
open PySem PySem.Spec L2

inductive Slot where
  | non
  | val (d : D)
  | own (l : Nat) (o : OT)
  | ali (j : Nat) (path : List Nat)

structure Base where
  H0 : Hp
  G0 : Hp
  Mo : Nat → List Addr
  m0 : Mo 0 = []
  pv : Nat → Option V
  rs : Exn → Prop

structure Anc (B : Base) (G H : Hp) : Prop where
  keep : ∀ a o, (∀ l, a ∉ B.Mo l) → B.H0 a = some o → H a = some o
  there : ∀ a l, a ∈ B.Mo l → H a ≠ none
  gsub : Ex B.G0 G
  gnew : ∀ a, B.H0 a ≠ none → B.G0 a = none → G a = none
  sub : Ex G H
theorem Anc.fresh {B : Base} {G H : Hp} (h : Anc B G H) {p : Addr} (hp : H p = none) : B.H0 p = none := by
  cases e : B.H0 p with
  | none => rfl
  | some o =>
    by_cases hm : ∃ l, p ∈ B.Mo l
    · obtain ⟨l, hm⟩ := hm
      exact absurd hp (h.there p l hm)
    · rw [h.keep p o (fun l m => hm ⟨l, m⟩) e] at hp
      cases hp
theorem Anc.new {B : Base} {G H : Hp} (h : Anc B G H) {p : Addr} (hp : H p = none) (o : HO) : Anc B (upd G p o) (upd H p o) := by
  have h0 := h.fresh hp
  refine ⟨fun a u hm e => ?_, fun a l hm => ?_, h.gsub.trans (Ex.new (h.sub.back hp)), fun a e1 e2 => ?_, h.sub.upd p o⟩
  · rw [upd_ne (ne_of_none (h.keep a u hm e) hp)]
    exact h.keep a u hm e
  · by_cases ha : a = p
    · subst ha
      rw [upd_same]
      exact fun z => nomatch z
    · rw [upd_ne ha]
      exact h.there a l hm
  · have ha : a ≠ p := fun z => by
      subst z
      exact e1 h0
    rw [upd_ne ha]
    exact h.gnew a e1 e2
/-- a change of what is nobody's data: the caller's own argument, or new here -/
theorem Anc.put {B : Base} {G H : Hp} (h : Anc B G H) {p : Addr} (hG : G p = none) (hp : (∃ l, p ∈ B.Mo l) ∨ B.H0 p = none) (o : HO) : Anc B G (upd H p o) := by
  refine ⟨fun a u hm e => ?_, fun a l hm => ?_, h.gsub, h.gnew, fun a u e => ?_⟩
  · have ha : a ≠ p := fun z => by
      subst z
      rcases hp with ⟨l, hp⟩ | hp
      · exact hm l hp
      · rw [hp] at e
        cases e
    rw [upd_ne ha]
    exact h.keep a u hm e
  · by_cases ha : a = p
    · subst ha
      rw [upd_same]
      exact fun z => nomatch z
    · rw [upd_ne ha]
      exact h.there a l hm
  · rw [upd_ne (ne_of_none e hG)]
    exact h.sub a u e
/-- what is new here is made data -/
theorem Anc.frz {B : Base} {G H : Hp} (h : Anc B G H) {A : List Addr} (hA : ∀ a ∈ A, G a = none ∧ B.H0 a = none) : Anc B (fun a => if a ∈ A then H a else G a) H := by
  refine ⟨h.keep, h.there, fun a u e => ?_, fun a e1 e2 => ?_, fun a u e => ?_⟩
  · by_cases ha : a ∈ A
    · have z := (hA a ha).1.symm.trans (h.gsub a u e)
      cases z
    · show (if a ∈ A then H a else G a) = _
      rw [if_neg ha]
      exact h.gsub a u e
  · show (if a ∈ A then H a else G a) = _
    by_cases ha : a ∈ A
    · exact absurd (hA a ha).2 e1
    · rw [if_neg ha]
      exact h.gnew a e1 e2
  · have e : (if a ∈ A then H a else G a) = some u := e
    by_cases ha : a ∈ A
    · rw [if_pos ha] at e
      exact e
    · rw [if_neg ha] at e
      exact h.sub a u e

/-- a value and its slot, with the places it owns -/
inductive Cell (K : PySem.W.Frag) (B : Base) (G H : Hp) : Option V → Slot → List Addr → Prop
  | non {x : Option V} : Cell K B G H x .non []
  | val {v : V} {d : D} : Rp K G v d → Cell K B G H (some v) (.val d) []
  | own {v : V} {l : Nat} {o : OT} {A : List Addr} : Own K G H v o A → (∀ a ∈ A, a ∈ B.Mo l ∨ B.H0 a = none) → (l = 0 ∨ B.pv l = some v) → Cell K B G H (some v) (.own l o) A
  | ali {x : Option V} {j : Nat} {p : List Nat} : Cell K B G H x (.ali j p) []
inductive Cells (K : PySem.W.Frag) (B : Base) (G H : Hp) : List (Option V) → List Slot → List Addr → Prop
  | nil : Cells K B G H [] [] []
  | cons {x : Option V} {s : Slot} {A : List Addr} {σ : St} {ρ : List Slot} {A' : List Addr} : Cell K B G H x s A → Cells K B G H σ ρ A' → Cells K B G H (x :: σ) (s :: ρ) (A ++ A')
section
variable {K : PySem.W.Frag} {B : Base} {G G' H H' : Hp}
theorem Cell.ex {x : Option V} {s : Slot} {A : List Addr} (h : Cell K B G H x s A) (e : Ex G G') (k : ∀ a ∈ A, ∀ u, H a = some u → H' a = some u) : Cell K B G' H' x s A := by
  cases h with
  | non => exact .non
  | val h => exact .val (h.ex e)
  | own h l z => exact .own (h.ex e k) l z
  | ali => exact .ali
theorem Cells.ex {σ : St} {ρ : List Slot} {A : List Addr} (h : Cells K B G H σ ρ A) (e : Ex G G') (k : ∀ a ∈ A, ∀ u, H a = some u → H' a = some u) : Cells K B G' H' σ ρ A := by
  induction h with
  | nil => exact .nil
  | cons c r ih => exact .cons (c.ex e fun a m => k a (List.mem_append_left _ m)) (ih fun a m => k a (List.mem_append_right _ m))
theorem Cell.there {x : Option V} {s : Slot} {A : List Addr} (h : Cell K B G H x s A) : ∀ a ∈ A, ∃ u, H a = some u := by
  cases h with
  | non => exact fun _ m => nomatch m
  | val h => exact fun _ m => nomatch m
  | own h l _ => exact h.there
  | ali => exact fun _ m => nomatch m
theorem Cells.there {σ : St} {ρ : List Slot} {A : List Addr} (h : Cells K B G H σ ρ A) : ∀ a ∈ A, ∃ u, H a = some u := by
  induction h with
  | nil => exact fun _ m => nomatch m
  | cons c r ih =>
    intro a m
    rcases List.mem_append.mp m with m | m
    · exact c.there a m
    · exact ih a m
theorem Cells.len {σ : St} {ρ : List Slot} {A : List Addr} (h : Cells K B G H σ ρ A) : σ.length = ρ.length := by
  induction h with
  | nil => rfl
  | cons c r ih => rw [List.length_cons, List.length_cons, ih]
/-- one cell of them, the rest apart -/
theorem Cells.get {σ : St} {ρ : List Slot} {A : List Addr} (h : Cells K B G H σ ρ A) : ∀ {i : Nat} {s : Slot}, ρ[i]? = some s → ∃ x A1, σ[i]? = some x ∧ Cell K B G H x s A1 ∧ A1.Sublist A := by
  induction h with
  | nil => exact fun e => nomatch e
  | cons c r ih =>
    intro i s e
    cases i with
    | zero =>
      simp at e
      subst e
      exact ⟨_, _, rfl, c, List.sublist_append_left _ _⟩
    | succ i =>
      obtain ⟨x, A1, h1, h2, h3⟩ := ih (i := i) (s := s) (by simpa using e)
      exact ⟨x, A1, by simpa using h1, h2, h3.trans (List.sublist_append_right _ _)⟩
/-- a cell put in the place of one of them -/
theorem Cells.set {σ : St} {ρ : List Slot} {A : List Addr} (h : Cells K B G H σ ρ A) {x : Option V} {s : Slot} {A1 : List Addr} (c : Cell K B G H x s A1) : ∀ {i : Nat}, i < ρ.length → ∃ A' C, Cells K B G H (σ.set i x) (ρ.set i s) A' ∧ A'.Perm (A1 ++ C) ∧ C.Sublist A := by
  induction h with
  | nil => exact fun e => absurd e (Nat.not_lt_zero _)
  | @cons x0 s0 A0 σ ρ A' c0 r ih =>
    intro i hi
    cases i with
    | zero => exact ⟨A1 ++ A', A', .cons c r, List.Perm.refl _, List.sublist_append_right _ _⟩
    | succ i =>
      obtain ⟨A2, C, h1, h2, h3⟩ := ih (i := i) (by simpa using hi)
      refine ⟨A0 ++ A2, A0 ++ C, .cons c0 h1, ?_, h3.append_left _⟩
      have e1 : (A0 ++ A2).Perm (A0 ++ (A1 ++ C)) := h2.append_left _
      have e2 : (A0 ++ (A1 ++ C)).Perm (A1 ++ (A0 ++ C)) := by
        rw [← List.append_assoc, ← List.append_assoc]
        exact List.perm_append_comm.append_right C
      exact e1.trans e2
/-- two cells: apart -/
theorem Cells.swap2 {σ : St} {ρ : List Slot} {A : List Addr} {x y : Option V} {s t : Slot} (h : Cells K B G H (x :: y :: σ) (s :: t :: ρ) A) : ∃ A', Cells K B G H (y :: x :: σ) (t :: s :: ρ) A' ∧ A'.Perm A := by
  cases h with
  | cons c r =>
    cases r with
    | cons d r =>
      refine ⟨_, .cons d (.cons c r), ?_⟩
      rw [← List.append_assoc, ← List.append_assoc]
      exact List.perm_append_comm.append_right _
end
/-- slots forgotten: each is as it was or nothing is known -/
def forgot : List Slot → List Bool → List Slot
  | [], _ => []
  | s :: ρ, [] => s :: ρ
  | s :: ρ, b :: bs => (if b then s else .non) :: forgot ρ bs
theorem Cells.forgot {K : PySem.W.Frag} {B : Base} {G H : Hp} : ∀ {σ : St} {ρ : List Slot} {A : List Addr} (bs : List Bool), Cells K B G H σ ρ A → ∃ A', Cells K B G H σ (forgot ρ bs) A' ∧ A'.Sublist A
  | _, _, _, _, .nil => ⟨[], .nil, List.Sublist.refl _⟩
  | _, _, _, [], .cons c r => ⟨_, .cons c r, List.Sublist.refl _⟩
  | _, _, _, true :: bs, .cons c r => by
    obtain ⟨A', h1, h2⟩ := Cells.forgot bs r
    exact ⟨_, .cons c h1, h2.append_left _⟩
  | _, _, _, false :: bs, .cons c r => by
    obtain ⟨A', h1, h2⟩ := Cells.forgot bs r
    exact ⟨_, .cons (s := .non) .non h1, h2.trans (List.sublist_append_right _ _)⟩
theorem forgot_len : ∀ (ρ : List Slot) (bs : List Bool), (forgot ρ bs).length = ρ.length
  | [], _ => rfl
  | _ :: _, [] => rfl
  | _ :: ρ, b :: bs => by rw [forgot, List.length_cons, List.length_cons, forgot_len ρ bs]
theorem forgot_get : ∀ (ρ : List Slot) (bs : List Bool) (i : Nat) (s : Slot), (forgot ρ bs)[i]? = some s → s = .non ∨ ρ[i]? = some s
  | [], _, _, _, e => nomatch e
  | _ :: _, [], _, _, e => .inr e
  | s0 :: ρ, b :: bs, 0, s, e => by
    cases b with
    | true => exact .inr e
    | false =>
      simp [forgot] at e
      exact .inl e.symm
  | s0 :: ρ, b :: bs, i + 1, s, e => by
    have e : (forgot ρ bs)[i]? = some s := by simpa [forgot] using e
    rcases forgot_get ρ bs i s e with h | h
    · exact .inl h
    · exact .inr (by simpa using h)

/-- going down from a value along places of lists -/
def At (H : Hp) : V → List Nat → V → Prop
  | v, [], w => v = w
  | v, k :: ks, w => ∃ a vs u, v = .ref a ∧ H a = some (.lst vs) ∧ vs[k]? = some u ∧ At H u ks w
theorem At.ex {H H' : Hp} (e : Ex H H') : ∀ {p : List Nat} {v w : V}, At H v p w → At H' v p w
  | [], _, _, h => h
  | _ :: _, _, _, ⟨a, vs, u, h1, h2, h3, h4⟩ => ⟨a, vs, u, h1, e _ _ h2, h3, At.ex e h4⟩

structure En (K : PySem.W.Frag) (B : Base) (G H : Hp) (σ : St) (ρ : List Slot) (ex : List (V × Slot)) : Prop where
  anc : Anc B G H
  own : ∃ A, Cells K B G H (ex.map (fun p => some p.1) ++ σ) (ex.map (·.2) ++ ρ) A ∧ A.Nodup ∧ ∀ a ∈ A, G a = none
  len : σ.length = ρ.length
  ali : ∀ (i j : Nat) (p : List Nat), ρ[i]? = some (Slot.ali j p) → ∃ v w, σ[i]? = some (some v) ∧ σ[j]? = some (some w) ∧ At H w p v
def noAli (j : Nat) : List Slot → Bool
  | [] => true
  | .ali i _ :: r => i != j && noAli j r
  | _ :: r => noAli j r
theorem noAli_get {j : Nat} : ∀ {ρ : List Slot}, noAli j ρ = true → ∀ {i k : Nat} {p : List Nat}, ρ[i]? = some (.ali k p) → k ≠ j
  | [], _, _, _, _, e => nomatch e
  | s :: ρ, h, 0, k, p, e => by
    simp at e
    subst e
    simp [noAli] at h
    exact h.1
  | s :: ρ, h, i + 1, k, p, e => by
    have h' : noAli j ρ = true := by
      cases s <;> simp [noAli] at h
      · exact h
      · exact h
      · exact h
      · exact h.2
    exact noAli_get h' (i := i) (by simpa using e)
section
variable {K : PySem.W.Frag} {B : Base} {G G' H H' : Hp} {σ : St} {ρ : List Slot} {ex : List (V × Slot)}
theorem En.fresh (E : En K B G H σ ρ ex) {p : Addr} (hp : H p = none) : B.H0 p = none := E.anc.fresh hp
theorem En.sub (E : En K B G H σ ρ ex) : Ex G H := E.anc.sub
theorem En.get (E : En K B G H σ ρ ex) {i : Nat} {d : D} (h : ρ[i]? = some (.val d)) : ∃ v, σ[i]? = some (some v) ∧ Rp K G v d := by
  obtain ⟨A, c, _, _⟩ := E.own
  obtain ⟨x, A1, h1, h2, _⟩ := c.get (i := ex.length + i) (s := .val d) (by
    rw [List.getElem?_append_right (by simp), List.length_map]
    simpa using h)
  rw [List.getElem?_append_right (by simp), List.length_map] at h1
  cases h2 with
  | val r => exact ⟨_, by simpa using h1, r⟩
/-- the top temp -/
theorem En.top {v : V} {d : D} (E : En K B G H σ ρ ((v, .val d) :: ex)) : Rp K G v d := by
  obtain ⟨A, c, _, _⟩ := E.own
  cases c with
  | cons c r =>
    cases c with
    | val h => exact h
theorem En.pop {x : V × Slot} (E : En K B G H σ ρ (x :: ex)) : En K B G H σ ρ ex := by
  obtain ⟨A, c, n, f⟩ := E.own
  cases c with
  | cons c r => exact ⟨E.anc, ⟨_, r, (List.nodup_append.mp n).2.1, fun a m => f a (List.mem_append_right _ m)⟩, E.len, E.ali⟩
theorem En.push {v : V} {d : D} (E : En K B G H σ ρ ex) (h : Rp K G v d) : En K B G H σ ρ ((v, .val d) :: ex) := by
  obtain ⟨A, c, n, f⟩ := E.own
  exact ⟨E.anc, ⟨[] ++ A, .cons (.val h) c, n, f⟩, E.len, E.ali⟩
/-- temps of data may come and go -/
theorem En.swap {x y : V × Slot} (E : En K B G H σ ρ (x :: y :: ex)) : En K B G H σ ρ (y :: x :: ex) := by
  obtain ⟨A, c, n, f⟩ := E.own
  obtain ⟨A', c', p⟩ := c.swap2
  exact ⟨E.anc, ⟨A', c', p.nodup_iff.mpr n, fun a m => f a (p.mem_iff.mp m)⟩, E.len, E.ali⟩
/-- a new thing that never changes -/
theorem En.new (E : En K B G H σ ρ ex) {p : Addr} (hp : H p = none) (o : HO) : En K B (upd G p o) (upd H p o) σ ρ ex := by
  obtain ⟨A, c, n, f⟩ := E.own
  have hG := E.sub.back hp
  refine ⟨E.anc.new hp o, ⟨A, c.ex (Ex.new hG) fun a m u e => Ex.new hp a u e, n, fun a m => ?_⟩, E.len, fun i j q e => ?_⟩
  · obtain ⟨u, hu⟩ := c.there a m
    rw [upd_ne (ne_of_none hu hp)]
    exact f a m
  · obtain ⟨v, w, h1, h2, h3⟩ := E.ali i j q e
    exact ⟨v, w, h1, h2, h3.ex (Ex.new hp)⟩
/-- a new list of data, owned -/
theorem En.newL (E : En K B G H σ ρ ex) {p : Addr} (hp : H p = none) {vs : List V} {ds : List D} (r : RpAll K G vs ds) : En K B G (upd H p (.lst vs)) σ ρ ((.ref p, .own 0 (.lst (ds.map OT.dat))) :: ex) := by
  obtain ⟨A, c, n, f⟩ := E.own
  have hG := E.sub.back hp
  have h0 := E.fresh hp
  have ra : ∀ {vs : List V} {ds : List D}, RpAll K G vs ds → OwnAll K G (upd H p (.lst vs)) vs (ds.map OT.dat) [] := fun {vs ds} r => by
    have gen : ∀ (H' : Hp) {vs : List V} {ds : List D}, RpAll K G vs ds → OwnAll K G H' vs (ds.map OT.dat) [] := fun H' {vs ds} r => by
      induction ds generalizing vs with
      | nil =>
        cases r
        exact .nil
      | cons d ds ih =>
        cases r with
        | cons h r => exact .cons (A := []) (.dat h) (ih r)
    exact gen _ r
  have hn : p ∉ A := fun m => by
    obtain ⟨u, hu⟩ := c.there p m
    rw [hu] at hp
    cases hp
  refine ⟨E.anc.put hG (.inr h0) _, ⟨p :: ([] ++ A), .cons (A := [p]) (.own (.lst upd_same (ra r)) (fun a m => by
      rw [List.mem_singleton.mp m]
      exact .inr h0) (.inl rfl)) (c.ex (Ex.refl G) fun a m u e => by
      rw [upd_ne (ne_of_none e hp)]
      exact e), ?_, fun a m => ?_⟩, E.len, fun i j q e => ?_⟩
  · exact List.nodup_cons.mpr ⟨hn, n⟩
  · rcases List.mem_cons.mp m with rfl | m
    · exact hG
    · exact f a m
  · obtain ⟨v, w, h1, h2, h3⟩ := E.ali i j q e
    exact ⟨v, w, h1, h2, h3.ex (Ex.new hp)⟩
/-- what is owned here becomes data -/
theorem En.frz {v : V} {o : OT} (E : En K B G H σ ρ ((v, .own 0 o) :: ex)) : ∃ G', Ex G G' ∧ En K B G' H σ ρ ((v, .val o.toD) :: ex) := by
  obtain ⟨A, c, n, f⟩ := E.own
  cases c with
  | @cons _ _ A1 _ _ A2 c r =>
    cases c with
    | own h l _ =>
      have n1 := List.nodup_append.mp n
      have hA : ∀ a ∈ A1, G a = none ∧ B.H0 a = none := fun a m => ⟨f a (List.mem_append_left _ m), (l a m).resolve_left (by rw [B.m0]; exact fun z => nomatch z)⟩
      have eG : Ex G fun a => if a ∈ A1 then H a else G a := fun a u e => by
        show (if a ∈ A1 then H a else G a) = _
        by_cases ha : a ∈ A1
        · rw [(hA a ha).1] at e
          cases e
        · rw [if_neg ha]
          exact e
      refine ⟨_, eG, E.anc.frz hA, ⟨[] ++ A2, .cons (.val (h.rp eG fun a m u e => by
          show (if a ∈ A1 then H a else G a) = _
          rw [if_pos m]
          exact e)) (r.ex eG fun _ _ _ e => e), n1.2.1, fun a m => ?_⟩, E.len, E.ali⟩
      have ha : a ∉ A1 := fun z => n1.2.2 a z a m rfl
      show (if a ∈ A1 then H a else G a) = _
      rw [if_neg ha]
      exact f a (List.mem_append_right _ m)
/-- the top temp goes into slot i -/
theorem En.set {v : V} {s : Slot} (E : En K B G H σ ρ [(v, s)]) {i : Nat} (hi : i < ρ.length) (hs : ∀ j p, s ≠ .ali j p) (ha : noAli i ρ = true) : En K B G H (σ.set i (some v)) (ρ.set i s) [] := by
  obtain ⟨A, c, n, f⟩ := E.own
  cases c with
  | @cons _ _ A1 _ _ A2 c r =>
    obtain ⟨A', C, h1, h2, h3⟩ := Cells.set r c hi
    have sub : (A1 ++ C).Sublist (A1 ++ A2) := h3.append_left A1
    refine ⟨E.anc, ⟨A', h1, h2.nodup_iff.mpr (sub.nodup n), fun a m => f a (sub.subset (h2.mem_iff.mp m))⟩, by rw [List.length_set, List.length_set]; exact E.len, fun k j p e => ?_⟩
    by_cases hk : i = k
    · subst hk
      rw [List.getElem?_set_self hi] at e
      cases e
      exact absurd rfl (hs j p)
    · rw [List.getElem?_set_ne hk] at e
      obtain ⟨v', w, q1, q2, q3⟩ := E.ali k j p e
      have hj := noAli_get ha e
      exact ⟨v', w, by rw [List.getElem?_set_ne hk]; exact q1, by rw [List.getElem?_set_ne (Ne.symm hj)]; exact q2, q3⟩
theorem En.forgot (E : En K B G H σ ρ []) (bs : List Bool) : En K B G H σ (forgot ρ bs) [] := by
  obtain ⟨A, c, n, f⟩ := E.own
  obtain ⟨A', h1, h2⟩ := Cells.forgot bs c
  refine ⟨E.anc, ⟨A', h1, h2.nodup n, fun a m => f a (h2.subset m)⟩, by rw [forgot_len]; exact E.len, fun i j p e => ?_⟩
  rcases forgot_get ρ bs i _ e with z | z
  · cases z
  · exact E.ali i j p z
end

/-! ### cells taken out and put back -/
section
variable {K : PySem.W.Frag} {B : Base} {G G' H H' : Hp}
theorem Cells.take1 {σ : L2.St} {ρ : List Slot} {A : List Addr} (h : Cells K B G H σ ρ A) : ∀ {i : Nat} {l : Nat} {o : OT}, ρ[i]? = some (.own l o) →
    ∃ v A1 A2, σ[i]? = some (some v) ∧ Own K G H v o A1 ∧ ((∀ a ∈ A1, a ∈ B.Mo l ∨ B.H0 a = none) ∧ (l = 0 ∨ B.pv l = some v)) ∧ Cells K B G H σ (ρ.set i .non) A2 ∧ A.Perm (A1 ++ A2) := by
  induction h with
  | nil => exact fun e => nomatch e
  | @cons x0 s0 A0 σ ρ A' c0 r ih =>
    intro i l o e
    cases i with
    | zero =>
      simp at e
      subst e
      cases c0 with
      | own hO hl hv => exact ⟨_, A0, [] ++ A', rfl, hO, ⟨hl, hv⟩, .cons (.non) r, List.Perm.refl _⟩
    | succ i =>
      obtain ⟨v, A1, A2, h1, h2, h3, h4, h5⟩ := ih (i := i) (l := l) (o := o) (by simpa using e)
      refine ⟨v, A1, A0 ++ A2, by simpa using h1, h2, h3, .cons c0 h4, ?_⟩
      have e1 : (A0 ++ A').Perm (A0 ++ (A1 ++ A2)) := h5.append_left _
      have e2 : (A0 ++ (A1 ++ A2)).Perm (A1 ++ (A0 ++ A2)) := by
        rw [← List.append_assoc, ← List.append_assoc]
        exact List.perm_append_comm.append_right A2
      exact e1.trans e2
theorem Cells.put1 {σ : L2.St} {ρ : List Slot} {A : List Addr} (h : Cells K B G H σ ρ A) : ∀ {i : Nat} {l : Nat} {o : OT} {v : V} {A1 : List Addr}, ρ[i]? = some .non → σ[i]? = some (some v) → Own K G H v o A1 → ((∀ a ∈ A1, a ∈ B.Mo l ∨ B.H0 a = none) ∧ (l = 0 ∨ B.pv l = some v)) →
    ∃ A2, Cells K B G H σ (ρ.set i (.own l o)) A2 ∧ A2.Perm (A1 ++ A) := by
  induction h with
  | nil => exact fun e => nomatch e
  | @cons x0 s0 A0 σ ρ A' c0 r ih =>
    intro i l o v A1 e e2 hO hl
    cases i with
    | zero =>
      simp at e
      subst e
      simp at e2
      subst e2
      cases c0
      exact ⟨A1 ++ A', .cons (.own hO hl.1 hl.2) r, by
        rw [List.nil_append]⟩
    | succ i =>
      obtain ⟨A2, h4, h5⟩ := ih (i := i) (l := l) (by simpa using e) (by simpa using e2) hO hl
      refine ⟨A0 ++ A2, .cons c0 h4, ?_⟩
      have e1 : (A0 ++ A2).Perm (A0 ++ (A1 ++ A')) := h5.append_left _
      have e2 : (A0 ++ (A1 ++ A')).Perm (A1 ++ (A0 ++ A')) := by
        rw [← List.append_assoc, ← List.append_assoc]
        exact List.perm_append_comm.append_right A'
      exact e1.trans e2
end
end DL

/-! DL3: the judgements; expressions -/
namespace DL
open PySem PySem.Spec L2

section
variable {X : Cx} {B : Base}
theorem PE_imp {e : Expr} {t t' : TE} (h : PE X e t) (k : ∀ σ H Q, t' σ H Q → t σ H Q) : PE X e t' := ⟨fun pins s σ H Q I q => h.run pins s σ H Q I (k σ H Q q)⟩
theorem PT_imp {e : Expr} {t t' : TT} (h : PT X e t) (k : ∀ σ H Q, t' σ H Q → t σ H Q) : PT X e t' := ⟨fun pins s σ H Q I q => h.run pins s σ H Q I (k σ H Q q)⟩
theorem PW_imp {e : Expr} {t t' : TT} (h : PW X e t) (k : ∀ σ H Q, t' σ H Q → t σ H Q) : PW X e t' := ⟨fun wh pins s σ H Q I q => h.run wh pins s σ H Q I (k σ H Q q)⟩
theorem PA_imp {e : List Expr} {t t' : TA} (h : PA X e t) (k : ∀ σ H Q, t' σ H Q → t σ H Q) : PA X e t' := ⟨fun pos pins s σ H Q I q => h.run pos pins s σ H Q I (k σ H Q q)⟩
theorem PS_imp {e : Stmt} {t t' : TS} (h : PS X e t) (k : ∀ D σ H, t' D σ H → t D σ H) : PS X e t' := ⟨fun pins s σ H D I q => h.run pins s σ H D I (k D σ H q)⟩
theorem PSs_imp {e : List Stmt} {t t' : TS} (h : PSs X e t) (k : ∀ D σ H, t' D σ H → t D σ H) : PSs X e t' := ⟨fun pins s σ H D I q => h.run pins s σ H D I (k D σ H q)⟩
end

/-- an expression: its mirror, the slot of its value, the slots behind it -/
def tJ (K : PySem.W.Frag) (B : Base) (ρ : List Slot) {β : Type} (m : R β) (sl : β → Slot) (ρ' : β → List Slot) : TE := fun σ H Q =>
  ∃ G, En K B G H σ ρ [] ∧ m.post (fun b => ∀ v G' H', Ex G G' → En K B G' H' σ (ρ' b) [(v, sl b)] → Q v H') B.rs
def JE (X : Cx) (B : Base) (ρ : List Slot) (e : Expr) {β : Type} (m : R β) (sl : β → Slot) (ρ' : β → List Slot) : Prop := PE X e (tJ X.K B ρ m sl ρ')
/-- one that changes nothing, fails never, and gives data -/
abbrev JP (X : Cx) (B : Base) (ρ : List Slot) (e : Expr) (d : D) : Prop := JE X B ρ e (.ok ()) (fun _ => .val d) (fun _ => ρ)
def tJT (K : PySem.W.Frag) (B : Base) (ρ : List Slot) {β : Type} (m : R β) (bn : β → Bool) (ρ' : β → List Slot) : TT := fun σ H Q =>
  ∃ G, En K B G H σ ρ [] ∧ m.post (fun b => ∀ G' H', Ex G G' → En K B G' H' σ (ρ' b) [] → Q (bn b) H') B.rs
def JT (X : Cx) (B : Base) (ρ : List Slot) (e : Expr) {β : Type} (m : R β) (bn : β → Bool) (ρ' : β → List Slot) : Prop := PT X e (tJT X.K B ρ m bn ρ')
def JW (X : Cx) (B : Base) (ρ : List Slot) (e : Expr) {β : Type} (m : R β) (bn : β → Bool) (ρ' : β → List Slot) : Prop := PW X e (tJT X.K B ρ m bn ρ')
abbrev TP0 (X : Cx) (B : Base) (ρ : List Slot) (e : Expr) (b : Bool) : Prop := JT X B ρ e (.ok ()) (fun _ => b) (fun _ => ρ)
/-- arguments: data, or an owned slot -/
inductive Ar where
  | val (d : D)
  | slot (i : Nat)
inductive ArOk (K : PySem.W.Frag) (G : Hp) (σ : L2.St) : List V → List Ar → Prop
  | nil : ArOk K G σ [] []
  | val {v : V} {d : D} {vs : List V} {as : List Ar} : Rp K G v d → ArOk K G σ vs as → ArOk K G σ (v :: vs) (.val d :: as)
  | slot {v : V} {i : Nat} {vs : List V} {as : List Ar} : σ[i]? = some (some v) → ArOk K G σ vs as → ArOk K G σ (v :: vs) (.slot i :: as)
theorem ArOk.ex {K : PySem.W.Frag} {G G' : Hp} {σ : L2.St} {vs : List V} {as : List Ar} (h : ArOk K G σ vs as) (e : Ex G G') : ArOk K G' σ vs as := by
  induction h with
  | nil => exact .nil
  | val h _ ih => exact .val (h.ex e) ih
  | slot h _ ih => exact .slot h ih
def tJA (K : PySem.W.Frag) (B : Base) (ρ : List Slot) {β : Type} (m : R β) (as : β → List Ar) (ρ' : β → List Slot) : TA := fun σ H Q =>
  ∃ G, En K B G H σ ρ [] ∧ m.post (fun b => ∀ vs G' H', Ex G G' → En K B G' H' σ (ρ' b) [] → ArOk K G' σ vs (as b) → Q vs H') B.rs
def JA (X : Cx) (B : Base) (ρ : List Slot) (es : List Expr) {β : Type} (m : R β) (as : β → List Ar) (ρ' : β → List Slot) : Prop := PA X es (tJA X.K B ρ m as ρ')

section
variable {X : Cx} {B : Base} {ρ : List Slot} {a b e : Expr} {pos : Pos}
theorem post_ok {α : Type} {x : α} {φ : α → Prop} {ψ : Exn → Prop} : (R.ok x).post φ ψ ↔ φ x := Iff.rfl

/-! ### names, constants -/
theorem jp_of {t : TE} {d : D} (h : PE X e t) (k : ∀ σ G H Q, En X.K B G H σ ρ [] → (∀ v G' H', Ex G G' → En X.K B G' H' σ ρ [(v, .val d)] → Q v H') → t σ H Q) : JP X B ρ e d :=
  PE_imp h fun σ H Q ⟨G, E, q⟩ => k σ G H Q E q
theorem jp_var (i : Nat) {x : Str} {d : D} (h : ρ[i]? = some (.val d) := by rfl) (hN : X.N[i]? = some x := by rfl) (hv : Vis X.env.scope x := by first | exact Or.inl rfl | exact Or.inr (Or.inl rfl) | exact Or.inr (Or.inr rfl))
    (hd : (x == ("__debug__" : Str)) = false := by decide) (hcd : (x == ("__classdict__" : Str)) = false := by decide) : JP X B ρ (.Name x pos) d :=
  jp_of (pv i hN hv hd hcd) fun σ G H Q E q => by
    obtain ⟨v, h1, h2⟩ := E.get h
    exact ⟨v, h1, q v G H (Ex.refl G) (E.push h2)⟩
theorem jp_int {i : Int} {j : Nat} : JP X B ρ (.Constant (.int i) j pos) (.int i) := jp_of pe_int fun σ G H Q E q => q _ G H (Ex.refl G) (E.push (.int i))
theorem jp_bl {b : Bool} {j : Nat} : JP X B ρ (.Constant (.bool b) j pos) (.bool b) := jp_of pe_bl fun σ G H Q E q => q _ G H (Ex.refl G) (E.push (.bl b))
theorem jp_non {j : Nat} : JP X B ρ (.Constant .none j pos) .none := jp_of pe_non fun σ G H Q E q => q _ G H (Ex.refl G) (E.push .non)
theorem jp_str {x : Str} {j : Nat} : JP X B ρ (.Constant (.str x) j pos) (.str x) := jp_of pe_str fun σ G H Q E q => q _ G H (Ex.refl G) (E.push (.str x))
/-- the result of an own expression, as data -/
theorem je_frz {β : Type} {m : R β} {o : β → OT} {ρ' : β → List Slot} (h : JE X B ρ e m (fun b => .own 0 (o b)) ρ') : JE X B ρ e m (fun b => .val (o b).toD) ρ' :=
  PE_imp h fun σ H Q ⟨G, E, q⟩ => ⟨G, E, R.post_mono q fun b k v G' H' x E' => by
    obtain ⟨G2, x2, E2⟩ := E'.frz
    exact k v G2 H' (x.trans x2) E2⟩
/-- the same mirror by another name -/
theorem je_eq {β : Type} {m m' : R β} {sl : β → Slot} {ρ' : β → List Slot} (h : JE X B ρ e m sl ρ') (k : m' = m) : JE X B ρ e m' sl ρ' := by
  rw [k]
  exact h

/-! ### operators by data -/
/-- what a two-place operation makes of data -/
def OpD (K : PySem.W.Frag) (B : Base) (r : R2) (x y : D) {γ : Type} (mr : R γ) (s : γ → Slot) : Prop :=
  ∀ G H σ ρ vx vy Q, En K B G H σ ρ [] → Rp K G vx x → Rp K G vy y → mr.post (fun z => ∀ v G' H', Ex G G' → En K B G' H' σ ρ [(v, s z)] → Q v H') B.rs → r vx vy H Q
theorem od_val {K : PySem.W.Frag} {r : R2} {x y z : D} {c : Prop} [Decidable c] {w : V} (h : c → ∀ G H vx vy Q, Ex G H → Rp K G vx x → Rp K G vy y → Q w H → r vx vy H Q) (hw : ∀ G, Rp K G w z) : OpD K B r x y (R.guard c) (fun _ => .val z) :=
  fun G H σ ρ vx vy Q E hx hy q => by
    obtain ⟨hc, q⟩ := R.post_guard q
    exact h hc G H vx vy Q E.sub hx hy (q w G H (Ex.refl G) (E.push (hw G)))
theorem od_val0 {K : PySem.W.Frag} {r : R2} {x y z : D} {w : V} (h : ∀ G H vx vy Q, Ex G H → Rp K G vx x → Rp K G vy y → Q w H → r vx vy H Q) (hw : ∀ G, Rp K G w z) : OpD K B r x y (.ok ()) (fun _ => .val z) :=
  fun G H σ ρ vx vy Q E hx hy q => h G H vx vy Q E.sub hx hy (q w G H (Ex.refl G) (E.push (hw G)))
def op2 {α β γ : Type} (ma : R α) (mb : α → R β) (mr : α → β → R γ) : R (α × β × γ) := ma.bind fun x => (mb x).bind fun y => (mr x y).bind fun z => .ok (x, y, z)
theorem je_op2 {r : R2} (ht : ∀ ta tb, PE X a ta → PE X b tb → PE X e (tOp r ta tb)) {α β γ : Type} {ma : R α} {mb : α → R β} {xa : α → D} {xb : α → β → D} {ρa : α → List Slot} {ρb : α → β → List Slot} {mr : α → β → R γ} {s : α → β → γ → Slot}
    (ha : JE X B ρ a ma (fun x => .val (xa x)) ρa) (hb : ∀ x, JE X B (ρa x) b (mb x) (fun y => .val (xb x y)) (ρb x)) (hr : ∀ x y, OpD X.K B r (xa x) (xb x y) (mr x y) (s x y)) :
    JE X B ρ e (op2 ma mb mr) (fun p => s p.1 p.2.1 p.2.2) (fun p => ρb p.1 p.2.1) := by
  have hb' : PE X b (fun σ H Q => ∃ x, tJ X.K B (ρa x) (mb x) (fun y => .val (xb x y)) (ρb x) σ H Q) := ⟨fun pins s σ H Q I ⟨x, q⟩ => (hb x).run pins s σ H Q I q⟩
  refine PE_imp (ht _ _ ha hb') fun σ H Q ⟨G, E, q⟩ => ?_
  refine ⟨G, E, R.post_mono (R.post_bind.mp q) fun x q1 vx G1 H1 x1 E1 => ?_⟩
  refine ⟨x, G1, E1.pop, R.post_mono (R.post_bind.mp q1) fun y q2 vy G2 H2 x2 E2 => ?_⟩
  exact hr x y G2 H2 σ (ρb x y) vx vy Q E2.pop (E1.top.ex x2) E2.top (R.post_mono (R.post_bind.mp q2) fun z q3 v G3 H3 x3 E3 => q3 v G3 H3 (x1.trans (x2.trans x3)) E3)
/-- both pure -/
theorem je_op {r : R2} (ht : ∀ ta tb, PE X a ta → PE X b tb → PE X e (tOp r ta tb)) {x y : D} {γ : Type} {mr : R γ} {s : γ → Slot} (ha : JP X B ρ a x) (hb : JP X B ρ b y) (hr : OpD X.K B r x y mr s) : JE X B ρ e mr s (fun _ => ρ) := by
  refine PE_imp (ht _ _ ha hb) fun σ H Q ⟨G, E, q⟩ => ?_
  refine ⟨G, E, fun vx G1 H1 x1 E1 => ?_⟩
  refine ⟨G1, E1.pop, fun vy G2 H2 x2 E2 => ?_⟩
  exact hr G2 H2 σ ρ vx vy Q E2.pop (E1.top.ex x2) E2.top (R.post_mono q fun z q v G3 H3 x3 E3 => q v G3 H3 (x1.trans (x2.trans x3)) E3)

/-! ### int operators -/
/-- what C's division does by itself -/
def divOk (i j : Int) : Prop := j ≠ 0 ∧ Builtin.divisionGoesByPylong i j = false
instance {i j : Int} : Decidable (divOk i j) := by unfold divOk; infer_instance
def powOk (i j : Int) : Prop := 0 ≤ j ∧ j ≤ 1000000 ∧ i.natAbs < 2 ^ 64
instance {i j : Int} : Decidable (powOk i j) := by unfold powOk; infer_instance
instance {i j : Int} : Decidable (CPow i j) := by unfold CPow; infer_instance
instance {i j : Int} : Decidable (CMulX i j) := by unfold CMulX; infer_instance
theorem op_fdivZ : OpR X (binaryOp .FloorDiv) (rI divOk fun i j => .int (i.fdiv j)) := opI fun i j _ _ _ _ _ hc q => PyProof.Rows.floordiv_int hc.1 q (.inl hc.2)
section
variable {K : PySem.W.Frag} {i j : Int}
theorem od_I0 {g : Int → Int → V} {z : D} (hz : ∀ G, Rp K G (g i j) z) : OpD K B (rI0 g) (.int i) (.int j) (.ok ()) (fun _ => .val z) :=
  od_val0 (fun G H vx vy Q _ hx hy q => ⟨i, j, hx.int_inv, hy.int_inv, q⟩) hz
theorem od_I {C : Int → Int → Prop} [Decidable (C i j)] {g : Int → Int → V} {z : D} (hz : ∀ G, Rp K G (g i j) z) : OpD K B (rI C g) (.int i) (.int j) (R.guard (C i j)) (fun _ => .val z) :=
  od_val (fun c G H vx vy Q _ hx hy q => ⟨i, j, hx.int_inv, hy.int_inv, c, q⟩) hz
theorem od_add : OpD K B (rI0 fun i j => .int (i + j)) (.int i) (.int j) (.ok ()) (fun _ => .val (.int (i + j))) := od_I0 fun _ => .int _
theorem od_sub : OpD K B (rI0 fun i j => .int (i - j)) (.int i) (.int j) (.ok ()) (fun _ => .val (.int (i - j))) := od_I0 fun _ => .int _
theorem od_mul : OpD K B (rI CMulX fun i j => .int (i * j)) (.int i) (.int j) (R.guard (CMulX i j)) (fun _ => .val (.int (i * j))) := od_I fun _ => .int _
theorem od_fdiv : OpD K B (rI divOk fun i j => .int (i.fdiv j)) (.int i) (.int j) (R.guard (divOk i j)) (fun _ => .val (.int (i.fdiv j))) := od_I fun _ => .int _
theorem od_mod : OpD K B (rI (fun _ j => j ≠ 0) fun i j => .int (i.fmod j)) (.int i) (.int j) (R.guard (j ≠ 0)) (fun _ => .val (.int (i.fmod j))) := od_I (C := fun _ j => j ≠ 0) fun _ => .int _
theorem od_pow : OpD K B (rI CPow fun i j => .int (i ^ j.toNat)) (.int i) (.int j) (R.guard (CPow i j)) (fun _ => .val (.int (i ^ j.toNat))) := od_I (C := CPow) (fun _ => .int _)
theorem od_lt : OpD K B (rI0 fun i j => .bl (decide (i < j))) (.int i) (.int j) (.ok ()) (fun _ => .val (.bool (decide (i < j)))) := od_I0 fun _ => .bl _
theorem od_le : OpD K B (rI0 fun i j => .bl (decide (i ≤ j))) (.int i) (.int j) (.ok ()) (fun _ => .val (.bool (decide (i ≤ j)))) := od_I0 fun _ => .bl _
theorem od_gt : OpD K B (rI0 fun i j => .bl (decide (j < i))) (.int i) (.int j) (.ok ()) (fun _ => .val (.bool (decide (j < i)))) := od_I0 fun _ => .bl _
theorem od_ge : OpD K B (rI0 fun i j => .bl (decide (j ≤ i))) (.int i) (.int j) (.ok ()) (fun _ => .val (.bool (decide (j ≤ i)))) := od_I0 fun _ => .bl _
/-- == of ints, of bools, of texts -/
theorem od_eqI : OpD K B rEq (.int i) (.int j) (.ok ()) (fun _ => .val (.bool (decide (i = j)))) := od_val0 (w := .bl (decide (i = j))) (fun G H vx vy Q _ hx hy q => by
  rw [hx.int_inv, hy.int_inv]
  refine ⟨rfl, ?_⟩
  rw [show decide (V.int i = V.int j) = decide (i = j) from decide_eq_decide.mpr ⟨fun h => V.int.inj h, fun h => by rw [h]⟩]
  exact q) fun _ => .bl _
theorem od_neI : OpD K B rNe (.int i) (.int j) (.ok ()) (fun _ => .val (.bool (!decide (i = j)))) := od_val0 (w := .bl (!decide (i = j))) (fun G H vx vy Q _ hx hy q => by
  rw [hx.int_inv, hy.int_inv]
  refine ⟨rfl, ?_⟩
  rw [show decide (V.int i = V.int j) = decide (i = j) from decide_eq_decide.mpr ⟨fun h => V.int.inj h, fun h => by rw [h]⟩]
  exact q) fun _ => .bl _
end
theorem jp_neg {i : Int} (ha : JP X B ρ a (.int i)) : JP X B ρ (.UnaryOp .USub a pos) (.int (-i)) :=
  jp_of (pe_un un_neg ha) fun σ G H Q E q => ⟨G, E, fun v G1 H1 x1 E1 => ⟨i, E1.top.int_inv, q _ G1 H1 x1 (E1.pop.push (.int _))⟩⟩
theorem je_neg {β : Type} {m : R β} {i : β → Int} {ρ' : β → List Slot} (ha : JE X B ρ a m (fun b => .val (.int (i b))) ρ') : JE X B ρ (.UnaryOp .USub a pos) m (fun b => .val (.int (-(i b)))) ρ' :=
  PE_imp (pe_un un_neg ha) fun σ H Q ⟨G, E, q⟩ => ⟨G, E, R.post_mono q fun b k v G1 H1 x1 E1 => ⟨i b, E1.top.int_inv, k _ G1 H1 x1 (E1.pop.push (.int _))⟩⟩

/-! ### tests -/
theorem jt_val {β : Type} {m : R β} {bn : β → Bool} {ρ' : β → List Slot} (h : JE X B ρ e m (fun b => .val (.bool (bn b))) ρ') (he : ∀ whole, isTrue e X.env whole = (do let v ← whole; standAt e.pos; holding [v] (truthy v)) := by intro _; rfl) : JT X B ρ e m bn ρ' :=
  PT_imp (pt_val h he) fun σ H Q ⟨G, E, q⟩ => ⟨G, E, R.post_mono q fun b k v G1 H1 x1 E1 => ⟨bn b, E1.top.bl_inv, k G1 H1 x1 E1.pop⟩⟩
theorem jt_not {β : Type} {m : R β} {bn : β → Bool} {ρ' : β → List Slot} (h : JT X B ρ a m bn ρ') : JT X B ρ (.UnaryOp .Not a pos) m (fun b => !bn b) ρ' :=
  PT_imp (pt_not h) fun σ H Q ⟨G, E, q⟩ => ⟨G, E, q⟩
theorem jt_w {β : Type} {m : R β} {bn : β → Bool} {ρ' : β → List Slot} (h : JW X B ρ e m bn ρ') : JT X B ρ e m bn ρ' := PW.pt h
variable {rest : List Expr}
theorem jw_and1 {β : Type} {m : R β} {bn : β → Bool} {ρ' : β → List Slot} (h : JT X B ρ a m bn ρ') : JW X B ρ (.BoolOp .And [a] pos) m bn ρ' := pw_and1 h
theorem jw_or1 {β : Type} {m : R β} {bn : β → Bool} {ρ' : β → List Slot} (h : JT X B ρ a m bn ρ') : JW X B ρ (.BoolOp .Or [a] pos) m bn ρ' := pw_or1 h
/-- pure ones -/
theorem tw_and {x y : Bool} (ha : TP0 X B ρ a x) (hb : JW X B ρ (.BoolOp .And (b :: rest) pos) (.ok ()) (fun _ => y) (fun _ => ρ)) : JW X B ρ (.BoolOp .And (a :: b :: rest) pos) (.ok ()) (fun _ => x && y) (fun _ => ρ) :=
  PW_imp (pw_and ha hb) fun σ H Q ⟨G, E, q⟩ => ⟨G, E, fun G1 H1 x1 E1 => by
    cases x with
    | true => exact ⟨G1, E1, fun G2 H2 x2 E2 => q G2 H2 (x1.trans x2) E2⟩
    | false => exact q G1 H1 x1 E1⟩
theorem tw_or {x y : Bool} (ha : TP0 X B ρ a x) (hb : JW X B ρ (.BoolOp .Or (b :: rest) pos) (.ok ()) (fun _ => y) (fun _ => ρ)) : JW X B ρ (.BoolOp .Or (a :: b :: rest) pos) (.ok ()) (fun _ => x || y) (fun _ => ρ) :=
  PW_imp (pw_or ha hb) fun σ H Q ⟨G, E, q⟩ => ⟨G, E, fun G1 H1 x1 E1 => by
    cases x with
    | false => exact ⟨G1, E1, fun G2 H2 x2 E2 => q G2 H2 (x1.trans x2) E2⟩
    | true => exact q G1 H1 x1 E1⟩
/-- the second part only where it is asked; nothing stored changes -/
def and2 {α : Type} (ma : R α) (xa : α → Bool) (mb : R Bool) : R Bool := ma.bind fun x => if xa x = true then mb else .ok false
def or2 {α : Type} (ma : R α) (xa : α → Bool) (mb : R Bool) : R Bool := ma.bind fun x => if xa x = true then .ok true else mb
theorem jw_and {α : Type} {ma : R α} {xa : α → Bool} {mb : R Bool} (ha : JT X B ρ a ma xa (fun _ => ρ)) (hb : JW X B ρ (.BoolOp .And (b :: rest) pos) mb (fun y => y) (fun _ => ρ)) : JW X B ρ (.BoolOp .And (a :: b :: rest) pos) (and2 ma xa mb) (fun y => y) (fun _ => ρ) :=
  PW_imp (pw_and ha hb) fun σ H Q ⟨G, E, q⟩ => ⟨G, E, R.post_mono (R.post_bind.mp q) fun x k G1 H1 x1 E1 => by
    cases hx : xa x with
    | true =>
      rw [if_pos hx] at k
      exact ⟨G1, E1, R.post_mono k fun b k G2 H2 x2 E2 => k G2 H2 (x1.trans x2) E2⟩
    | false =>
      rw [if_neg (by rw [hx]; decide)] at k
      exact k G1 H1 x1 E1⟩
theorem jw_or {α : Type} {ma : R α} {xa : α → Bool} {mb : R Bool} (ha : JT X B ρ a ma xa (fun _ => ρ)) (hb : JW X B ρ (.BoolOp .Or (b :: rest) pos) mb (fun y => y) (fun _ => ρ)) : JW X B ρ (.BoolOp .Or (a :: b :: rest) pos) (or2 ma xa mb) (fun y => y) (fun _ => ρ) :=
  PW_imp (pw_or ha hb) fun σ H Q ⟨G, E, q⟩ => ⟨G, E, R.post_mono (R.post_bind.mp q) fun x k G1 H1 x1 E1 => by
    cases hx : xa x with
    | false =>
      rw [if_neg (by rw [hx]; decide)] at k
      exact ⟨G1, E1, R.post_mono k fun b k G2 H2 x2 E2 => k G2 H2 (x1.trans x2) E2⟩
    | true =>
      rw [if_pos hx] at k
      exact k G1 H1 x1 E1⟩
/-- a test's outcome as the mirror's own result -/
theorem jt_map {β : Type} {m : R β} {bn : β → Bool} (h : JT X B ρ e m bn (fun _ => ρ)) : JT X B ρ e (m.bind fun b => .ok (bn b)) (fun y => y) (fun _ => ρ) :=
  PT_imp h fun σ H Q ⟨G, E, q⟩ => ⟨G, E, R.post_mono (R.post_bind.mp q) fun b k => k⟩
/-- and, or, not as values -/
theorem jp_one {op : PySem.BoolOp} {β : Type} {m : R β} {sl : β → Slot} {ρ' : β → List Slot} (h : JE X B ρ a m sl ρ') : JE X B ρ (.BoolOp op [a] pos) m sl ρ' := pe_one h
theorem jp_and {x y : Bool} (ha : JP X B ρ a (.bool x)) (hb : JP X B ρ (.BoolOp .And (b :: rest) pos) (.bool y)) : JP X B ρ (.BoolOp .And (a :: b :: rest) pos) (.bool (x && y)) :=
  jp_of (pe_and ha hb) fun σ G H Q E q => ⟨G, E, fun v G1 H1 x1 E1 => ⟨x, E1.top.bl_inv, by
    cases x with
    | true => exact ⟨G1, E1.pop, fun v G2 H2 x2 E2 => q v G2 H2 (x1.trans x2) E2⟩
    | false => exact q _ G1 H1 x1 (E1.pop.push (.bl false))⟩⟩
theorem jp_or {x y : Bool} (ha : JP X B ρ a (.bool x)) (hb : JP X B ρ (.BoolOp .Or (b :: rest) pos) (.bool y)) : JP X B ρ (.BoolOp .Or (a :: b :: rest) pos) (.bool (x || y)) :=
  jp_of (pe_or ha hb) fun σ G H Q E q => ⟨G, E, fun v G1 H1 x1 E1 => ⟨x, E1.top.bl_inv, by
    cases x with
    | false => exact ⟨G1, E1.pop, fun v G2 H2 x2 E2 => q v G2 H2 (x1.trans x2) E2⟩
    | true => exact q _ G1 H1 x1 (E1.pop.push (.bl true))⟩⟩
theorem je_and {α : Type} {ma : R α} {xa : α → Bool} {mb : R Bool} (ha : JE X B ρ a ma (fun x => .val (.bool (xa x))) (fun _ => ρ)) (hb : JE X B ρ (.BoolOp .And (b :: rest) pos) mb (fun y => .val (.bool y)) (fun _ => ρ)) : JE X B ρ (.BoolOp .And (a :: b :: rest) pos) (and2 ma xa mb) (fun y => .val (.bool y)) (fun _ => ρ) :=
  PE_imp (pe_and ha hb) fun σ H Q ⟨G, E, q⟩ => ⟨G, E, R.post_mono (R.post_bind.mp q) fun x k v G1 H1 x1 E1 => ⟨xa x, E1.top.bl_inv, by
    cases hx : xa x with
    | true =>
      rw [if_pos hx] at k
      exact ⟨G1, E1.pop, R.post_mono k fun b k v G2 H2 x2 E2 => k v G2 H2 (x1.trans x2) E2⟩
    | false =>
      rw [if_neg (by rw [hx]; decide)] at k
      exact k _ G1 H1 x1 (E1.pop.push (.bl false))⟩⟩
theorem je_or {α : Type} {ma : R α} {xa : α → Bool} {mb : R Bool} (ha : JE X B ρ a ma (fun x => .val (.bool (xa x))) (fun _ => ρ)) (hb : JE X B ρ (.BoolOp .Or (b :: rest) pos) mb (fun y => .val (.bool y)) (fun _ => ρ)) : JE X B ρ (.BoolOp .Or (a :: b :: rest) pos) (or2 ma xa mb) (fun y => .val (.bool y)) (fun _ => ρ) :=
  PE_imp (pe_or ha hb) fun σ H Q ⟨G, E, q⟩ => ⟨G, E, R.post_mono (R.post_bind.mp q) fun x k v G1 H1 x1 E1 => ⟨xa x, E1.top.bl_inv, by
    cases hx : xa x with
    | false =>
      rw [if_neg (by rw [hx]; decide)] at k
      exact ⟨G1, E1.pop, R.post_mono k fun b k v G2 H2 x2 E2 => k v G2 H2 (x1.trans x2) E2⟩
    | true =>
      rw [if_pos hx] at k
      exact k _ G1 H1 x1 (E1.pop.push (.bl true))⟩⟩
theorem je_map {β γ : Type} {m : R β} {sl : β → Slot} {sl' : γ → Slot} {f : β → γ} (h : JE X B ρ e m sl (fun _ => ρ)) (k : ∀ b, sl b = sl' (f b)) : JE X B ρ e (m.bind fun b => .ok (f b)) sl' (fun _ => ρ) :=
  PE_imp h fun σ H Q ⟨G, E, q⟩ => ⟨G, E, R.post_mono (R.post_bind.mp q) fun b q1 v G' H' x E' => q1 v G' H' x (by rw [← k b]; exact E')⟩
theorem je_not {β : Type} {m : R β} {bn : β → Bool} {ρ' : β → List Slot} (ha : JE X B ρ a m (fun b => .val (.bool (bn b))) ρ') : JE X B ρ (.UnaryOp .Not a pos) m (fun b => .val (.bool (!bn b))) ρ' :=
  PE_imp (pe_not ha) fun σ H Q ⟨G, E, q⟩ => ⟨G, E, R.post_mono q fun b k v G1 H1 x1 E1 => ⟨bn b, E1.top.bl_inv, k _ G1 H1 x1 (E1.pop.push (.bl _))⟩⟩
end
end DL

/-! DL4: calls of defs -/
namespace DL
open PySem PySem.Spec L2

def insAt : Nat → List Slot → List Ar → List Slot
  | _, _, [] => []
  | n, ρ, .val d :: as => .val d :: insAt (n + 1) ρ as
  | n, ρ, .slot i :: as => (match ρ[i]? with | some (.own _ o) => .own (n + 1) o | _ => .non) :: insAt (n + 1) (ρ.set i .non) as
def movedAt : List Slot → List Ar → List Slot
  | ρ, [] => ρ
  | ρ, .val _ :: as => movedAt ρ as
  | ρ, .slot i :: as => movedAt (ρ.set i .non) as
def relab : Slot → Option Slot → Slot
  | .own _ o, some (.own l _) => .own l o
  | _, _ => .non
def backAt (ρ0 : List Slot) : List Slot → List Ar → List Slot → List Slot
  | ρ, [], _ => ρ
  | ρ, _, [] => ρ
  | ρ, .val _ :: as, _ :: os => backAt ρ0 ρ as os
  | ρ, .slot i :: as, s :: os => backAt ρ0 (ρ.set i (relab s ρ0[i]?)) as os
def isOwn : Option Slot → Bool
  | some (.own _ _) => true
  | _ => false
def goodIn : List Slot → List Ar → Bool
  | _, [] => true
  | ρ, .val _ :: as => goodIn ρ as
  | ρ, .slot i :: as => isOwn ρ[i]? && goodIn (ρ.set i .non) as
def isOwnL (n : Nat) : Slot → Bool
  | .own l _ => l == n
  | _ => false
def goodOut : Nat → List Ar → List Slot → Bool
  | _, [], [] => true
  | n, .val _ :: as, _ :: os => goodOut (n + 1) as os
  | n, .slot _ :: as, s :: os => isOwnL (n + 1) s && goodOut (n + 1) as os
  | _, _, _ => false
def noSlots : List Ar → Bool
  | [] => true
  | .val _ :: as => noSlots as
  | .slot _ :: _ => false
def noAlis : List Slot → Bool
  | [] => true
  | .ali _ _ :: _ => false
  | _ :: r => noAlis r
theorem noAlis_get : ∀ {ρ : List Slot}, noAlis ρ = true → ∀ {i j : Nat} {p : List Nat}, ρ[i]? ≠ some (.ali j p)
  | [], _, _, _, _ => fun e => nomatch e
  | s :: ρ, h, 0, j, p => fun e => by
    simp at e
    subst e
    simp [noAlis] at h
  | s :: ρ, h, i + 1, j, p => fun e => by
    have h' : noAlis ρ = true := by
      cases s <;> simp [noAlis] at h <;> exact h
    exact noAlis_get h' (i := i) (j := j) (p := p) (by simpa using e)
section
variable {K : PySem.W.Frag} {B B' : Base} {G G' H H' : Hp}
theorem isOwn_inv {s : Option Slot} (h : isOwn s = true) : ∃ l o, s = some (.own l o) := by
  match s, h with
  | some (.own l o), _ => exact ⟨l, o, rfl⟩
theorem isOwnL_inv {n : Nat} {s : Slot} (h : isOwnL n s = true) : ∃ o, s = .own n o := by
  match s, h with
  | .own l o, h =>
    simp [isOwnL] at h
    subst h
    exact ⟨o, rfl⟩
/-- the arguments' cells, each with its places; the rest -/
theorem Cells.args {σ : L2.St} : ∀ {as : List Ar} {vs : List V} {ρ : List Slot} {A : List Addr} (n : Nat), Cells K B G H σ ρ A → ArOk K G σ vs as → goodIn ρ as = true →
    ∃ (As : List (List Addr)) (Ar' : List Addr), As.length = as.length ∧ (∀ B' : Base, (∀ k, B'.Mo (n + 1 + k) = As.getD k []) → (∀ k, B'.pv (n + 1 + k) = vs[k]?) → Cells K B' G H (vs.map some) (insAt n ρ as) As.flatten) ∧ Cells K B G H σ (movedAt ρ as) Ar' ∧ A.Perm (As.flatten ++ Ar') ∧
      ∀ (k i : Nat), as[k]? = some (.slot i) → ∃ l o, ρ[i]? = some (.own l o) ∧ (∀ a ∈ As.getD k [], a ∈ B.Mo l ∨ B.H0 a = none) ∧ ∀ v, σ[i]? = some (some v) → l = 0 ∨ B.pv l = some v
  | [], _, ρ, A, n, h, .nil, _ => ⟨[], A, rfl, fun _ _ _ => .nil, h, List.Perm.refl _, fun _ _ e => by simp at e⟩
  | .val d :: as, v :: vs, ρ, A, n, h, .val r q, g => by
    obtain ⟨As, A', h1, h2, h3, h4, h5⟩ := Cells.args (n + 1) h q (by simpa [goodIn] using g)
    refine ⟨[] :: As, A', by simp [h1], fun B' hB hP => ?_, h3, by simpa using h4, fun k i e => ?_⟩
    · exact .cons (A := []) (.val r) (h2 B' (fun k => by
        have := hB (k + 1)
        rw [show n + 1 + (k + 1) = n + 1 + 1 + k by omega] at this
        simpa using this) (fun k => by
        have := hP (k + 1)
        rw [show n + 1 + (k + 1) = n + 1 + 1 + k by omega] at this
        simpa using this))
    · cases k with
      | zero => simp at e
      | succ k =>
        obtain ⟨l, o, e1, e2⟩ := h5 k i (by simpa using e)
        exact ⟨l, o, e1, by simpa using e2.1, e2.2⟩
  | .slot j :: as, v :: vs, ρ, A, n, h, .slot e0 q, g => by
    simp [goodIn] at g
    obtain ⟨l, o, ho⟩ := isOwn_inv g.1
    obtain ⟨v', A1, A2, e1, hO, ⟨hl, hv⟩, c2, p⟩ := h.take1 ho
    have ev : v = v' := by
      have z := e0.symm.trans e1
      injection z with z
      injection z
    subst ev
    obtain ⟨As, A', h1, h2, h3, h4, h5⟩ := Cells.args (n + 1) c2 q g.2
    refine ⟨A1 :: As, A', by simp [h1], fun B' hB hP => ?_, h3, ?_, fun k i e => ?_⟩
    · have hins : insAt n ρ (.slot j :: as) = .own (n + 1) o :: insAt (n + 1) (ρ.set j .non) as := by
        show (match ρ[j]? with | some (.own _ o) => Slot.own (n + 1) o | _ => .non) :: _ = _
        rw [ho]
      rw [hins]
      refine .cons (A := A1) (.own hO (fun a m => .inl ?_) (.inr ?_)) (h2 B' (fun k => ?_) fun k => ?_)
      · have := hB 0
        simp at this
        rw [this]
        exact m
      · have := hP 0
        simpa using this
      · have := hB (k + 1)
        rw [show n + 1 + (k + 1) = n + 1 + 1 + k by omega] at this
        simpa using this
      · have := hP (k + 1)
        rw [show n + 1 + (k + 1) = n + 1 + 1 + k by omega] at this
        simpa using this
    · have := p.trans (h4.append_left A1)
      rw [← List.append_assoc] at this
      exact this
    · cases k with
      | zero =>
        simp at e
        subst e
        exact ⟨l, o, ho, by simpa using hl, fun w ew => by
          have z := e1.symm.trans ew
          injection z with z
          injection z with z
          rw [← z]
          exact hv⟩
      | succ k =>
        obtain ⟨l', o', q1, q2⟩ := h5 k i (by simpa using e)
        have hij : j ≠ i := fun z => by
          subst z
          by_cases hlt : j < ρ.length
          · rw [List.getElem?_set_self hlt] at q1
            cases q1
          · rw [List.getElem?_eq_none (by simpa using hlt)] at q1
            cases q1
        rw [List.getElem?_set_ne hij] at q1
        exact ⟨l', o', q1, by simpa using q2.1, q2.2⟩
theorem Cells.region {σ : L2.St} {ρ : List Slot} {A : List Addr} (h : Cells K B G H σ ρ A) : ∀ a ∈ A, (∃ l, a ∈ B.Mo l) ∨ B.H0 a = none := by
  induction h with
  | nil => exact fun _ m => nomatch m
  | cons c r ih =>
    intro a m
    rcases List.mem_append.mp m with m | m
    · cases c with
      | non => exact nomatch m
      | val _ => exact nomatch m
      | own _ hl _ => exact (hl a m).imp (fun z => ⟨_, z⟩) id
      | ali => exact nomatch m
    · exact ih a m
def slotsOf : List Ar → List Nat
  | [] => []
  | .val _ :: as => slotsOf as
  | .slot i :: as => i :: slotsOf as
theorem goodIn_nodup : ∀ {as : List Ar} {ρ : List Slot}, goodIn ρ as = true → (slotsOf as).Nodup ∧ ∀ i ∈ slotsOf as, isOwn ρ[i]? = true
  | [], _, _ => ⟨List.nodup_nil, fun _ m => nomatch m⟩
  | .val _ :: as, ρ, h => goodIn_nodup (as := as) (by simpa [goodIn] using h)
  | .slot j :: as, ρ, h => by
    simp [goodIn] at h
    obtain ⟨h1, h2⟩ := goodIn_nodup h.2
    have hj : ∀ i ∈ slotsOf as, i ≠ j := fun i m z => by
      subst z
      have := h2 i m
      by_cases hlt : i < ρ.length
      · rw [List.getElem?_set_self hlt] at this
        cases this
      · rw [List.getElem?_eq_none (by simpa using hlt)] at this
        cases this
    refine ⟨List.nodup_cons.mpr ⟨fun m => hj j m rfl, h1⟩, fun i m => ?_⟩
    rcases List.mem_cons.mp m with rfl | m
    · exact h.1
    · have := h2 i m
      rw [List.getElem?_set_ne (Ne.symm (hj i m))] at this
      exact this
theorem movedAt_len : ∀ (as : List Ar) (ρ : List Slot), (movedAt ρ as).length = ρ.length
  | [], _ => rfl
  | .val _ :: as, ρ => movedAt_len as ρ
  | .slot i :: as, ρ => by
    show (movedAt (ρ.set i .non) as).length = _
    rw [movedAt_len as, List.length_set]
theorem movedAt_get : ∀ {as : List Ar} {ρ : List Slot} {i : Nat}, i ∈ slotsOf as → i < ρ.length → (movedAt ρ as)[i]? = some .non
  | .val _ :: as, ρ, i, m, h => movedAt_get (as := as) (ρ := ρ) (by simpa [slotsOf] using m) h
  | .slot j :: as, ρ, i, m, h => by
    show (movedAt (ρ.set j .non) as)[i]? = _
    by_cases hi : i ∈ slotsOf as
    · exact movedAt_get hi (by simpa using h)
    · have e : i = j := by
        rcases List.mem_cons.mp m with e | m
        · exact e
        · exact absurd m hi
      subst e
      have keep : ∀ (as : List Ar) (ρ : List Slot), i ∉ slotsOf as → (movedAt ρ as)[i]? = ρ[i]? := by
        intro as
        induction as with
        | nil => intro ρ _; rfl
        | cons a as ih =>
          intro ρ hn
          cases a with
          | val d => exact ih ρ (by simpa [slotsOf] using hn)
          | slot k =>
            have hk : i ≠ k ∧ i ∉ slotsOf as := by simpa [slotsOf] using hn
            show (movedAt (ρ.set k .non) as)[i]? = _
            rw [ih _ hk.2, List.getElem?_set_ne (Ne.symm hk.1)]
      rw [keep as _ hi, List.getElem?_set_self h]
/-- the arguments' cells put back -/
theorem Cells.back {σ : L2.St} {G0 : Hp} (ρ0 : List Slot) : ∀ {as : List Ar} {vs : List V} {os ρ : List Slot} {A A' : List Addr} (n : Nat), ArOk K G0 σ vs as → Cells K B' G' H' (vs.map some) os A' → Cells K B G' H' σ ρ A → goodOut n as os = true →
    (slotsOf as).Nodup → (∀ i ∈ slotsOf as, ρ[i]? = some .non) → (∀ (k i : Nat), as[k]? = some (.slot i) → ∃ l o, ρ0[i]? = some (.own l o) ∧ (∀ a, (a ∈ B'.Mo (n + 1 + k) ∨ B'.H0 a = none) → a ∈ B.Mo l ∨ B.H0 a = none) ∧ ∀ v, σ[i]? = some (some v) → l = 0 ∨ B.pv l = some v) →
    ∃ A2 C, Cells K B G' H' σ (backAt ρ0 ρ as os) A2 ∧ A2.Perm (C ++ A) ∧ C.Sublist A'
  | [], _, os, ρ, A, A', n, .nil, _, h, _, _, _, _ => ⟨A, [], by rw [backAt]; exact h, List.Perm.refl _, List.nil_sublist _⟩
  | .val d :: as, v :: vs, os, ρ, A, A', n, .val r q, c, h, g, nd, hn, hl => by
    cases c with
    | @cons _ s A1 _ os A2 c1 cr =>
      obtain ⟨A3, C, h1, h2, h3⟩ := Cells.back ρ0 (n + 1) q cr h (by simpa [goodOut] using g) (by simpa [slotsOf] using nd) (by simpa [slotsOf] using hn) (fun k i e => by
        obtain ⟨l, o, e1, e2⟩ := hl (k + 1) i (by simpa using e)
        rw [show n + 1 + (k + 1) = n + 1 + 1 + k by omega] at e2
        exact ⟨l, o, e1, e2⟩)
      exact ⟨A3, C, by rw [backAt]; exact h1, h2, h3.trans (List.sublist_append_right _ _)⟩
  | .slot j :: as, v :: vs, os, ρ, A, A', n, .slot e0 q, c, h, g, nd, hn, hl => by
    cases c with
    | @cons _ s A1 _ os A2 c1 cr =>
      have g' : isOwnL (n + 1) s = true ∧ goodOut (n + 1) as os = true := by simpa [goodOut] using g
      obtain ⟨o, rfl⟩ := isOwnL_inv g'.1
      cases c1 with
      | own hO hr _ =>
        obtain ⟨l, o0, e1, e2, e3⟩ := hl 0 j rfl
        have hj : ρ[j]? = some .non := hn j (by simp [slotsOf])
        obtain ⟨A4, c4, p4⟩ := h.put1 (l := l) hj e0 hO ⟨fun a m => e2 a (by simpa using hr a m), e3 _ e0⟩
        have nd' : j ∉ slotsOf as ∧ (slotsOf as).Nodup := by simpa [slotsOf] using nd
        obtain ⟨A3, C, h1, h2, h3⟩ := Cells.back ρ0 (n + 1) q cr c4 g'.2 nd'.2 (fun i m => by
          have hij : j ≠ i := fun z => nd'.1 (z ▸ m)
          rw [List.getElem?_set_ne hij]
          exact hn i (by simp [slotsOf, m])) (fun k i e => by
          obtain ⟨l, o, e1, e2⟩ := hl (k + 1) i (by simpa using e)
          rw [show n + 1 + (k + 1) = n + 1 + 1 + k by omega] at e2
          exact ⟨l, o, e1, e2⟩)
        refine ⟨A3, A1 ++ C, ?_, ?_, h3.append_left A1⟩
        · rw [backAt, e1]
          exact h1
        · have p5 := h2.trans (p4.append_left C)
          refine p5.trans ?_
          rw [← List.append_assoc]
          exact List.perm_append_comm.append_right A
theorem backAt_len (ρ0 : List Slot) : ∀ (as : List Ar) (os ρ : List Slot), (backAt ρ0 ρ as os).length = ρ.length
  | [], _, _ => by rw [backAt]
  | .val _ :: _, [], _ => by rw [backAt]; exact fun h => nomatch h
  | .slot _ :: _, [], _ => by rw [backAt]; exact fun h => nomatch h
  | .val _ :: as, _ :: os, ρ => by
    rw [backAt]
    exact backAt_len ρ0 as os ρ
  | .slot i :: as, s :: os, ρ => by
    rw [backAt, backAt_len ρ0 as os, List.length_set]
end
/-- a def's promise by its mirror: how its arguments stand, its mirror, how its result and its owned arguments stand -/
def baseOf (H G : Hp) (As : List (List Addr)) (vs : List V) (rs : Exn → Prop) : Base := ⟨H, G, fun l => match l with | 0 => [] | n + 1 => As.getD n [], rfl, fun l => match l with | 0 => none | n + 1 => vs[n]?, rs⟩
def spM (K : PySem.W.Frag) {α β : Type} (ins : α → List Slot) (m : α → R β) (sl : β → Slot) (outs : β → List Slot) : Sp := fun vs H Q _ =>
  ∃ (a : α) (G : Hp) (As : List (List Addr)), En K (baseOf H G As vs fun _ => False) G H (vs.map some) (ins a) [] ∧
    (m a).post (fun b => ∀ v G' H', En K (baseOf H G As vs fun _ => False) G' H' (vs.map some) (outs b) [(v, sl b)] → Q v H') fun _ => False
/-- a result: data, or a new owned thing -/
def resOk : Slot → Bool
  | .val _ => true
  | .own 0 _ => true
  | _ => false
/-- no alias is met -/
def aliOk (ρ : List Slot) (as : List Ar) : Bool := noSlots as || noAlis ρ
theorem noSlots_As {K : PySem.W.Frag} {G : Hp} {σ : L2.St} : ∀ {as : List Ar}, noSlots as = true → slotsOf as = []
  | [], _ => rfl
  | .val _ :: as, h => noSlots_As (K := K) (G := G) (σ := σ) (as := as) h
theorem insAt_noAli : ∀ {as : List Ar} {n : Nat} {ρ : List Slot} {i j : Nat} {p : List Nat}, (insAt n ρ as)[i]? ≠ some (.ali j p)
  | [], n, ρ, i, j, p => fun e => nomatch e
  | .val d :: as, n, ρ, 0, j, p => fun e => by simp [insAt] at e
  | .val d :: as, n, ρ, i + 1, j, p => fun e => insAt_noAli (as := as) (n := n + 1) (ρ := ρ) (i := i) (j := j) (p := p) (by simpa [insAt] using e)
  | .slot k :: as, n, ρ, 0, j, p => fun e => by
    simp [insAt] at e
    split at e <;> cases e
  | .slot k :: as, n, ρ, i + 1, j, p => fun e => insAt_noAli (as := as) (n := n + 1) (ρ := ρ.set k .non) (i := i) (j := j) (p := p) (by simpa [insAt] using e)
theorem movedAt_noSlots : ∀ {as : List Ar} {ρ : List Slot}, noSlots as = true → movedAt ρ as = ρ
  | [], _, _ => rfl
  | .val _ :: as, ρ, h => movedAt_noSlots (as := as) h
theorem backAt_noSlots {ρ0 : List Slot} : ∀ {as : List Ar} {os ρ : List Slot}, noSlots as = true → backAt ρ0 ρ as os = ρ
  | [], _, _, _ => by rw [backAt]
  | .val _ :: as, [], _, _ => by rw [backAt]; exact fun h => nomatch h
  | .val _ :: as, _ :: os, ρ, h => by
    rw [backAt]
    exact backAt_noSlots (as := as) h
theorem backAt_noAlis {ρ0 : List Slot} : ∀ {as : List Ar} {os ρ : List Slot}, (∀ {i j : Nat} {p : List Nat}, ρ[i]? ≠ some (.ali j p)) → ∀ {i j : Nat} {p : List Nat}, (backAt ρ0 ρ as os)[i]? ≠ some (.ali j p)
  | [], _, _, h => by
    rw [backAt]
    exact h
  | .val _ :: _, [], _, h => by
    rw [backAt]
    exact h
    exact fun h => nomatch h
  | .slot _ :: _, [], _, h => by
    rw [backAt]
    exact h
    exact fun h => nomatch h
  | .val _ :: as, _ :: os, ρ, h => by
    rw [backAt]
    exact backAt_noAlis h
  | .slot k :: as, s :: os, ρ, h => by
    rw [backAt]
    refine backAt_noAlis fun {i j p} e => ?_
    by_cases hk : k = i
    · subst hk
      by_cases hlt : k < ρ.length
      · rw [List.getElem?_set_self hlt] at e
        have e : relab s ρ0[k]? = .ali j p := Option.some.inj e
        cases s <;> simp [relab] at e
        split at e <;> cases e
      · rw [List.getElem?_eq_none (by simpa using hlt)] at e
        cases e
    · rw [List.getElem?_set_ne hk] at e
      exact h e
theorem movedAt_noAlis : ∀ {as : List Ar} {ρ : List Slot}, (∀ {i j : Nat} {p : List Nat}, ρ[i]? ≠ some (.ali j p)) → ∀ {i j : Nat} {p : List Nat}, (movedAt ρ as)[i]? ≠ some (.ali j p)
  | [], _, h => h
  | .val _ :: as, ρ, h => movedAt_noAlis (as := as) h
  | .slot k :: as, ρ, h => movedAt_noAlis (as := as) (ρ := ρ.set k .non) fun {i j p} e => by
    by_cases hk : k = i
    · subst hk
      by_cases hlt : k < ρ.length
      · rw [List.getElem?_set_self hlt] at e
        cases e
      · rw [List.getElem?_eq_none (by simpa using hlt)] at e
        cases e
    · rw [List.getElem?_set_ne hk] at e
      exact h e
section
variable {K : PySem.W.Frag} {B : Base} {G H : Hp} {σ : L2.St} {ρ : List Slot} {as : List Ar} {vs : List V}
/-- THE CALL: what a caller must show, and what it has behind -/
theorem call_sp {α β : Type} {ins : α → List Slot} {m : α → R β} {sl : β → Slot} {outs : β → List Slot} {Q : VK} {E : XK} (a : α) (En0 : En K B G H σ ρ []) (ok : ArOk K G σ vs as) (hi : goodIn ρ as = true) (hins : insAt 0 ρ as = ins a)
    (ho : ∀ b, goodOut 0 as (outs b) = true) (hal : aliOk ρ as = true) (hres : ∀ b, resOk (sl b) = true) (hr : ∀ e, ¬ B.rs e)
    (q : (m a).post (fun b => ∀ v G' H', Ex G G' → En K B G' H' σ (backAt ρ (movedAt ρ as) as (outs b)) [(v, sl b)] → Q v H') B.rs) : spM K ins m sl outs vs H Q E := by
  obtain ⟨A, c, nd, f⟩ := En0.own
  obtain ⟨As, Ar', h1, h2, h3, h4, h5⟩ := Cells.args (as := as) 0 (show Cells K B G H σ ρ A from c) ok hi
  have nd2 := List.nodup_append.mp (h4.nodup_iff.mp nd)
  have fA : ∀ x ∈ As.flatten, G x = none := fun x m => f x (h4.mem_iff.mpr (List.mem_append_left _ m))
  have fR : ∀ x ∈ Ar', G x = none := fun x m => f x (h4.mem_iff.mpr (List.mem_append_right _ m))
  have mo : ∀ k, (baseOf H G As vs fun _ => False).Mo (0 + 1 + k) = As.getD k [] := fun k => by
    show (match 0 + 1 + k with | 0 => [] | n + 1 => As.getD n []) = _
    rw [show 0 + 1 + k = k + 1 by omega]
  have moIn : ∀ l x, x ∈ (baseOf H G As vs fun _ => False).Mo l → x ∈ As.flatten := fun l x m => by
    cases l with
    | zero => exact nomatch m
    | succ n =>
      have m : x ∈ As.getD n [] := m
      rw [List.getD_eq_getElem?_getD] at m
      cases e : As[n]? with
      | none =>
        rw [e] at m
        exact nomatch m
      | some L =>
        rw [e] at m
        exact List.mem_flatten.mpr ⟨L, List.mem_of_getElem? e, m⟩
  have cA := h2 (baseOf H G As vs fun _ => False) mo fun k => by
    show (match 0 + 1 + k with | 0 => none | n + 1 => vs[n]?) = _
    rw [show 0 + 1 + k = k + 1 by omega]
  have thA : ∀ x ∈ As.flatten, ∃ u, H x = some u := cA.there
  have thR : ∀ x ∈ Ar', ∃ u, H x = some u := h3.there
  refine ⟨a, G, As, ⟨⟨fun x o _ e => e, fun x l mx => ?_, Ex.refl G, fun x _ e => e, En0.sub⟩, ⟨_, by
      rw [← hins]
      exact cA, nd2.1, fA⟩, ?_, fun i j p e => ?_⟩, ?_⟩
  · obtain ⟨u, hu⟩ := thA x (moIn l x mx)
    rw [hu]
    exact fun z => nomatch z
  · rw [cA.len, hins]
  · rw [← hins] at e
    exact absurd e insAt_noAli
  · cases hm : m a with
    | bad =>
      rw [hm] at q
      exact q.elim
    | err e =>
      rw [hm] at q
      exact (hr e q).elim
    | ok b =>
      rw [hm] at q
      intro v G' H' E'
      have hG : Ex G G' := E'.anc.gsub
      refine q v G' H' hG ?_
      obtain ⟨A', c', n', f'⟩ := E'.own
      cases c' with
      | @cons _ _ A1 _ _ A2 cv cr =>
        have n1 := List.nodup_append.mp n'
        have keepH : ∀ x o, x ∉ As.flatten → H x = some o → H' x = some o := fun x o hx e => E'.anc.keep x o (fun l z => hx (moIn l x z)) e
        have reg : ∀ x ∈ A1 ++ A2, x ∈ As.flatten ∨ H x = none := fun x mx => by
          have := Cells.region (Cells.cons cv cr) x mx
          rcases this with ⟨l, z⟩ | z
          · exact .inl (moIn l x z)
          · exact .inr z
        have cR : Cells K B G' H' σ (movedAt ρ as) Ar' := h3.ex hG fun x mx u e => keepH x u (fun z => nd2.2.2 x z x mx rfl) e
        obtain ⟨gn1, gn2⟩ := goodIn_nodup hi
        obtain ⟨A3, C, b1, b2, b3⟩ := Cells.back (B := B) ρ (n := 0) ok cr cR (ho b) gn1 (fun i mi => movedAt_get mi (by
            have := gn2 i mi
            obtain ⟨l, o, e⟩ := isOwn_inv this
            exact (List.getElem?_eq_some_iff.mp e).1)) (fun k i e => by
            obtain ⟨l, o, e1, e2, e3⟩ := h5 k i e
            refine ⟨l, o, e1, fun x hx => ?_, e3⟩
            rcases hx with hx | hx
            · rw [mo] at hx
              exact e2 x hx
            · exact .inr (En0.fresh hx))
        have subC : (A1 ++ C).Sublist (A1 ++ A2) := b3.append_left A1
        have ndC : (A1 ++ C).Nodup := subC.nodup n'
        have dis : ∀ x ∈ A1 ++ A2, x ∉ Ar' := fun x mx mr => by
          rcases reg x mx with z | z
          · exact nd2.2.2 x z x mr rfl
          · obtain ⟨u, hu⟩ := thR x mr
            rw [hu] at z
            cases z
        have pA : (A1 ++ A3).Perm ((A1 ++ C) ++ Ar') := by
          rw [List.append_assoc]
          exact b2.append_left A1
        have cvB : Cell K B G' H' (some v) (sl b) A1 := by
          have cv2 : Cell K (baseOf H G As vs fun _ => False) G' H' (some v) (sl b) A1 := cv
          have hb := hres b
          revert cv2 hb
          generalize sl b = s
          intro cv2 hb
          cases cv2 with
          | non => exact .non
          | val h => exact .val h
          | @own _ l o _ hO hl _ =>
            cases l with
            | succ n => cases hb
            | zero =>
              refine .own hO (fun x mx => .inr (En0.fresh ?_)) (.inl rfl)
              rcases hl x mx with z | z
              · exact nomatch z
              · exact z
          | ali => exact .ali
        have lenEq : (backAt ρ (movedAt ρ as) as (outs b)).length = ρ.length := by rw [backAt_len, movedAt_len]
        have anc : Anc B G' H' := by
          refine ⟨fun x o hx e => ?_, fun x l hx => ?_, En0.anc.gsub.trans hG, fun x e1 e2 => ?_, E'.anc.sub⟩
          · have e1 := En0.anc.keep x o hx e
            refine keepH x o (fun z => ?_) e1
            rcases Cells.region (show Cells K B G H σ ρ A from c) x (h4.mem_iff.mpr (List.mem_append_left _ z)) with ⟨l, y⟩ | y
            · exact hx l y
            · rw [y] at e
              cases e
          · have e1 := En0.anc.there x l hx
            by_cases hxA : x ∈ As.flatten
            · obtain ⟨L, hL, mL⟩ := List.mem_flatten.mp hxA
              obtain ⟨k, hk⟩ := List.getElem?_of_mem hL
              refine E'.anc.there x (k + 1) ?_
              show x ∈ As.getD k []
              rw [List.getD_eq_getElem?_getD, hk]
              exact mL
            · cases e : H x with
              | none => exact absurd e e1
              | some o =>
                rw [keepH x o hxA e]
                exact fun z => nomatch z
          · refine E'.anc.gnew x ?_ (En0.anc.gnew x e1 e2)
            intro z
            exact e1 (En0.fresh z)
        refine ⟨anc, ⟨A1 ++ A3, .cons cvB b1, pA.nodup_iff.mpr (List.nodup_append.mpr ⟨ndC, nd2.2.1, fun x mx y my e => dis x (subC.subset mx) (e ▸ my)⟩), fun x mx => ?_⟩, by rw [lenEq]; exact En0.len, fun i j p e => ?_⟩
        · rcases List.mem_append.mp (pA.mem_iff.mp mx) with mx | mx
          · exact f' x (subC.subset mx)
          · refine E'.anc.gnew x ?_ (fR x mx)
            obtain ⟨u, hu⟩ := thR x mx
            show H x ≠ none
            rw [hu]
            exact fun z => nomatch z
        · cases hs : noSlots as with
          | false =>
            have hn : noAlis ρ = true := by
              unfold aliOk at hal
              rw [hs] at hal
              simpa using hal
            exact absurd e (backAt_noAlis (movedAt_noAlis (noAlis_get hn)))
          | true =>
            rw [backAt_noSlots hs, movedAt_noSlots hs] at e
            obtain ⟨v', w, q1, q2, q3⟩ := En0.ali i j p e
            refine ⟨v', w, q1, q2, q3.ex fun x o e => keepH x o (fun z => ?_) e⟩
            have hk : ∀ {as : List Ar} {As : List (List Addr)}, noSlots as = true → As.length = as.length → (∀ k : Nat, k < As.length → As.getD k [] = []) → As.flatten = [] := fun {as As} _ hl hk => by
              rw [List.flatten_eq_nil_iff]
              intro L hL
              obtain ⟨k, hk'⟩ := List.getElem?_of_mem hL
              have := hk k (List.getElem?_eq_some_iff.mp hk').1
              rw [List.getD_eq_getElem?_getD, hk'] at this
              exact this
            have vals : ∀ {as : List Ar} {vs : List V} {n : Nat} {ρ : List Slot} {A : List Addr} {B' : Base}, noSlots as = true → Cells K B' G H (vs.map some) (insAt n ρ as) A → A = [] := by
              intro as
              induction as with
              | nil =>
                intro vs n ρ A B' _ c
                cases vs with
                | nil =>
                  cases c
                  rfl
                | cons v vs => cases c
              | cons a as ih =>
                intro vs n ρ A B' hs c
                cases a with
                | slot i => cases hs
                | val d =>
                  cases vs with
                  | nil => cases c
                  | cons v vs =>
                    cases c with
                    | cons c r =>
                      cases c
                      exact ih hs r
            have := vals hs cA
            rw [this] at z
            exact nomatch z
end
/-! ### arguments -/
section
variable {X : Cx} {B : Base} {ρ : List Slot} {e : Expr} {es : List Expr} {pos : Pos}
theorem ja_nil : JA X B ρ [] (.ok ()) (fun _ => []) (fun _ => ρ) := PA_imp pa_nil fun σ H Q ⟨G, E, q⟩ => q [] G H (Ex.refl G) E .nil
theorem ja_p {d : D} {β : Type} {m : R β} {as : β → List Ar} {ρ' : β → List Slot} (h : JP X B ρ e d) (t : JA X B ρ es m as ρ') (hst : starEach (e :: es) X.env = (false, eval e X.env) :: starEach es X.env := by rfl) : JA X B ρ (e :: es) m (fun b => .val d :: as b) ρ' :=
  PA_imp (pa_cons h t hst) fun σ H Q ⟨G, E, q⟩ => ⟨G, E, fun v G1 H1 x1 E1 => ⟨G1, E1.pop, R.post_mono q fun b k vs G2 H2 x2 E2 ok => k _ G2 H2 (x1.trans x2) E2 (.val (E1.top.ex x2) ok)⟩⟩
theorem ja_e {α β : Type} {ma : R α} {xa : α → D} {ρa : α → List Slot} {mb : α → R β} {as : α → β → List Ar} {ρ' : α → β → List Slot} (h : JE X B ρ e ma (fun x => .val (xa x)) ρa) (t : ∀ x, JA X B (ρa x) es (mb x) (as x) (ρ' x)) (hst : starEach (e :: es) X.env = (false, eval e X.env) :: starEach es X.env := by rfl) :
    JA X B ρ (e :: es) (ma.bind fun x => (mb x).bind fun y => .ok (x, y)) (fun p => .val (xa p.1) :: as p.1 p.2) (fun p => ρ' p.1 p.2) := by
  have t' : PA X es (fun σ H Q => ∃ x, tJA X.K B (ρa x) (mb x) (as x) (ρ' x) σ H Q) := ⟨fun pos pins s σ H Q I ⟨x, q⟩ => (t x).run pos pins s σ H Q I q⟩
  exact PA_imp (pa_cons h t' hst) fun σ H Q ⟨G, E, q⟩ => ⟨G, E, R.post_mono (R.post_bind.mp q) fun x k v G1 H1 x1 E1 => ⟨x, G1, E1.pop, R.post_mono (R.post_bind.mp k) fun y k vs G2 H2 x2 E2 ok => k _ G2 H2 (x1.trans x2) E2 (.val (E1.top.ex x2) ok)⟩⟩
/-- an owned slot handed on -/
theorem ja_s (i : Nat) {x : Str} {β : Type} {m : R β} {as : β → List Ar} {ρ' : β → List Slot} (t : JA X B ρ es m as ρ') (h : isOwn ρ[i]? = true := by rfl) (hN : X.N[i]? = some x := by rfl) (hv : Vis X.env.scope x := by first | exact Or.inl rfl | exact Or.inr (Or.inl rfl) | exact Or.inr (Or.inr rfl))
    (hd : (x == ("__debug__" : Str)) = false := by decide) (hcd : (x == ("__classdict__" : Str)) = false := by decide) : JA X B ρ (.Name x pos :: es) m (fun b => .slot i :: as b) ρ' :=
  PA_imp (pa_cons (pv i hN hv hd hcd) t) fun σ H Q ⟨G, E, q⟩ => by
    obtain ⟨l, o, e⟩ := isOwn_inv h
    obtain ⟨A, c, _, _⟩ := E.own
    obtain ⟨v, _, _, e1, _⟩ := Cells.take1 (show Cells X.K B G H σ ρ A from c) e
    exact ⟨v, e1, G, E, R.post_mono q fun b k vs G2 H2 x2 E2 ok => k _ G2 H2 x2 E2 (.slot e1 ok)⟩
/-- data arguments -/
def arDs : List Ar → List D
  | [] => []
  | .val d :: as => d :: arDs as
  | .slot _ :: as => .none :: arDs as
theorem ArOk.ds {K : PySem.W.Frag} {G : Hp} {σ : L2.St} {vs : List V} {as : List Ar} (h : ArOk K G σ vs as) (hs : noSlots as = true) : RpAll K G vs (arDs as) := by
  induction h with
  | nil => exact .nil
  | val r _ ih => exact .cons r (ih hs)
  | slot _ _ _ => cases hs
/-! ### displays -/
theorem je_tup {x1 : Nat} {β : Type} {m : R β} {as : β → List Ar} {ρ' : β → List Slot} (h : JA X B ρ es m as ρ') (hs : ∀ b, noSlots (as b) = true := by intro _; rfl) (hl : ∀ b, (arDs (as b)).length ≤ 1000 := by intro _; exact of_decide_eq_true rfl) : JE X B ρ (.Tuple es x1 pos) m (fun b => .val (.tuple (arDs (as b)))) ρ' :=
  PE_imp (pe_tup h) fun σ H Q ⟨G, E, q⟩ => ⟨G, E, R.post_mono q fun b k vs G1 H1 x1 E1 ok => by
    have r := ok.ds (hs b)
    refine ⟨?_, fun p hp => k _ (upd G1 p (.tup vs)) _ (x1.trans (Ex.new (E1.sub.back hp))) ((E1.new hp _).push (.tup (.inl (.inl upd_same)) ?_))⟩
    · rw [r.len]
      exact Nat.le_of_lt (small1000 (hl b))
    · exact RpAll.ex (Ex.new (E1.sub.back hp)) r⟩
theorem je_lst {β : Type} {m : R β} {as : β → List Ar} {ρ' : β → List Slot} (h : JA X B ρ es m as ρ') (hs : ∀ b, noSlots (as b) = true := by intro _; rfl) (hl : ∀ b, (arDs (as b)).length ≤ 1000 := by intro _; exact of_decide_eq_true rfl) : JE X B ρ (.List es pos) m (fun b => .own 0 (.lst ((arDs (as b)).map OT.dat))) ρ' :=
  PE_imp (pe_lst h) fun σ H Q ⟨G, E, q⟩ => ⟨G, E, R.post_mono q fun b k vs G1 H1 x1 E1 ok => by
    have r := ok.ds (hs b)
    refine ⟨?_, fun p hp => k _ G1 _ x1 (E1.newL hp r)⟩
    rw [r.len]
    exact Nat.le_of_lt (small1000 (hl b))⟩
/-! ### calls -/
section
variable {CX : CXT} {k : Nat} {f : Addr} {fd : FuncData} {ps : List Str} {EE : XK} {x : Str} {p : Pos}
theorem je_call {α β γ : Type} {ins : α → List Slot} {mf : α → R β} {sl : β → Slot} {outs : β → List Slot} (F : FnG X.prog X.w X.K X.mg X.base CX k f fd ps (spM X.K ins mf sl outs)) (hr : RoomG k X.A) (hg : Gl X x) (hm : X.mg x = some (.ref f)) (hk : PySem.W.keepIn X.K (.ref f) = true)
    (hb : Binds X.K fd ps []) (hx : Passes CX X EE) {ma : R γ} {as : γ → List Ar} {ρa : γ → List Slot} (arg : γ → α) (ha : JA X B ρ (e :: es) ma as ρa) (hne : ∀ e, ¬ B.rs e) (hi : ∀ c, goodIn (ρa c) (as c) = true := by intro _; rfl) (hins : ∀ c, insAt 0 (ρa c) (as c) = ins (arg c) := by intro _; rfl)
    (ho : ∀ c b, goodOut 0 (as c) (outs b) = true := by intro _ _; rfl) (hal : ∀ c, aliOk (ρa c) (as c) = true := by intro _; rfl) (hres : ∀ b, resOk (sl b) = true := by intro _; rfl)
    (hdb : (x == ("__debug__" : Str)) = false := by decide) (he : starEach (e :: es) X.env = (false, eval e X.env) :: starEach es X.env := by rfl) (hpl : (backTo pos (starEach es X.env)).any (·.1) = false := by rfl) :
    JE X B ρ (.Call (.Name x p) (e :: es) [] pos) (ma.bind fun c => (mf (arg c)).bind fun b => .ok (c, b)) (fun y => sl y.2) (fun y => backAt (ρa y.1) (movedAt (ρa y.1) (as y.1)) (as y.1) (outs y.2)) :=
  PE_imp (pe_callG F hr hg hm hk hb hx ha hdb he hpl) fun σ H Q ⟨G, E, q⟩ => ⟨G, E, R.post_mono (R.post_bind.mp q) fun c k vs G1 H1 x1 E1 ok => by
    show spM X.K ins mf sl outs (vs ++ []) H1 Q EE
    rw [List.append_nil]
    exact call_sp (arg c) E1 ok (hi c) (hins c) (ho c) (hal c) hres hne (R.post_mono (R.post_bind.mp k) fun b k v G2 H2 x2 E2 => k v G2 H2 (x1.trans x2) E2)⟩
/-- its arguments pure -/
theorem je_callP {α β : Type} {ins : α → List Slot} {mf : α → R β} {sl : β → Slot} {outs : β → List Slot} (F : FnG X.prog X.w X.K X.mg X.base CX k f fd ps (spM X.K ins mf sl outs)) (hr : RoomG k X.A) (hg : Gl X x) (hm : X.mg x = some (.ref f)) (hk : PySem.W.keepIn X.K (.ref f) = true)
    (hb : Binds X.K fd ps []) (hx : Passes CX X EE) {as : List Ar} (arg : α) (ha : JA X B ρ (e :: es) (.ok ()) (fun _ => as) (fun _ => ρ)) (hne : ∀ e, ¬ B.rs e) (hi : goodIn ρ as = true := by rfl) (hins : insAt 0 ρ as = ins arg := by rfl)
    (ho : ∀ b, goodOut 0 as (outs b) = true := by intro _; rfl) (hal : aliOk ρ as = true := by rfl) (hres : ∀ b, resOk (sl b) = true := by intro _; rfl)
    (hdb : (x == ("__debug__" : Str)) = false := by decide) (he : starEach (e :: es) X.env = (false, eval e X.env) :: starEach es X.env := by rfl) (hpl : (backTo pos (starEach es X.env)).any (·.1) = false := by rfl) :
    JE X B ρ (.Call (.Name x p) (e :: es) [] pos) (mf arg) sl (fun y => backAt ρ (movedAt ρ as) as (outs y)) :=
  PE_imp (pe_callG F hr hg hm hk hb hx ha hdb he hpl) fun σ H Q ⟨G, E, q⟩ => ⟨G, E, fun vs G1 H1 x1 E1 ok => by
    show spM X.K ins mf sl outs (vs ++ []) H1 Q EE
    rw [List.append_nil]
    exact call_sp arg E1 ok hi hins ho hal hres hne (R.post_mono q fun b k v G2 H2 x2 E2 => k v G2 H2 (x1.trans x2) E2)⟩
end
end
end DL

/-! DL5: statements, loops -/
namespace DL
open PySem PySem.Spec L2

inductive Fl (N L T : Type) where
  | nx (n : N)
  | ct (l : L)
  | bk (l : L)
  | rt (t : T)
/-- how the ways out stand -/
structure Fin (N L T : Type) where
  n : N → List Slot
  c : L → List Slot
  k : L → List Slot
  s : T → Slot
  t : T → List Slot
def flP (K : PySem.W.Frag) (B : Base) (G : Hp) (D : Ends) {N L T : Type} (F : Fin N L T) : Fl N L T → Prop
  | .nx n => ∀ σ' G' H', Ex G G' → En K B G' H' σ' (F.n n) [] → D.nx σ' H'
  | .ct l => ∀ σ' G' H', Ex G G' → En K B G' H' σ' (F.c l) [] → D.ct σ' H'
  | .bk l => ∀ σ' G' H', Ex G G' → En K B G' H' σ' (F.k l) [] → D.bk σ' H'
  | .rt t => ∀ v σ' G' H', Ex G G' → En K B G' H' σ' (F.t t) [(v, F.s t)] → D.rt v H'
def tJS (K : PySem.W.Frag) (B : Base) (ρ : List Slot) {N L T : Type} (m : R (Fl N L T)) (F : Fin N L T) : TS := fun D σ H =>
  ∃ G, En K B G H σ ρ [] ∧ m.post (flP K B G D F) B.rs
def JS (X : Cx) (B : Base) (ρ : List Slot) (st : Stmt) {N L T : Type} (m : R (Fl N L T)) (F : Fin N L T) : Prop := PS X st (tJS X.K B ρ m F)
def JSs (X : Cx) (B : Base) (ρ : List Slot) (sts : List Stmt) {N L T : Type} (m : R (Fl N L T)) (F : Fin N L T) : Prop := PSs X sts (tJS X.K B ρ m F)
/-- a statement that just goes on -/
def tJ1 (K : PySem.W.Frag) (B : Base) (ρ : List Slot) {β : Type} (m : R β) (ρ' : β → List Slot) : TS := fun D σ H =>
  ∃ G, En K B G H σ ρ [] ∧ m.post (fun b => ∀ σ' G' H', Ex G G' → En K B G' H' σ' (ρ' b) [] → D.nx σ' H') B.rs
def J1 (X : Cx) (B : Base) (ρ : List Slot) (st : Stmt) {β : Type} (m : R β) (ρ' : β → List Slot) : Prop := PS X st (tJ1 X.K B ρ m ρ')
def bindF {N1 N L T : Type} (m : R (Fl N1 L T)) (k : N1 → R (Fl N L T)) : R (Fl N L T) := m.bind fun
  | .nx n => k n
  | .ct l => .ok (.ct l)
  | .bk l => .ok (.bk l)
  | .rt t => .ok (.rt t)
theorem flP_ex {K : PySem.W.Frag} {B : Base} {G G1 : Hp} {D : Ends} {N L T : Type} {F : Fin N L T} {f : Fl N L T} (h : flP K B G D F f) (e : Ex G G1) : flP K B G1 D F f := by
  cases f with
  | nx n => exact fun σ' G' H' x E => h σ' G' H' (e.trans x) E
  | ct n => exact fun σ' G' H' x E => h σ' G' H' (e.trans x) E
  | bk n => exact fun σ' G' H' x E => h σ' G' H' (e.trans x) E
  | rt n => exact fun v σ' G' H' x E => h v σ' G' H' (e.trans x) E
section
variable {X : Cx} {B : Base} {ρ : List Slot} {st : Stmt} {rest : List Stmt} {N N1 L T β : Type} {F : Fin N L T} {pos : Pos} {e : Expr}
theorem js_nil (bs : List Bool) (n : N) (h : forgot ρ bs = F.n n := by rfl) : JSs X B ρ [] (.ok (.nx n)) F :=
  PSs_imp pss_nil fun D σ H ⟨G, E, q⟩ => q σ G H (Ex.refl G) (by
    rw [← h]
    exact E.forgot bs)
theorem js_one {m : R (Fl N L T)} (h : JS X B ρ st m F) : JSs X B ρ [st] m F := pss_one h
theorem js_cons1 {m : R β} {ρ' : β → List Slot} {k : β → R (Fl N L T)} (h : J1 X B ρ st m ρ') (r : ∀ b, JSs X B (ρ' b) rest (k b) F) : JSs X B ρ (st :: rest) (m.bind k) F := by
  have r' : PSs X rest (fun D σ H => ∃ b, tJS X.K B (ρ' b) (k b) F D σ H) := ⟨fun pins s σ H D I ⟨b, q⟩ => (r b).run pins s σ H D I q⟩
  exact PSs_imp (pss_cons h r') fun D σ H ⟨G, E, q⟩ => ⟨G, E, R.post_mono (R.post_bind.mp q) fun b q1 σ' G' H' x E' => ⟨b, G', E', R.post_mono q1 fun f q2 => flP_ex q2 x⟩⟩
theorem js_cons {m : R (Fl N1 L T)} {ρ1 : N1 → List Slot} {k : N1 → R (Fl N L T)} (h : JS X B ρ st m ⟨ρ1, F.c, F.k, F.s, F.t⟩) (r : ∀ n, JSs X B (ρ1 n) rest (k n) F) : JSs X B ρ (st :: rest) (bindF m k) F := by
  have r' : PSs X rest (fun D σ H => ∃ b, tJS X.K B (ρ1 b) (k b) F D σ H) := ⟨fun pins s σ H D I ⟨b, q⟩ => (r b).run pins s σ H D I q⟩
  exact PSs_imp (pss_cons h r') fun D σ H ⟨G, E, q⟩ => ⟨G, E, R.post_mono (R.post_bind.mp q) fun f q1 => by
    cases f with
    | nx n => exact fun σ' G' H' x E' => ⟨n, G', E', R.post_mono q1 fun f q2 => flP_ex q2 x⟩
    | ct n => exact q1
    | bk n => exact q1
    | rt n => exact q1⟩
theorem js_ret {m : R β} {sl : β → Slot} {ρ' : β → List Slot} (f : β → T) (bs : List Bool) (h : JE X B ρ e m sl ρ') (hs : ∀ b, F.s (f b) = sl b := by intro _; rfl) (ht : ∀ b, forgot (ρ' b) bs = F.t (f b) := by intro _; rfl) : JS X B ρ (.Return (some e) pos) (m.bind fun b => .ok (.rt (f b))) F :=
  PS_imp (ps_ret h) fun D σ H ⟨G, E, q⟩ => ⟨G, E, R.post_mono (R.post_bind.mp q) fun b q1 v G' H' x E' => q1 v σ G' H' x (by
    rw [hs b, ← ht b]
    obtain ⟨A, c, nd, f'⟩ := E'.own
    cases c with
    | @cons _ _ A1 _ _ A2 c1 cr =>
      obtain ⟨A3, h1, h2⟩ := Cells.forgot bs (show Cells X.K B G' H' σ (ρ' b) A2 from cr)
      have sub : (A1 ++ A3).Sublist (A1 ++ A2) := h2.append_left A1
      refine ⟨E'.anc, ⟨A1 ++ A3, .cons c1 h1, sub.nodup nd, fun a m => f' a (sub.subset m)⟩, by rw [forgot_len]; exact E'.len, fun i j p e => ?_⟩
      rcases forgot_get (ρ' b) bs i _ e with z | z
      · cases z
      · exact E'.ali i j p z)⟩
theorem js_if {c : Expr} {a b : List Stmt} {mc : R β} {bn : β → Bool} {ρ' : β → List Slot} {ma mb : β → R (Fl N L T)} (h : JT X B ρ c mc bn ρ') (ha : ∀ x, JSs X B (ρ' x) a (ma x) F) (hb : ∀ x, JSs X B (ρ' x) b (mb x) F) :
    JS X B ρ (.If c a b pos) (mc.bind fun x => if bn x = true then ma x else mb x) F := by
  have ha' : PSs X a (fun D σ H => ∃ x, tJS X.K B (ρ' x) (ma x) F D σ H) := ⟨fun pins s σ H D I ⟨x, q⟩ => (ha x).run pins s σ H D I q⟩
  have hb' : PSs X b (fun D σ H => ∃ x, tJS X.K B (ρ' x) (mb x) F D σ H) := ⟨fun pins s σ H D I ⟨x, q⟩ => (hb x).run pins s σ H D I q⟩
  refine PS_imp (ps_if h ha' hb') fun D σ H ⟨G, E, q⟩ => ⟨G, E, R.post_mono (R.post_bind.mp q) fun x q1 G' H' y E' => ?_⟩
  cases hx : bn x with
  | true =>
    rw [if_pos hx] at q1
    exact ⟨x, G', E', R.post_mono q1 fun f q2 => flP_ex q2 y⟩
  | false =>
    rw [if_neg (by rw [hx]; decide)] at q1
    exact ⟨x, G', E', R.post_mono q1 fun f q2 => flP_ex q2 y⟩
/-- the test pure -/
theorem js_ifP {c : Expr} {a b : List Stmt} {t : Bool} {ma mb : R (Fl N L T)} (h : TP0 X B ρ c t) (ha : JSs X B ρ a ma F) (hb : JSs X B ρ b mb F) : JS X B ρ (.If c a b pos) (if t = true then ma else mb) F :=
  js_if (mc := .ok ()) (bn := fun _ => t) (ma := fun _ => ma) (mb := fun _ => mb) h (fun _ => ha) fun _ => hb
theorem js_break {F : Fin N L T} (bs : List Bool) (l : L) (h : forgot ρ bs = F.k l := by rfl) : JS X B ρ (.Break pos) (.ok (.bk l)) F :=
  PS_imp ps_break fun D σ H ⟨G, E, q⟩ => q σ G H (Ex.refl G) (by
    rw [← h]
    exact E.forgot bs)
theorem js_continue {F : Fin N L T} (bs : List Bool) (l : L) (h : forgot ρ bs = F.c l := by rfl) : JS X B ρ (.Continue pos) (.ok (.ct l)) F :=
  PS_imp ps_continue fun D σ H ⟨G, E, q⟩ => q σ G H (Ex.refl G) (by
    rw [← h]
    exact E.forgot bs)
theorem j1_pass : J1 X B ρ (.Pass pos) (.ok ()) (fun _ => ρ) := PS_imp ps_pass fun D σ H ⟨G, E, q⟩ => q σ G H (Ex.refl G) E
theorem j1_expr {m : R β} {sl : β → Slot} {ρ' : β → List Slot} (h : JE X B ρ e m sl ρ') (hs : swapsWith e none pos.line X.env = pure false := by rfl) : J1 X B ρ (.Expr e pos) m ρ' :=
  PS_imp (ps_expr h hs) fun D σ H ⟨G, E, q⟩ => ⟨G, E, R.post_mono q fun b q1 v G' H' x E' => q1 σ G' H' x E'.pop⟩
/-- x = e -/
theorem j1_set (i : Nat) {x : Str} {pos' : Pos} {m : R β} {sl : β → Slot} {ρ' : β → List Slot} (hN : X.N.Nodup) (h : JE X B ρ e m sl ρ') (hi : X.N[i]? = some x := by rfl) (hx : Loc X.env.scope x := by first | exact Or.inl rfl | exact Or.inr rfl)
    (hlt : ∀ b, i < (ρ' b).length := by intro _; exact of_decide_eq_true rfl) (hal : ∀ b, noAli i (ρ' b) = true := by intro _; rfl) (hres : ∀ b, resOk (sl b) = true := by intro _; rfl)
    (hs : swapsWith e (some (.Name x pos')) pos.line X.env = pure false := by rfl) (hf : X.fn x = true ∨ X.env.scope.names.lookup x = some .local := by first | exact .inl rfl | exact .inr rfl) : J1 X B ρ (.Assign [.Name x pos'] e pos) m (fun b => (ρ' b).set i (sl b)) :=
  PS_imp (ps_set (i := i) hN hi hx h (hs := hs) (hf := hf)) fun D σ H ⟨G, E, q⟩ => ⟨G, E, R.post_mono q fun b q1 v G' H' x E' => q1 (σ.set i (some v)) G' H' x (E'.set (hlt b) (fun j p z => by
    have := hres b
    rw [z] at this
    cases this) (hal b))⟩
end
end DL

/-! DL6: targets, loops -/
namespace DL
open PySem PySem.Spec L2

section
variable {K : PySem.W.Frag} {B : Base} {G G' H H' : Hp} {σ : L2.St} {ρ : List Slot} {ex : List (V × Slot)}
/-- an owned list of data, changed to another one of data -/
theorem own_dats : ∀ {vs : List V} {ds : List D}, RpAll K G vs ds → OwnAll K G H vs (ds.map OT.dat) []
  | _, _, .nil => .nil
  | _, _, .cons h r => .cons (A := []) (A' := []) (.dat h) (own_dats r)
theorem own_dats_inv : ∀ {vs : List V} {ds : List D} {A : List Addr}, OwnAll K G H vs (ds.map OT.dat) A → A = [] ∧ RpAll K G vs ds
  | _, [], _, h => by
    cases h
    exact ⟨rfl, .nil⟩
  | _, d :: ds, _, h => by
    cases h with
    | cons h r =>
      cases h with
      | dat h =>
        obtain ⟨e, r⟩ := own_dats_inv r
        exact ⟨by rw [e]; rfl, .cons h r⟩
theorem En.ownD (E : En K B G H σ ρ ex) {i l : Nat} {ds : List D} (h : ρ[i]? = some (.own l (.lst (ds.map OT.dat)))) (hal : noAlis ρ = true) : ∃ p vs, σ[i]? = some (some (.ref p)) ∧ H p = some (.lst vs) ∧ RpAll K G vs ds ∧
    ∀ G' H1 ex' vs' ds', En K B G' H1 σ ρ ex' → Ex G G' → H1 p = some (.lst vs) → RpAll K G' vs' ds' → En K B G' (upd H1 p (.lst vs')) σ (ρ.set i (.own l (.lst (ds'.map OT.dat)))) ex' := by
  obtain ⟨A, c, n, f⟩ := E.own
  have gen : ∀ {G H : Hp} {ex : List (V × Slot)} {A : List Addr}, Cells K B G H (ex.map (fun p => some p.1) ++ σ) (ex.map (·.2) ++ ρ) A → ∃ p vs A1 A2, σ[i]? = some (some (.ref p)) ∧ H p = some (.lst vs) ∧ RpAll K G vs ds ∧ A1 = [p] ∧ ((p ∈ B.Mo l ∨ B.H0 p = none) ∧ (l = 0 ∨ B.pv l = some (.ref p))) ∧
      Cells K B G H (ex.map (fun p => some p.1) ++ σ) ((ex.map (·.2) ++ ρ).set (ex.length + i) .non) A2 ∧ A.Perm (A1 ++ A2) := fun {G H ex A} c => by
    obtain ⟨v, A1, A2, e1, hO, ⟨hl, hv⟩, c2, p⟩ := c.take1 (i := ex.length + i) (l := l) (o := .lst (ds.map OT.dat)) (by
      rw [List.getElem?_append_right (by simp), List.length_map]
      simpa using h)
    rw [List.getElem?_append_right (by simp), List.length_map] at e1
    cases hO with
    | @lst a vs _ A3 ha hall =>
      obtain ⟨e3, r⟩ := own_dats_inv hall
      subst e3
      exact ⟨a, vs, [a], A2, by simpa using e1, ha, r, rfl, ⟨hl a (by simp), hv⟩, c2, p⟩
  obtain ⟨p, vs, A1, A2, e1, e2, e3, e4, e5, c2, pm⟩ := gen c
  refine ⟨p, vs, e1, e2, e3, fun G' H1 ex' vs' ds' E' hG hp r' => ?_⟩
  obtain ⟨A', c', n', f'⟩ := E'.own
  obtain ⟨q, ws, B1, B2, g1, g2, g3, g4, g5, d2, pm'⟩ := gen c'
  have epq : q = p := by
    have z := g1.symm.trans e1
    injection z with z
    injection z with z
    injection z
  subst epq
  subst g4
  have nq := pm'.nodup_iff.mp n'
  have nq2 : q ∉ B2 := (List.nodup_cons.mp nq).1
  have fq : G' q = none := f' q (pm'.mem_iff.mpr (by simp))
  have d3 : Cells K B G' (upd H1 q (.lst vs')) (ex'.map (fun p => some p.1) ++ σ) ((ex'.map (·.2) ++ ρ).set (ex'.length + i) .non) B2 := d2.ex (Ex.refl _) fun a m u e => by
    rw [upd_ne (fun z => nq2 (by rw [← z]; exact m))]
    exact e
  have hi : i < ρ.length := (List.getElem?_eq_some_iff.mp h).1
  obtain ⟨A3, c3, p3⟩ := d3.put1 (i := ex'.length + i) (l := l) (o := .lst (ds'.map OT.dat)) (v := .ref q) (A1 := [q]) (by
      rw [List.getElem?_set_self (by simp; omega)]) (by
      rw [List.getElem?_append_right (by simp), List.length_map]
      simpa using g1) (.lst upd_same (own_dats r')) ⟨fun a m => by
      rw [List.mem_singleton.mp m]
      exact g5.1, g5.2⟩
  rw [List.set_set, List.set_append_right _ _ (by simp), List.length_map, Nat.add_sub_cancel_left] at c3
  refine ⟨E'.anc.put fq (g5.1.imp (fun z => ⟨l, z⟩) id) _, ⟨A3, c3, p3.nodup_iff.mpr nq, fun a m => ?_⟩, by rw [List.length_set]; exact E'.len, fun k j pa e => ?_⟩
  · exact f' a (pm'.mem_iff.mpr (p3.mem_iff.mp m))
  · have hk : i ≠ k := fun z => by
      subst z
      rw [List.getElem?_set_self hi] at e
      cases e
    rw [List.getElem?_set_ne hk] at e
    exact absurd e (noAlis_get hal)
end
/-! ### targets -/
def tJG (K : PySem.W.Frag) (B : Base) (ρ : List Slot) (d : D) {γ : Type} (m : R γ) (ρ' : γ → List Slot) : TG := fun v σ H Q =>
  ∃ G, En K B G H σ ρ [] ∧ Rp K G v d ∧ m.post (fun c => ∀ σ' G' H', Ex G G' → En K B G' H' σ' (ρ' c) [] → Q σ' H') B.rs
def JG (X : Cx) (B : Base) (ρ : List Slot) (tg : Expr) (d : D) {γ : Type} (m : R γ) (ρ' : γ → List Slot) : Prop := PG X tg (tJG X.K B ρ d m ρ')
def tJGs (K : PySem.W.Frag) (B : Base) (ρ : List Slot) (ds : List D) {γ : Type} (m : R γ) (ρ' : γ → List Slot) : TGs := fun vs σ H Q =>
  ∃ G, En K B G H σ ρ [] ∧ RpAll K G vs ds ∧ m.post (fun c => ∀ σ' G' H', Ex G G' → En K B G' H' σ' (ρ' c) [] → Q σ' H') B.rs
def JGs (X : Cx) (B : Base) (ρ : List Slot) (ts : List Expr) (ds : List D) {γ : Type} (m : R γ) (ρ' : γ → List Slot) : Prop := PGs X ts (tJGs X.K B ρ ds m ρ')
section
variable {X : Cx} {B : Base} {ρ : List Slot} {pos : Pos} {e a b : Expr}
theorem PG_imp {e : Expr} {t t' : TG} (h : PG X e t) (k : ∀ v σ H Q, t' v σ H Q → t v σ H Q) : PG X e t' := ⟨fun pins s σ H v u Q I r q => h.run pins s σ H v u Q I r (k v σ H Q q)⟩
theorem PGs_imp {e : List Expr} {t t' : TGs} (h : PGs X e t) (k : ∀ v σ H Q, t' v σ H Q → t v σ H Q) : PGs X e t' := ⟨fun pins s σ H v u Q I r q => h.run pins s σ H v u Q I r (k v σ H Q q)⟩
theorem jg_name (i : Nat) {x : Str} {d : D} (hN : X.N.Nodup) (hi : X.N[i]? = some x := by rfl) (hx : Loc X.env.scope x := by first | exact Or.inl rfl | exact Or.inr rfl) (hf : X.fn x = true ∨ X.env.scope.names.lookup x = some .local := by first | exact .inl rfl | exact .inr rfl)
    (hlt : i < ρ.length := by exact of_decide_eq_true rfl) (hal : noAli i ρ = true := by rfl) : JG X B ρ (.Name x pos) d (.ok ()) (fun _ => ρ.set i (.val d)) :=
  PG_imp (pg_name (i := i) hN hi hx hf) fun v σ H Q ⟨G, E, r, q⟩ => q (σ.set i (some v)) G H (Ex.refl G) ((E.push r).set hlt (fun _ _ z => nomatch z) hal)
theorem jgs_nil : JGs X B ρ [] [] (.ok ()) (fun _ => ρ) := PGs_imp pgs_nil fun vs σ H Q ⟨G, E, r, q⟩ => by
  cases r
  exact ⟨rfl, q σ G H (Ex.refl G) E⟩
theorem jgs_cons {es : List Expr} {d : D} {ds : List D} {γ δ : Type} {m : R γ} {ρ1 : γ → List Slot} {m2 : γ → R δ} {ρ2 : γ → δ → List Slot} (h : JG X B ρ e d m ρ1) (t : ∀ c, JGs X B (ρ1 c) es ds (m2 c) (ρ2 c))
    (hs : (assignEach (e :: es) X.env).map (·.2) = assign e X.env :: (assignEach es X.env).map (·.2) := by rfl) : JGs X B ρ (e :: es) (d :: ds) (m.bind fun c => (m2 c).bind fun c2 => .ok (c, c2)) (fun p => ρ2 p.1 p.2) := by
  have t' : PGs X es (fun vs σ H Q => ∃ c, tJGs X.K B (ρ1 c) ds (m2 c) (ρ2 c) vs σ H Q) := ⟨fun pins s σ H vs us Q I r ⟨c, q⟩ => (t c).run pins s σ H vs us Q I r q⟩
  refine PGs_imp (pgs_cons h t' hs) fun vs σ H Q ⟨G, E, r, q⟩ => ?_
  cases r with
  | cons r rr => exact ⟨_, _, rfl, G, E, r, R.post_mono (R.post_bind.mp q) fun c q1 σ' G' H' x E' => ⟨c, G', E', rr.ex x, R.post_mono (R.post_bind.mp q1) fun c2 q2 σ2 G2 H2 x2 E2 => q2 σ2 G2 H2 (x.trans x2) E2⟩⟩
/-- the first target a name -/
theorem jgs_p {es : List Expr} {d : D} {ds : List D} {δ : Type} {ρ1 : List Slot} {m2 : R δ} {ρ2 : δ → List Slot} (h : JG X B ρ e d (.ok ()) (fun _ => ρ1)) (t : JGs X B ρ1 es ds m2 ρ2)
    (hs : (assignEach (e :: es) X.env).map (·.2) = assign e X.env :: (assignEach es X.env).map (·.2) := by rfl) : JGs X B ρ (e :: es) (d :: ds) m2 ρ2 := by
  refine PGs_imp (pgs_cons h t hs) fun vs σ H Q ⟨G, E, r, q⟩ => ?_
  cases r with
  | cons r rr => exact ⟨_, _, rfl, G, E, r, fun σ' G' H' x E' => ⟨G', E', rr.ex x, R.post_mono q fun c2 q2 σ2 G2 H2 x2 E2 => q2 σ2 G2 H2 (x.trans x2) E2⟩⟩
theorem jg_tup {es : List Expr} {k : Nat} {ds : List D} {γ : Type} {m : R γ} {ρ' : γ → List Slot} (hc : X.calm = true) (h : JGs X B ρ es ds m ρ') (hn : (assignEach es X.env).length = ds.length := by rfl) (hst : (assignEach es X.env).findIdx? (·.1) = none := by rfl) : JG X B ρ (.Tuple es k pos) (.tuple ds) m ρ' :=
  PG_imp (pg_tup (n := ds.length) hc h hn hst) fun v σ H Q ⟨G, E, r, q⟩ => by
    obtain ⟨a, xs, rfl, hS, hr⟩ := r.tup_inv
    exact ⟨a, xs, rfl, E.sub.t hS, hr.len, G, E, hr, q⟩
/-- targets = e -/
theorem j1_asg {tg : Expr} {β γ : Type} {m : R β} {d : β → D} {ρ' : β → List Slot} {m2 : β → R γ} {ρ2 : β → γ → List Slot} (h : JE X B ρ e m (fun b => .val (d b)) ρ') (g : ∀ b, JG X B (ρ' b) tg (d b) (m2 b) (ρ2 b))
    (hs : swapsWithSole [tg] e pos.line X.env = pure false := by rfl) (hw : swappedStores [tg] e X.env = pure none := by rfl) (h1 : (assignEach [tg] X.env).map (·.2) = [assign tg X.env] := by rfl) : J1 X B ρ (.Assign [tg] e pos) (m.bind fun b => (m2 b).bind fun c => .ok (b, c)) (fun p => ρ2 p.1 p.2) := by
  have g' : PG X tg (fun v σ H Q => ∃ b, tJG X.K B (ρ' b) (d b) (m2 b) (ρ2 b) v σ H Q) := ⟨fun pins s σ H v u Q I r ⟨b, q⟩ => (g b).run pins s σ H v u Q I r q⟩
  exact PS_imp (ps_asg h g' hs hw h1) fun D σ H ⟨G, E, q⟩ => ⟨G, E, R.post_mono (R.post_bind.mp q) fun b q1 v G' H' x E' => ⟨b, G', E'.pop, E'.top, R.post_mono (R.post_bind.mp q1) fun c q2 σ2 G2 H2 x2 E2 => q2 σ2 G2 H2 (x.trans x2) E2⟩⟩

/-- all targets names -/
theorem j1_asgN {tg : Expr} {β : Type} {m : R β} {d : β → D} {ρ' : β → List Slot} {ρ2 : β → List Slot} (h : JE X B ρ e m (fun b => .val (d b)) ρ') (g : ∀ b, JG X B (ρ' b) tg (d b) (.ok ()) (fun _ => ρ2 b))
    (hs : swapsWithSole [tg] e pos.line X.env = pure false := by rfl) (hw : swappedStores [tg] e X.env = pure none := by rfl) (h1 : (assignEach [tg] X.env).map (·.2) = [assign tg X.env] := by rfl) : J1 X B ρ (.Assign [tg] e pos) m ρ2 := by
  have g' : PG X tg (fun v σ H Q => ∃ b, tJG X.K B (ρ' b) (d b) (.ok ()) (fun _ => ρ2 b) v σ H Q) := ⟨fun pins s σ H v u Q I r ⟨b, q⟩ => (g b).run pins s σ H v u Q I r q⟩
  exact PS_imp (ps_asg h g' hs hw h1) fun D σ H ⟨G, E, q⟩ => ⟨G, E, R.post_mono q fun b q1 v G' H' x E' => ⟨b, G', E'.pop, E'.top, fun σ2 G2 H2 x2 E2 => q1 σ2 G2 H2 (x.trans x2) E2⟩⟩
/-- a, b = x, y: plain local names -/
theorem j1_par (i j : Nat) {x y : Str} {px py pt : Pos} {kt k2 : Nat} {pt2 : Pos} {β : Type} {m : R β} {as : β → List Ar} {ρ' : β → List Slot} {d1 d2 : β → D} (hc : X.calm = true) (hN : X.N.Nodup) (ha : JA X B ρ [a, b] m as ρ') (hd : ∀ c, as c = [.val (d1 c), .val (d2 c)] := by intro _; rfl)
    (hi : X.N[i]? = some x := by rfl) (hj : X.N[j]? = some y := by rfl) (hij : i ≠ j := by decide)
    (hx : X.env.scope.names.lookup x = some .local := by rfl) (hy : X.env.scope.names.lookup y = some .local := by rfl) (hw : swappedStores [.Tuple [.Name x px, .Name y py] kt pt] (.Tuple [a, b] k2 pt2) X.env = pure (some [x, y]) := by rfl)
    (hs : swapsWithSole [.Tuple [.Name x px, .Name y py] kt pt] (.Tuple [a, b] k2 pt2) pos.line X.env = pure false := by rfl) (hli : ∀ c, i < (ρ' c).length := by intro _; exact of_decide_eq_true rfl) (hlj : ∀ c, j < (ρ' c).length := by intro _; exact of_decide_eq_true rfl)
    (hai : ∀ c, noAli i (ρ' c) = true := by intro _; rfl) (haj : ∀ c, noAli j ((ρ' c).set i (.val (d1 c))) = true := by intro _; rfl) :
    J1 X B ρ (.Assign [.Tuple [.Name x px, .Name y py] kt pt] (.Tuple [a, b] k2 pt2) pos) m (fun c => ((ρ' c).set i (.val (d1 c))).set j (.val (d2 c))) :=
  PS_imp (ps_par hc hN hi hj hij hx hy ha hw hs) fun D σ H ⟨G, E, q⟩ => ⟨G, E, R.post_mono q fun c q1 vs G' H' z E' ok => by
    rw [hd c] at ok
    cases ok with
    | val r1 ok =>
      cases ok with
      | val r2 ok =>
        cases ok
        refine ⟨_, _, rfl, q1 _ G' H' z ?_⟩
        have E1 := (E'.push r1).set (hli c) (fun _ _ z => nomatch z) (hai c)
        exact (E1.push r2).set (by rw [List.length_set]; exact hlj c) (fun _ _ z => nomatch z) (haj c)⟩
/-- o[k] = .., o an owned list of data -/
theorem jg_sub (i : Nat) {x : Str} {px : Pos} {l : Nat} {α : Type} {en : α → D} {xs : List α} {y : α} {k : Int} {o2 : Expr} (h : ρ[i]? = some (.own l (.lst ((xs.map en).map OT.dat))) := by rfl) (hk : JP X B ρ o2 (.int k)) (hal : noAlis ρ = true := by rfl) (hN : X.N[i]? = some x := by rfl)
    (hv : Vis X.env.scope x := by first | exact Or.inl rfl | exact Or.inr (Or.inl rfl) | exact Or.inr (Or.inr rfl)) (hd : (x == ("__debug__" : Str)) = false := by decide) (hcd : (x == ("__classdict__" : Str)) = false := by decide)
    (ha : ∀ v, assign (.Subscript (.Name x px) o2 pos) X.env v = (do
      let ov ← holding [v] (eval (.Name x px) X.env)
      let iv ← holding [v, ov] (eval o2 X.env)
      standAt pos
      holding [v, ov, iv] (setItem ov iv v)
      release [v, ov, iv] []) := by intro _; rfl) :
    JG X B ρ (.Subscript (.Name x px) o2 pos) (en y) (R.some (ixN xs.length k)) (fun j => ρ.set i (.own l (.lst (((xs.set j y).map en).map OT.dat)))) :=
  PG_imp (pg_sub (pv i hN hv hd hcd) hk set_list ha) fun v σ H Q ⟨G, E, r, q⟩ => by
    obtain ⟨p, vs, e1, e2, e3, e4⟩ := E.ownD h hal
    obtain ⟨j, hj, q⟩ := R.post_some q
    refine ⟨.ref p, e1, G, E, fun w G1 H1 x1 E1 => ?_⟩
    have hn := E1.top.int_inv
    obtain ⟨p', vs', g1, g2, g3, g4⟩ := E1.pop.ownD h hal
    have ep : p' = p := by
      have z := g1.symm.trans e1
      injection z with z
      injection z with z
      injection z
    subst ep
    have hl : vs'.length = xs.length := by
      rw [g3.len, List.length_map]
    refine ⟨p', vs', k, j, rfl, hn, g2, by rw [hl]; exact hj, q σ G1 _ x1 ?_⟩
    have rs : ∀ {vs : List V} {ds : List D} (j : Nat), RpAll X.K G1 vs ds → RpAll X.K G1 (vs.set j v) (ds.set j (en y)) := by
      intro vs ds j h
      induction ds generalizing vs j with
      | nil =>
        cases h
        exact .nil
      | cons d ds ih =>
        cases h with
        | cons h1 h2 =>
          cases j with
          | zero => exact .cons (r.ex x1) h2
          | succ j => exact .cons h1 (ih j h2)
    have := g4 G1 H1 [] (vs'.set j v) ((xs.map en).set j (en y)) E1.pop (Ex.refl _) g2 (rs j g3)
    rw [← List.map_set] at this
    exact this
end
/-! ### loops -/
def forR {α S L T : Type} (f : α → S → R (Fl S S T)) : List α → S → R (Fl S L T)
  | [], s => .ok (.nx s)
  | x :: xs, s => (f x s).bind fun
    | .nx s' => forR f xs s'
    | .ct s' => forR f xs s'
    | .bk s' => .ok (.nx s')
    | .rt t => .ok (.rt t)
/-- an iterator that yields data -/
structure Yld (K : PySem.W.Frag) (J : It) (G : Hp) (ds : List D) : Prop where
  go : ∀ i H, i < ds.length → Ex G H → J.go i H
  stop : ∀ i H, ds.length ≤ i → Ex G H → J.stop i H
  yld : ∀ (B : Base) i G1 H1 σ ρ x H', Ex G G1 → En K B G1 H1 σ ρ [] → J.yld i H1 x H' → ∀ d, ds[i]? = some d → ∃ G2, Ex G1 G2 ∧ En K B G2 H' σ ρ [] ∧ Rp K G2 x d
def tJI (K : PySem.W.Frag) (B : Base) (ρ : List Slot) {β : Type} (m : R β) (ds : β → List D) (ρ' : β → List Slot) : TI := fun σ H Q =>
  ∃ G, En K B G H σ ρ [] ∧ m.post (fun b => ∀ J G' H', Ex G G' → En K B G' H' σ (ρ' b) [] → Yld K J G' (ds b) → Q J H') B.rs
def JI (X : Cx) (B : Base) (ρ : List Slot) (tg it : Expr) {β : Type} (m : R β) (ds : β → List D) (ρ' : β → List Slot) : Prop := PI X tg it (tJI X.K B ρ m ds ρ')
section
variable {X : Cx} {B : Base} {ρ : List Slot} {pos : Pos} {e a b tg it : Expr}
theorem PI_imp {t t' : TI} (h : PI X tg it t) (k : ∀ σ H Q, t' σ H Q → t σ H Q) : PI X tg it t' := ⟨fun pins s σ H Q I q => h.run pins s σ H Q I (k σ H Q q)⟩
theorem js_for {α β S L T : Type} {m : R β} {xs : β → List α} {en : α → D} {ρ' : β → List Slot} {s0 : β → S} (ρS : S → List Slot) (ρB : α → S → List Slot) {f : α → S → R (Fl S S T)} {F : Fin S L T} {body : List Stmt} (hp : PassesOwn (model X.prog X.w) X.A X.env X.xe) (hc : X.calm = true)
    (hi : JI X B ρ tg it m (fun b => (xs b).map en) ρ') (bs : List Bool) (hw : ∀ b, forgot (ρ' b) bs = ρS (s0 b)) (hg : ∀ x s, JG X B (ρS s) tg (en x) (.ok ()) (fun _ => ρB x s))
    (hb : ∀ x s, JSs X B (ρB x s) body (f x s) ⟨ρS, ρS, ρS, F.s, F.t⟩) (hn : F.n = ρS := by rfl) (hs : ∀ v, foldedSetIterable it X.env v = pure v := by intro _; rfl) : JS X B ρ (.For tg it body [] pos) (m.bind fun b => forR f (xs b) (s0 b)) F := by
  have hg' : PG X tg (fun v σ H Q => ∃ x s, tJG X.K B (ρS s) (en x) (.ok ()) (fun _ => ρB x s) v σ H Q) := ⟨fun pins s σ H v u Q I r ⟨x, s', q⟩ => (hg x s').run pins s σ H v u Q I r q⟩
  have hb' : PSs X body (fun D σ H => ∃ x s, tJS X.K B (ρB x s) (f x s) ⟨ρS, ρS, ρS, F.s, F.t⟩ D σ H) := ⟨fun pins s σ H D I ⟨x, s', q⟩ => (hb x s').run pins s σ H D I q⟩
  refine PS_imp (ps_for hp hc hi hg' hb' hs) fun D σ H ⟨G, E, q⟩ => ⟨G, E, R.post_mono (R.post_bind.mp q) fun b q1 J G' H' xG E' Y => ?_⟩
  have hlen : ((xs b).map en).length = (xs b).length := List.length_map _
  let W : Nat → L2.St → Hp → Prop := fun i σ' H1 => ∃ G1 s, Ex G' G1 ∧ En X.K B G1 H1 σ' (ρS s) [] ∧ (forR f ((xs b).drop i) s).post (flP X.K B G1 D F) B.rs
  refine ⟨fun i mm σ' H1 => mm = (xs b).length - i ∧ i ≤ (xs b).length ∧ W i σ' H1, ⟨_, rfl, Nat.zero_le _, G', s0 b, Ex.refl _, by rw [← hw b]; exact E'.forgot bs, R.post_mono q1 fun fl h => flP_ex h xG⟩, ?_⟩
  rintro i mm σ1 H1 ⟨rfl, hi1, G1, s, x1, E1, q2⟩
  have nxt : ∀ G2 s', Ex G' G2 → i < (xs b).length → (forR f ((xs b).drop (i + 1)) s').post (flP X.K B G2 D F) B.rs → ∀ σ' G3 H', Ex G2 G3 → En X.K B G3 H' σ' (ρS s') [] → W (i + 1) σ' H' := fun G2 s' y hlt h σ' G3 H' z E3 => ⟨G3, s', y.trans z, E3, R.post_mono h fun fl h => flP_ex h z⟩
  by_cases hlt : i < (xs b).length
  · refine .inr ⟨Y.go i H1 (by rw [hlen]; exact hlt) (x1.trans E1.sub), fun σ' H' => W (i + 1) σ' H', fun σ' H' w => ⟨_, ?_, rfl, hlt, w⟩, fun v H2 hy => ?_⟩
    · omega
    · have hd : ((xs b).map en)[i]? = some (en (xs b)[i]) := by rw [List.getElem?_map, List.getElem?_eq_getElem hlt]; rfl
      obtain ⟨G2, x2, E2, r2⟩ := Y.yld B i G1 H1 σ1 (ρS s) v H2 x1 E1 hy _ hd
      rw [List.drop_eq_getElem_cons hlt] at q2
      refine ⟨(xs b)[i], s, G2, E2, r2, fun σ' G3 H3 x3 E3 => ⟨(xs b)[i], s, G3, E3, R.post_mono (R.post_bind.mp q2) fun fl q3 => ?_⟩⟩
      have x13 := x2.trans x3
      have up : ∀ {m' : R (Fl S L T)}, m'.post (flP X.K B G1 D F) B.rs → m'.post (flP X.K B G3 D F) B.rs := fun h => R.post_mono h fun fl h => flP_ex h x13
      cases fl with
      | nx s' => exact nxt G3 s' (x1.trans x13) hlt (up q3)
      | ct s' => exact nxt G3 s' (x1.trans x13) hlt (up q3)
      | bk s' =>
        intro σ4 G4 H4 x4 E4
        have q3 : flP X.K B G1 D F (.nx s') := q3
        refine q3 σ4 G4 H4 (x13.trans x4) ?_
        rw [hn]
        exact E4
      | rt t =>
        intro v σ4 G4 H4 x4 E4
        have q3 : flP X.K B G1 D F (.rt t) := q3
        exact q3 v σ4 G4 H4 (x13.trans x4) E4
  · refine .inl ⟨Y.stop i H1 (by rw [hlen]; omega) (x1.trans E1.sub), ?_⟩
    rw [List.drop_eq_nil_of_le (by omega)] at q2
    have q2 : flP X.K B G1 D F (.nx s) := q2
    refine q2 σ1 G1 H1 (Ex.refl _) ?_
    rw [hn]
    exact E1
/-! what is walked -/
theorem yld_tup {K : PySem.W.Frag} {G : Hp} {a : Addr} {xs : List V} {ds : List D} (h : SqT K G a xs) (hr : RpAll K G xs ds) : Yld K (Itt K a) G ds where
  go := fun i H hi e => ⟨xs, xs[i]'(by rw [hr.len]; exact hi), e.t h, List.getElem?_eq_getElem _⟩
  stop := fun i H hi e => ⟨xs, e.t h, by rw [hr.len]; exact hi⟩
  yld := fun B i G1 H1 σ ρ x H' e E hy d hd => by
    obtain ⟨rfl, f⟩ := hy
    have := f xs ((e.trans E.sub).t h)
    obtain ⟨v, h1, h2⟩ := hr.get hd
    rw [this] at h1
    cases h1
    exact ⟨G1, Ex.refl _, E, h2.ex e⟩
theorem ji_list {β : Type} {m : R β} {ds : β → List D} {ρ' : β → List Slot} (h : JE X B ρ it m (fun b => .val (.list (ds b))) ρ') : JI X B ρ tg it m ds ρ' :=
  PI_imp (pi_list h) fun σ H Q ⟨G, E, q⟩ => ⟨G, E, R.post_mono q fun b q1 v G' H' x E' => by
    obtain ⟨a, xs, rfl, hS, hr⟩ := E'.top.lst_inv
    have hS' : SqL X.K G' a xs := .inl hS
    refine ⟨a, rfl, ⟨xs, E'.sub.l hS'⟩, q1 _ G' H' x E'.pop ⟨fun i H hi e => ⟨xs, xs[i]'(by rw [hr.len]; exact hi), e.l hS', List.getElem?_eq_getElem _⟩, fun i H hi e => ⟨xs, e.l hS', by rw [hr.len]; exact hi⟩, fun B i G1 H1 σ ρ x H' e E hy d hd => ?_⟩⟩
    obtain ⟨rfl, f⟩ := hy
    have := f xs ((e.trans E.sub).l hS')
    obtain ⟨v, h1, h2⟩ := hr.get hd
    rw [this] at h1
    cases h1
    exact ⟨G1, Ex.refl _, E, h2.ex e⟩⟩
theorem ji_tup {β : Type} {m : R β} {ds : β → List D} {ρ' : β → List Slot} (h : JE X B ρ it m (fun b => .val (.tuple (ds b))) ρ') : JI X B ρ tg it m ds ρ' :=
  PI_imp (pi_tup h) fun σ H Q ⟨G, E, q⟩ => ⟨G, E, R.post_mono q fun b q1 v G' H' x E' => by
    obtain ⟨a, xs, rfl, hS, hr⟩ := E'.top.tup_inv
    exact ⟨a, rfl, ⟨xs, E'.sub.t hS⟩, q1 _ G' H' x E'.pop (yld_tup hS hr)⟩⟩
/-- the ints lo, lo + 1, .. -/
def rng (lo hi : Int) : List Int := (List.range (hi - lo).toNat).map fun (k : Nat) => lo + (k : Int)
theorem yld_rng {K : PySem.W.Frag} {G : Hp} {lo : Int} {n : Nat} : Yld K (Itr lo n) G (((List.range n).map fun (k : Nat) => lo + (k : Int)).map D.int) where
  go := fun i H hi e => by
    have : i < n := by simpa using hi
    exact this
  stop := fun i H hi e => by
    have : n ≤ i := by simpa using hi
    exact this
  yld := fun B i G1 H1 σ ρ x H' e E hy d hd => by
    obtain ⟨rfl, rfl⟩ := hy
    have hi : i < n := by
      have := (List.getElem?_eq_some_iff.mp hd).1
      simpa using this
    rw [List.map_map, List.getElem?_map, List.getElem?_range hi] at hd
    cases hd
    exact ⟨G1, Ex.refl _, E, .int _⟩
def rngOk (i : Int) : Prop := -(2 ^ 62) ≤ i ∧ i < 2 ^ 62
instance {i : Int} : Decidable (rngOk i) := by unfold rngOk; infer_instance
theorem ji_rng1 {p : Pos} {β : Type} {m : R β} {as : β → List Ar} (i : β → Int) {ρ' : β → List Slot} (hm : X.mg "range" = none) (h : JA X B ρ [a] m as ρ') (ha : ∀ b, as b = [.val (.int (i b))] := by intro _; rfl) (hg : Gl X "range" := by rfl) (hs : starEach [a] X.env = [(false, eval a X.env)] := by rfl) :
    JI X B ρ tg (.Call (.Name "range" p) [a] [] pos) (m.bind fun b => (R.guard (rngOk (i b))).bind fun _ => .ok b) (fun b => (rng 0 (i b)).map D.int) ρ' :=
  PI_imp (pi_range1 hg hm h hs) fun σ H Q ⟨G, E, q⟩ => ⟨G, E, R.post_mono (R.post_bind.mp q) fun b q1 vs G' H' x E' ok => by
    obtain ⟨hc, q2⟩ := R.post_guard (R.post_bind.mp q1)
    rw [ha b] at ok
    cases ok with
    | val r ok =>
      cases ok
      refine ⟨i b, by rw [r.int_inv], hc.1, hc.2, q2 _ G' H' x E' ?_⟩
      show Yld X.K _ G' ((rng 0 (i b)).map D.int)
      unfold rng
      rw [Int.sub_zero]
      exact yld_rng⟩
theorem ji_rng2 {p : Pos} {β : Type} {m : R β} {as : β → List Ar} (i j : β → Int) {ρ' : β → List Slot} (hm : X.mg "range" = none) (h : JA X B ρ [a, b] m as ρ') (ha : ∀ b, as b = [.val (.int (i b)), .val (.int (j b))] := by intro _; rfl) (hg : Gl X "range" := by rfl)
    (hs : starEach [a, b] X.env = [(false, eval a X.env), (false, eval b X.env)] := by rfl) (hs2 : starEach [b] X.env = [(false, eval b X.env)] := by rfl) :
    JI X B ρ tg (.Call (.Name "range" p) [a, b] [] pos) (m.bind fun b => (R.guard (rngOk (i b) ∧ rngOk (j b))).bind fun _ => .ok b) (fun b => (rng (i b) (j b)).map D.int) ρ' :=
  PI_imp (pi_range2 hg hm h hs hs2) fun σ H Q ⟨G, E, q⟩ => ⟨G, E, R.post_mono (R.post_bind.mp q) fun b q1 vs G' H' x E' ok => by
    obtain ⟨hc, q2⟩ := R.post_guard (R.post_bind.mp q1)
    rw [ha b] at ok
    cases ok with
    | val r ok =>
      cases ok with
      | val r2 ok =>
        cases ok
        exact ⟨i b, j b, by rw [r.int_inv, r2.int_inv], ⟨hc.1.1, hc.1.2, hc.2.1, hc.2.2⟩, q2 _ G' H' x E' yld_rng⟩⟩
/-! ### while -/
/-- so many turns -/
def whN {S L T : Type} (c : S → R Bool) (f : S → R (Fl S S T)) : Nat → S → R (Fl S L T)
  | 0, _ => .bad
  | n + 1, s => (c s).bind fun b => if b = true then (f s).bind fun
      | .nx s' => whN c f n s'
      | .ct s' => whN c f n s'
      | .bk s' => .ok (.nx s')
      | .rt t => .ok (.rt t)
    else .ok (.nx s)
open Classical in
/-- as many turns as it takes -/
noncomputable def whR {S L T : Type} (c : S → R Bool) (f : S → R (Fl S S T)) (s : S) : R (Fl S L T) :=
  if h : ∃ n, whN (L := L) c f n s ≠ .bad then whN c f h.choose s else .bad
theorem whN_mono {S L T : Type} {c : S → R Bool} {f : S → R (Fl S S T)} : ∀ {n : Nat} {s : S}, whN (L := L) c f n s ≠ .bad → ∀ m, n ≤ m → whN (L := L) c f m s = whN c f n s
  | 0, s, h, _, _ => absurd rfl h
  | n + 1, s, h, 0, hm => absurd hm (Nat.not_succ_le_zero _)
  | n + 1, s, h, m + 1, hm => by
    have hm' : n ≤ m := Nat.le_of_succ_le_succ hm
    rw [whN] at h ⊢
    rw [whN]
    cases hc : c s with
    | bad => rfl
    | err e => rfl
    | ok b =>
      rw [hc] at h
      cases b with
      | false => rfl
      | true =>
        simp only [R.bind, if_true] at h ⊢
        cases hf : f s with
        | bad => rfl
        | err e => rfl
        | ok fl =>
          rw [hf] at h
          cases fl with
          | nx s' => exact whN_mono h m hm'
          | ct s' => exact whN_mono h m hm'
          | bk s' => rfl
          | rt t => rfl
theorem whR_of {S L T : Type} {c : S → R Bool} {f : S → R (Fl S S T)} {n : Nat} {s : S} (h : whN (L := L) c f n s ≠ .bad) : whR (L := L) c f s = whN c f n s := by
  have hx : ∃ n, whN (L := L) c f n s ≠ .bad := ⟨n, h⟩
  unfold whR
  rw [dif_pos hx]
  rcases Nat.le_total n hx.choose with l | l
  · exact whN_mono h _ l
  · exact (whN_mono hx.choose_spec _ l).symm
theorem js_while {S L T : Type} (ρS : S → List Slot) {c : S → R Bool} {f : S → R (Fl S S T)} {F : Fin S L T} {body : List Stmt} (hp : PassesOwn (model X.prog X.w) X.A X.env X.xe) (s0 : S) (bs : List Bool) (hw : forgot ρ bs = ρS s0)
    (hc : ∀ s, JT X B (ρS s) e (c s) (fun b => b) (fun _ => ρS s)) (hb : ∀ s, JSs X B (ρS s) body (f s) ⟨ρS, ρS, ρS, F.s, F.t⟩) (hn : F.n = ρS := by rfl) : JS X B ρ (.While e body [] pos) (whR c f s0) F := by
  have hc' : PT X e (fun σ H Q => ∃ s, tJT X.K B (ρS s) (c s) (fun b => b) (fun _ => ρS s) σ H Q) := ⟨fun pins s σ H Q I ⟨x, q⟩ => (hc x).run pins s σ H Q I q⟩
  have hb' : PSs X body (fun D σ H => ∃ s, tJS X.K B (ρS s) (f s) ⟨ρS, ρS, ρS, F.s, F.t⟩ D σ H) := ⟨fun pins s σ H D I ⟨x, q⟩ => (hb x).run pins s σ H D I q⟩
  refine PS_imp (ps_while hp hc' hb') fun D σ H ⟨G, E, q⟩ => ?_
  have hne : ∃ n, (whN c f n s0 : R (Fl S L T)) ≠ .bad := by
    apply Classical.byContradiction
    intro z
    unfold whR at q
    rw [dif_neg z] at q
    exact q
  obtain ⟨n, hn0⟩ := hne
  rw [whR_of hn0] at q
  refine ⟨fun m σ' H' => ∃ G' s, Ex G G' ∧ En X.K B G' H' σ' (ρS s) [] ∧ (whN c f m s).post (flP X.K B G' D F) B.rs, ⟨n, G, s0, Ex.refl _, by rw [← hw]; exact E.forgot bs, q⟩, ?_⟩
  rintro m σ' H' ⟨G1, s, x1, E1, q1⟩
  cases m with
  | zero => exact q1.elim
  | succ m =>
    rw [whN] at q1
    refine ⟨s, G1, E1, R.post_mono (R.post_bind.mp q1) fun b q2 G2 H2 x2 E2 => ?_⟩
    cases b with
    | false =>
      have q2 : flP X.K B G1 D F (.nx s) := q2
      refine q2 σ' G2 H2 x2 ?_
      rw [hn]
      exact E2
    | true =>
      rw [if_pos rfl] at q2 ⊢
      refine ⟨fun σ3 H3 => ∃ G' s, Ex G G' ∧ En X.K B G' H3 σ3 (ρS s) [] ∧ (whN c f m s).post (flP X.K B G' D F) B.rs, fun σ3 H3 w => ⟨m, Nat.lt_succ_self m, w⟩, s, G2, E2, R.post_mono (R.post_bind.mp q2) fun fl q3 => ?_⟩
      have nxt : ∀ s', (whN c f m s').post (flP X.K B G1 D F) B.rs → ∀ σ' G3 H', Ex G2 G3 → En X.K B G3 H' σ' (ρS s') [] → ∃ G' s, Ex G G' ∧ En X.K B G' H' σ' (ρS s) [] ∧ (whN c f m s).post (flP X.K B G' D F) B.rs :=
        fun s' h σ' G3 H' z E3 => ⟨G3, s', x1.trans (x2.trans z), E3, R.post_mono h fun fl h => flP_ex h (x2.trans z)⟩
      cases fl with
      | nx s' => exact nxt s' q3
      | ct s' => exact nxt s' q3
      | bk s' =>
        intro σ4 G4 H4 x4 E4
        have q3 : flP X.K B G1 D F (.nx s') := q3
        refine q3 σ4 G4 H4 (x2.trans x4) ?_
        rw [hn]
        exact E4
      | rt t =>
        intro v σ4 G4 H4 x4 E4
        have q3 : flP X.K B G1 D F (.rt t) := q3
        exact q3 v σ4 G4 H4 (x2.trans x4) E4
end
end DL

/-! DL7: built-ins, subscripts, slices; a def -/
namespace DL
open PySem PySem.Spec L2

/-! ### built-ins by data -/
def CbD (K : PySem.W.Frag) (B : Base) (ρ : List Slot) (r : List V → Hp → VK → Prop) (as : List Ar) {γ : Type} (mr : R γ) (s : γ → Slot) : Prop :=
  ∀ G H σ vs Q, En K B G H σ ρ [] → ArOk K G σ vs as → mr.post (fun z => ∀ v G' H', Ex G G' → En K B G' H' σ ρ [(v, s z)] → Q v H') B.rs → r vs H Q
section
variable {X : Cx} {B : Base} {ρ : List Slot} {e a b : Expr} {es : List Expr} {pos : Pos}
theorem je_cb {E0 : Expr} {r : List V → Hp → VK → Prop} (hp : ∀ t, PA X es t → PE X E0 (tCB r t)) {as : List Ar} {γ : Type} {mr : R γ} {s : γ → Slot} (ha : JA X B ρ es (.ok ()) (fun _ => as) (fun _ => ρ)) (hr : CbD X.K B ρ r as mr s) : JE X B ρ E0 mr s (fun _ => ρ) :=
  PE_imp (hp _ ha) fun σ H Q ⟨G, E, q⟩ => ⟨G, E, fun vs G1 H1 x1 E1 ok => hr G1 H1 σ vs Q E1 ok (R.post_mono q fun z k v G2 H2 x2 E2 => k v G2 H2 (x1.trans x2) E2)⟩
theorem je_cb2 {E0 : Expr} {r : List V → Hp → VK → Prop} (hp : ∀ t, PA X es t → PE X E0 (tCB r t)) {β γ : Type} {ma : R β} {as : β → List Ar} {ρa : β → List Slot} {mr : β → R γ} {s : β → γ → Slot} (ha : JA X B ρ es ma as ρa) (hr : ∀ x, CbD X.K B (ρa x) r (as x) (mr x) (s x)) :
    JE X B ρ E0 (ma.bind fun x => (mr x).bind fun z => .ok (x, z)) (fun p => s p.1 p.2) (fun p => ρa p.1) :=
  PE_imp (hp _ ha) fun σ H Q ⟨G, E, q⟩ => ⟨G, E, R.post_mono (R.post_bind.mp q) fun x q1 vs G1 H1 x1 E1 ok => hr x G1 H1 σ vs Q E1 ok (R.post_mono (R.post_bind.mp q1) fun z k v G2 H2 x2 E2 => k v G2 H2 (x1.trans x2) E2)⟩
theorem cb_val {r : List V → Hp → VK → Prop} {K : PySem.W.Frag} {as : List Ar} {c : Prop} [Decidable c] {z : D} {w : V} (h : c → ∀ G H σ vs Q, Ex G H → ArOk K G σ vs as → Q w H → r vs H Q) (hw : ∀ G, Rp K G w z) : CbD K B ρ r as (R.guard c) (fun _ => .val z) :=
  fun G H σ vs Q E ok q => by
    obtain ⟨hc, q⟩ := R.post_guard q
    exact h hc G H σ vs Q E.sub ok (q w G H (Ex.refl G) (E.push (hw G)))
theorem cb_val0 {r : List V → Hp → VK → Prop} {K : PySem.W.Frag} {as : List Ar} {z : D} {w : V} (h : ∀ G H σ vs Q, Ex G H → ArOk K G σ vs as → Q w H → r vs H Q) (hw : ∀ G, Rp K G w z) : CbD K B ρ r as (.ok ()) (fun _ => .val z) :=
  fun G H σ vs Q E ok q => h G H σ vs Q E.sub ok (q w G H (Ex.refl G) (E.push (hw G)))
theorem ArOk.one {K : PySem.W.Frag} {G : Hp} {σ : L2.St} {vs : List V} {d : D} (h : ArOk K G σ vs [.val d]) : ∃ v, vs = [v] ∧ Rp K G v d := by
  cases h with
  | val r h =>
    cases h
    exact ⟨_, rfl, r⟩
theorem ArOk.two {K : PySem.W.Frag} {G : Hp} {σ : L2.St} {vs : List V} {d d' : D} (h : ArOk K G σ vs [.val d, .val d']) : ∃ v w, vs = [v, w] ∧ Rp K G v d ∧ Rp K G w d' := by
  cases h with
  | val r h =>
    obtain ⟨w, rfl, r'⟩ := h.one
    exact ⟨_, _, rfl, r, r'⟩
section
variable {K : PySem.W.Frag}
theorem cb_abs {i : Int} : CbD K B ρ (fun xs H Q => ∃ i, xs = [.int i] ∧ Q (.int (if i < 0 then -i else i)) H) [.val (.int i)] (.ok ()) (fun _ => .val (.int (if i < 0 then -i else i))) :=
  cb_val0 (fun G H σ vs Q _ ok q => by
    obtain ⟨v, rfl, r⟩ := ok.one
    exact ⟨i, by rw [r.int_inv], q⟩) fun _ => .int _
theorem cb_max {i j : Int} : CbD K B ρ (fun xs H Q => ∃ i j, xs = [.int i, .int j] ∧ Q (.int (if j > i then j else i)) H) [.val (.int i), .val (.int j)] (.ok ()) (fun _ => .val (.int (max i j))) :=
  cb_val0 (w := .int (max i j)) (fun G H σ vs Q _ ok q => by
    obtain ⟨v, w, rfl, r, r2⟩ := ok.two
    refine ⟨i, j, by rw [r.int_inv, r2.int_inv], ?_⟩
    rw [show (if j > i then j else i) = max i j by omega]
    exact q) fun _ => .int _
theorem cb_min {i j : Int} : CbD K B ρ (fun xs H Q => ∃ i j, xs = [.int i, .int j] ∧ Q (.int (if j < i then j else i)) H) [.val (.int i), .val (.int j)] (.ok ()) (fun _ => .val (.int (min i j))) :=
  cb_val0 (w := .int (min i j)) (fun G H σ vs Q _ ok q => by
    obtain ⟨v, w, rfl, r, r2⟩ := ok.two
    refine ⟨i, j, by rw [r.int_inv, r2.int_inv], ?_⟩
    rw [show (if j < i then j else i) = min i j by omega]
    exact q) fun _ => .int _
theorem cb_intB {k : Bool} : CbD K B ρ (fun xs H Q => (∃ i, xs = [.int i] ∧ Q (.int i) H) ∨ ∃ k, xs = [.bl k] ∧ Q (.int (if k then 1 else 0)) H) [.val (.bool k)] (.ok ()) (fun _ => .val (.int (if k = true then 1 else 0))) :=
  cb_val0 (fun G H σ vs Q _ ok q => by
    obtain ⟨v, rfl, r⟩ := ok.one
    exact .inr ⟨k, by rw [r.bl_inv], q⟩) fun _ => .int _
theorem cb_lenL {ds : List D} : CbD K B ρ (fun xs H Q => ∃ p ys, xs = [.ref p] ∧ (SqL K H p ys ∨ SqT K H p ys) ∧ Q (.int ys.length) H) [.val (.list ds)] (.ok ()) (fun _ => .val (.int ds.length)) :=
  cb_val0 (fun G H σ vs Q e ok q => by
    obtain ⟨v, rfl, r⟩ := ok.one
    obtain ⟨a, xs, rfl, hS, hr⟩ := r.lst_inv
    exact ⟨a, xs, rfl, .inl (.inl (e.rd hS)), by rw [hr.len]; exact q⟩) fun _ => .int _
theorem cb_lenT {ds : List D} : CbD K B ρ (fun xs H Q => ∃ p ys, xs = [.ref p] ∧ (SqL K H p ys ∨ SqT K H p ys) ∧ Q (.int ys.length) H) [.val (.tuple ds)] (.ok ()) (fun _ => .val (.int ds.length)) :=
  cb_val0 (fun G H σ vs Q e ok q => by
    obtain ⟨v, rfl, r⟩ := ok.one
    obtain ⟨a, xs, rfl, hS, hr⟩ := r.tup_inv
    exact ⟨a, xs, rfl, .inr (e.t hS), by rw [hr.len]; exact q⟩) fun _ => .int _
theorem Rp.scr_inv {K : PySem.W.Frag} {G : Hp} {v : V} {ns : List Int} (h : Rp K G v (.scr ns)) : ∃ a, v = .ref a ∧ SqL K G a (ns.map V.int) := by
  cases h with
  | scr h => exact ⟨_, rfl, h⟩
theorem cb_lenS {ns : List Int} : CbD K B ρ (fun xs H Q => ∃ p ys, xs = [.ref p] ∧ (SqL K H p ys ∨ SqT K H p ys) ∧ Q (.int ys.length) H) [.val (.scr ns)] (.ok ()) (fun _ => .val (.int ns.length)) :=
  cb_val0 (fun G H σ vs Q e ok q => by
    obtain ⟨v, rfl, r⟩ := ok.one
    obtain ⟨a, rfl, hS⟩ := r.scr_inv
    exact ⟨a, _, rfl, .inl (e.l hS), by rw [List.length_map]; exact q⟩) fun _ => .int _
instance {i j : Int} : Decidable (CDivP i j) := by unfold CDivP; infer_instance
theorem cb_divmod {i j : Int} : CbD K B ρ (fun xs H Q => ∃ i j, xs = [.int i, .int j] ∧ CDivP i j ∧ ∀ p, H p = none → Q (.ref p) (upd H p (.tup [.int (i / j), .int (i % j)]))) [.val (.int i), .val (.int j)] (R.guard (CDivP i j)) (fun _ => .val (.tuple [.int (i / j), .int (i % j)])) :=
  fun G H σ vs Q E ok q => by
    obtain ⟨hc, q⟩ := R.post_guard q
    obtain ⟨v, w, rfl, r, r2⟩ := ok.two
    refine ⟨i, j, by rw [r.int_inv, r2.int_inv], hc, fun p hp => q _ (upd G p _) _ (Ex.new (E.sub.back hp)) ((E.new hp _).push (.tup (.inl (.inl upd_same)) (.cons (.int _) (.cons (.int _) .nil))))⟩
end
/-! ### isinstance -/
def tyN : D → String
  | .none => "NoneType"
  | .bool _ => "bool"
  | .int _ => "int"
  | .str _ => "str"
  | .list _ => "list"
  | .tuple _ => "tuple"
  | .dict _ => "dict"
  | .scr _ => "list"
  | .row _ => "tuple"
  | .key _ => "tuple"
def isInt : D → Bool
  | .int _ => true
  | .bool _ => true
  | _ => false
def isBool : D → Bool
  | .bool _ => true
  | _ => false
def isTup : D → Bool
  | .tuple _ => true
  | .row _ => true
  | .key _ => true
  | _ => false
def isLst : D → Bool
  | .list _ => true
  | .scr _ => true
  | _ => false
def isStr : D → Bool
  | .str _ => true
  | _ => false
theorem isi_int (d : D) : kitB (tyN d) "int" = some (isInt d) := match d with
  | .none => (show kitB "NoneType" "int" = some false by decide +kernel)
  | .bool _ => (show kitB "bool" "int" = some true by decide +kernel)
  | .int _ => (show kitB "int" "int" = some true by decide +kernel)
  | .str _ => (show kitB "str" "int" = some false by decide +kernel)
  | .list _ => (show kitB "list" "int" = some false by decide +kernel)
  | .tuple _ => (show kitB "tuple" "int" = some false by decide +kernel)
  | .dict _ => (show kitB "dict" "int" = some false by decide +kernel)
  | .scr _ => (show kitB "list" "int" = some false by decide +kernel)
  | .row _ => (show kitB "tuple" "int" = some false by decide +kernel)
  | .key _ => (show kitB "tuple" "int" = some false by decide +kernel)
theorem isi_bool (d : D) : kitB (tyN d) "bool" = some (isBool d) := match d with
  | .none => (show kitB "NoneType" "bool" = some false by decide +kernel)
  | .bool _ => (show kitB "bool" "bool" = some true by decide +kernel)
  | .int _ => (show kitB "int" "bool" = some false by decide +kernel)
  | .str _ => (show kitB "str" "bool" = some false by decide +kernel)
  | .list _ => (show kitB "list" "bool" = some false by decide +kernel)
  | .tuple _ => (show kitB "tuple" "bool" = some false by decide +kernel)
  | .dict _ => (show kitB "dict" "bool" = some false by decide +kernel)
  | .scr _ => (show kitB "list" "bool" = some false by decide +kernel)
  | .row _ => (show kitB "tuple" "bool" = some false by decide +kernel)
  | .key _ => (show kitB "tuple" "bool" = some false by decide +kernel)
theorem isi_tuple (d : D) : kitB (tyN d) "tuple" = some (isTup d) := match d with
  | .none => (show kitB "NoneType" "tuple" = some false by decide +kernel)
  | .bool _ => (show kitB "bool" "tuple" = some false by decide +kernel)
  | .int _ => (show kitB "int" "tuple" = some false by decide +kernel)
  | .str _ => (show kitB "str" "tuple" = some false by decide +kernel)
  | .list _ => (show kitB "list" "tuple" = some false by decide +kernel)
  | .tuple _ => (show kitB "tuple" "tuple" = some true by decide +kernel)
  | .dict _ => (show kitB "dict" "tuple" = some false by decide +kernel)
  | .scr _ => (show kitB "list" "tuple" = some false by decide +kernel)
  | .row _ => (show kitB "tuple" "tuple" = some true by decide +kernel)
  | .key _ => (show kitB "tuple" "tuple" = some true by decide +kernel)
theorem isi_list (d : D) : kitB (tyN d) "list" = some (isLst d) := match d with
  | .none => (show kitB "NoneType" "list" = some false by decide +kernel)
  | .bool _ => (show kitB "bool" "list" = some false by decide +kernel)
  | .int _ => (show kitB "int" "list" = some false by decide +kernel)
  | .str _ => (show kitB "str" "list" = some false by decide +kernel)
  | .list _ => (show kitB "list" "list" = some true by decide +kernel)
  | .tuple _ => (show kitB "tuple" "list" = some false by decide +kernel)
  | .dict _ => (show kitB "dict" "list" = some false by decide +kernel)
  | .scr _ => (show kitB "list" "list" = some true by decide +kernel)
  | .row _ => (show kitB "tuple" "list" = some false by decide +kernel)
  | .key _ => (show kitB "tuple" "list" = some false by decide +kernel)
theorem isi_str (d : D) : kitB (tyN d) "str" = some (isStr d) := match d with
  | .none => (show kitB "NoneType" "str" = some false by decide +kernel)
  | .bool _ => (show kitB "bool" "str" = some false by decide +kernel)
  | .int _ => (show kitB "int" "str" = some false by decide +kernel)
  | .str _ => (show kitB "str" "str" = some true by decide +kernel)
  | .list _ => (show kitB "list" "str" = some false by decide +kernel)
  | .tuple _ => (show kitB "tuple" "str" = some false by decide +kernel)
  | .dict _ => (show kitB "dict" "str" = some false by decide +kernel)
  | .scr _ => (show kitB "list" "str" = some false by decide +kernel)
  | .row _ => (show kitB "tuple" "str" = some false by decide +kernel)
  | .key _ => (show kitB "tuple" "str" = some false by decide +kernel)
theorem Rp.ty {K : PySem.W.Frag} {G H : Hp} {v : V} {d : D} (h : Rp K G v d) (e : Ex G H) : TyX K H v (.type (tyN d)) := by
  cases h with
  | non => exact .base .non
  | bl b => exact .base (.bl b)
  | int b => exact .base (.int b)
  | str b => exact .base (.str b)
  | lst h r =>
    rcases e.rd h with h | ⟨o, h⟩
    · exact .base (.lst h)
    · exact .base (.frz h)
  | tup h r =>
    rcases e.t h with (h | ⟨o, h⟩) | ⟨o, its, n, h1, h2, _⟩
    · exact .base (.tup h)
    · exact .fTuple h
    · exact .kTuple h1 h2
  | scr h =>
    rcases h with h | ⟨o, its, n, h1, h2, _⟩
    · rcases e.rd h with h | ⟨o, h⟩
      · exact .base (.lst h)
      · exact .base (.frz h)
    · exact .kList h1 h2
  | dK h r => exact .base (.dK (e _ _ h))
  | dT h r => exact .base (.dT (e _ _ h))
  | row h d r => exact .fTuple (e _ _ h)
  | key h => exact .base (.tup (e _ _ h))
theorem je_isi {T : String} {f : D → Bool} (hf : ∀ d, kitB (tyN d) T = some (f d)) {x : Str} {p p2 : Pos} {β : Type} {m : R β} {d : β → D} {ρ' : β → List Slot} (h : JE X B ρ a m (fun b => .val (d b)) ρ') (hmi : X.mg "isinstance" = none) (hm : X.mg x = none) (hv : bootBuiltins x = some (.type T))
    (hgi : Gl X "isinstance" := by rfl) (hg : Gl X x := by rfl) (hn : x ≠ "__name__" := by decide) (hd : (x == ("__debug__" : Str)) = false := by decide)
    (h1 : starEach [a, .Name x p2] X.env = (false, eval a X.env) :: starEach [.Name x p2] X.env := by rfl) (h2 : starEach [.Name x p2] X.env = (false, eval (.Name x p2) X.env) :: starEach [] X.env := by rfl) (h3 : (backTo pos (starEach [.Name x p2] X.env)).any (·.1) = false := by rfl) :
    JE X B ρ (.Call (.Name "isinstance" p) [a, .Name x p2] [] pos) m (fun b => .val (.bool (f (d b)))) ρ' :=
  PE_imp (pe_callB call_isi hgi hmi (by decide +kernel) (pa_cons h (pa_cons (pe_bltn hg hm hv (v := .ty T) rfl hn hd) pa_nil h2) h1) (by decide) (by decide) h1 h3) fun σ H Q ⟨G, E, q⟩ => ⟨G, E, R.post_mono q fun b k v G1 H1 x1 E1 =>
    ⟨v, .ty T, .type (tyN (d b)), .type T, f (d b), rfl, .ty T, E1.top.ty E1.sub, kit_ty (hf _), k _ G1 H1 x1 (E1.pop.push (.bl _))⟩⟩
/-! ### subscripts -/
section
variable {K : PySem.W.Frag}
theorem od_ixT {ds : List D} {i : Int} : OpD K B (rIxT K) (.tuple ds) (.int i) (R.some (atI ds i)) (fun d => .val d) := fun G H σ ρ vx vy Q E hx hy q => by
  obtain ⟨d, hd, q⟩ := R.post_some q
  obtain ⟨a, xs, rfl, hS, hr⟩ := hx.tup_inv
  obtain ⟨j, hj, hd⟩ := Option.bind_eq_some_iff.mp hd
  obtain ⟨v, hv, rv⟩ := hr.get hd
  refine ⟨a, xs, i, v, rfl, hy.int_inv, E.sub.t hS, ?_, q v G H (Ex.refl G) (E.push rv)⟩
  unfold atI
  rw [hr.len, hj]
  exact hv
theorem od_ixL {ds : List D} {i : Int} : OpD K B (rIxL K) (.list ds) (.int i) (R.some (atI ds i)) (fun d => .val d) := fun G H σ ρ vx vy Q E hx hy q => by
  obtain ⟨d, hd, q⟩ := R.post_some q
  obtain ⟨a, xs, rfl, hS, hr⟩ := hx.lst_inv
  obtain ⟨j, hj, hd⟩ := Option.bind_eq_some_iff.mp hd
  obtain ⟨v, hv, rv⟩ := hr.get hd
  refine ⟨a, xs, i, v, rfl, hy.int_inv, .inl (E.sub.rd hS), ?_, q v G H (Ex.refl G) (E.push rv)⟩
  unfold atI
  rw [hr.len, hj]
  exact hv
theorem atI_map {α β : Type} (f : α → β) (xs : List α) (i : Int) : atI (xs.map f) i = (atI xs i).map f := by
  unfold atI
  rw [List.length_map]
  cases ixN xs.length i with
  | none => rfl
  | some j => simp
theorem od_map {r : R2} {x y : D} {α : Type} {o : Option α} {f : α → D} (h : OpD K B r x y (R.some (o.map f)) (fun d => .val d)) : OpD K B r x y (R.some o) (fun a => .val (f a)) := fun G H σ ρ vx vy Q E hx hy q => by
  obtain ⟨d, hd, q⟩ := R.post_some q
  refine h G H σ ρ vx vy Q E hx hy ?_
  rw [hd]
  exact q
/-- one kind of items -/
theorem od_ixTm {α : Type} {f : α → D} {xs : List α} {i : Int} : OpD K B (rIxT K) (.tuple (xs.map f)) (.int i) (R.some (atI xs i)) (fun a => .val (f a)) := od_map (by rw [← atI_map]; exact od_ixT)
theorem od_ixLm {α : Type} {f : α → D} {xs : List α} {i : Int} : OpD K B (rIxL K) (.list (xs.map f)) (.int i) (R.some (atI xs i)) (fun a => .val (f a)) := od_map (by rw [← atI_map]; exact od_ixL)
/-- a place known -/
theorem od_ixTs {ds : List D} {i : Int} {d : D} (h : atI ds i = some d) : OpD K B (rIxT K) (.tuple ds) (.int i) (.ok ()) (fun _ => .val d) := fun G H σ ρ vx vy Q E hx hy q => od_ixT G H σ ρ vx vy Q E hx hy (by rw [h]; exact q)
theorem od_ixLs {ds : List D} {i : Int} {d : D} (h : atI ds i = some d) : OpD K B (rIxL K) (.list ds) (.int i) (.ok ()) (fun _ => .val d) := fun G H σ ρ vx vy Q E hx hy q => od_ixL G H σ ρ vx vy Q E hx hy (by rw [h]; exact q)
end
/-- o[k], o an owned list of data -/
theorem je_ixO (i : Nat) {x : Str} {px : Pos} {l : Nat} {α : Type} {en : α → D} {xs : List α} {k : Int} (h : ρ[i]? = some (.own l (.lst ((xs.map en).map OT.dat))) := by rfl) (hk : JP X B ρ b (.int k)) (hal : noAlis ρ = true := by rfl) (hN : X.N[i]? = some x := by rfl)
    (hv : Vis X.env.scope x := by first | exact Or.inl rfl | exact Or.inr (Or.inl rfl) | exact Or.inr (Or.inr rfl)) (hd : (x == ("__debug__" : Str)) = false := by decide) (hcd : (x == ("__classdict__" : Str)) = false := by decide) (hs : PlainIx b := by exact fun _ _ => rfl) :
    JE X B ρ (.Subscript (.Name x px) b pos) (R.some (atI xs k)) (fun y => .val (en y)) (fun _ => ρ) :=
  PE_imp (pe_ix ix_list (pv i hN hv hd hcd) hk hs) fun σ H Q ⟨G, E, q⟩ => by
    obtain ⟨p, vs, e1, e2, e3, e4⟩ := E.ownD h hal
    obtain ⟨y, hy, q⟩ := R.post_some q
    refine ⟨.ref p, e1, G, E, fun w G1 H1 x1 E1 => ?_⟩
    have hn := E1.top.int_inv
    obtain ⟨p', vs', g1, g2, g3, g4⟩ := E1.pop.ownD h hal
    have ep : p' = p := by
      have z := g1.symm.trans e1
      injection z with z
      injection z with z
      injection z
    subst ep
    have hy' : atI (xs.map en) k = some (en y) := by rw [atI_map, hy]; rfl
    obtain ⟨j, hj, hd⟩ := Option.bind_eq_some_iff.mp hy'
    obtain ⟨v, hv, rv⟩ := g3.get hd
    refine ⟨p', vs', k, v, rfl, hn, .inl (.inl g2), ?_, q v G1 H1 x1 (E1.pop.push rv)⟩
    unfold atI
    rw [g3.len, hj]
    exact hv
/-! ### slices -/
def tJO (K : PySem.W.Frag) (B : Base) (ρ : List Slot) (o : Option Int) : TO := fun σ H Q => ∃ G, En K B G H σ ρ [] ∧ ∀ G' H', Ex G G' → En K B G' H' σ ρ [] → Q o H'
def JO (X : Cx) (B : Base) (ρ : List Slot) (e : Option Expr) (o : Option Int) : Prop := PO X e (tJO X.K B ρ o)
theorem PO_imp {e : Option Expr} {t t' : TO} (h : PO X e t) (k : ∀ σ H Q, t' σ H Q → t σ H Q) : PO X e t' := ⟨fun pins s σ H Q I q => h.run pins s σ H Q I (k σ H Q q)⟩
theorem jo_none : JO X B ρ none none := PO_imp po_none fun σ H Q ⟨G, E, q⟩ => q G H (Ex.refl G) E
theorem jo_some {i : Int} (h : JP X B ρ e (.int i)) : JO X B ρ (some e) (some i) := PO_imp (po_some h) fun σ H Q ⟨G, E, q⟩ => ⟨G, E, fun v G1 H1 x1 E1 => ⟨i, E1.top.int_inv, q G1 H1 x1 E1.pop⟩⟩
/-- a slice of a list -/
def cut {α : Type} (xs : List α) (lo hi : Option Int) : List α := (xs.drop (HT.sIx xs.length 0 lo)).take (HT.sIx xs.length xs.length hi - HT.sIx xs.length 0 lo)
theorem cut_map {α β : Type} (f : α → β) (xs : List α) (lo hi : Option Int) : cut (xs.map f) lo hi = (cut xs lo hi).map f := by
  unfold cut
  rw [List.length_map, List.map_take, List.map_drop]
theorem cut_rp {K : PySem.W.Frag} {G : Hp} {xs : List V} {ds : List D} {lo hi : Option Int} (h : RpAll K G xs ds) : RpAll K G (cutV xs lo hi) (cut ds lo hi) := by
  unfold cutV cut
  rw [h.len]
  exact (h.drop _).take _
theorem je_slL {o1 o2 : Option Expr} {p2 : Pos} {lo hi : Option Int} {β : Type} {m : R β} {ds : β → List D} {ρ' : β → List Slot} (h : JE X B ρ a m (fun b => .val (.list (ds b))) ρ') (h1 : ∀ b, JO X B (ρ' b) o1 lo) (h2 : ∀ b, JO X B (ρ' b) o2 hi) :
    JE X B ρ (.Subscript a (.Slice o1 o2 none p2) pos) m (fun b => .own 0 (.lst ((cut (ds b) lo hi).map OT.dat))) ρ' := by
  have h1' : PO X o1 (fun σ H Q => ∃ b, tJO X.K B (ρ' b) lo σ H Q) := ⟨fun pins s σ H Q I ⟨b, q⟩ => (h1 b).run pins s σ H Q I q⟩
  have h2' : PO X o2 (fun σ H Q => ∃ b, tJO X.K B (ρ' b) hi σ H Q) := ⟨fun pins s σ H Q I ⟨b, q⟩ => (h2 b).run pins s σ H Q I q⟩
  refine PE_imp (pe_slice sl_list h h1' h2') fun σ H Q ⟨G, E, q⟩ => ⟨G, E, R.post_mono q fun b k v G1 H1 x1 E1 => ⟨b, G1, E1.pop, fun G2 H2 x2 E2 => ⟨b, G2, E2, fun G3 H3 x3 E3 => ?_⟩⟩⟩
  obtain ⟨p, xs, rfl, hS, hr⟩ := E1.top.lst_inv
  have x13 := x2.trans x3
  exact ⟨p, xs, rfl, .inl ((x13.trans E3.sub).rd hS), fun q' hq => k _ G3 _ (x1.trans x13) (E3.newL hq (cut_rp (RpAll.ex x13 hr)))⟩
theorem je_slS {o1 o2 : Option Expr} {p2 : Pos} {lo hi : Option Int} {β : Type} {m : R β} {ns : β → List Int} {ρ' : β → List Slot} (h : JE X B ρ a m (fun b => .val (.scr (ns b))) ρ') (h1 : ∀ b, JO X B (ρ' b) o1 lo) (h2 : ∀ b, JO X B (ρ' b) o2 hi) :
    JE X B ρ (.Subscript a (.Slice o1 o2 none p2) pos) m (fun b => .own 0 (.lst (((cut (ns b) lo hi).map D.int).map OT.dat))) ρ' := by
  have h1' : PO X o1 (fun σ H Q => ∃ b, tJO X.K B (ρ' b) lo σ H Q) := ⟨fun pins s σ H Q I ⟨b, q⟩ => (h1 b).run pins s σ H Q I q⟩
  have h2' : PO X o2 (fun σ H Q => ∃ b, tJO X.K B (ρ' b) hi σ H Q) := ⟨fun pins s σ H Q I ⟨b, q⟩ => (h2 b).run pins s σ H Q I q⟩
  refine PE_imp (pe_slice sl_list h h1' h2') fun σ H Q ⟨G, E, q⟩ => ⟨G, E, R.post_mono q fun b k v G1 H1 x1 E1 => ⟨b, G1, E1.pop, fun G2 H2 x2 E2 => ⟨b, G2, E2, fun G3 H3 x3 E3 => ?_⟩⟩⟩
  obtain ⟨p, rfl, hS⟩ := E1.top.scr_inv
  have x13 := x2.trans x3
  refine ⟨p, _, rfl, (x13.trans E3.sub).l hS, fun q' hq => k _ G3 _ (x1.trans x13) (E3.newL hq ?_)⟩
  rw [← cut_map]
  exact cut_rp (RpAll.of_ints (ns b))
/-! ### lists joined -/
def rCatR : R2 := fun x y H Q => ∃ l b xs zs, x = .ref l ∧ y = .ref b ∧ Rd H l (.lst xs) ∧ Rd H b (.lst zs) ∧ xs.length + zs.length ≤ sizeLine ∧ ∀ p, H p = none → Q (.ref p) (upd H p (.lst (xs ++ zs)))
theorem op_catR : OpR X (binaryOp .Add) rCatR := by
  intro pins s σ H x y v u Q I rx ry h
  obtain ⟨l, b, xs, zs, rfl, rfl, hH, hB, hz, q⟩ := h
  cases rx
  cases ry
  obtain ⟨z1, i1, n1, r1, g1⟩ := hH.ok I.hok
  obtain ⟨z2, i2, n2, r2, g2⟩ := hB.ok I.hok
  have l1 := r1.length
  have l2 := r2.length
  refine PySem.P.add_list g1 g2 ?_ (by simp only [List.size_toArray]; omega)
  rw [List.append_toArray]
  exact ⟨.ref _, _, I.lnew (t' := s.toks) (r1.append r2) (by simp only [List.length_append]; omega), rfl, q _ I.fresh⟩
theorem od_cat {K : PySem.W.Frag} {ds es : List D} : OpD K B rCatR (.list ds) (.list es) (R.guard (ds.length + es.length ≤ sizeLine)) (fun _ => .own 0 (.lst ((ds ++ es).map OT.dat))) := fun G H σ ρ vx vy Q E hx hy q => by
  obtain ⟨hc, q⟩ := R.post_guard q
  obtain ⟨a, xs, rfl, hS, hr⟩ := hx.lst_inv
  obtain ⟨b, ys, rfl, hS2, hr2⟩ := hy.lst_inv
  exact ⟨a, b, xs, ys, rfl, rfl, E.sub.rd hS, E.sub.rd hS2, by rw [hr.len, hr2.len]; exact hc, fun p hp => q _ G _ (Ex.refl G) (E.newL hp (hr.append hr2))⟩
end
end DL

/-! DL8: a def keeps its mirror's promise -/
namespace DL
open PySem PySem.Spec L2

/-- a def as the head tells it -/
abbrev FnP (K : PySem.W.Frag) (x : Str) (st : Stmt) (f : Addr) (fd : FuncData) : Prop := FunD K x x (defArgs st) (defBody st) (defScope st) [] [] f fd
/-- a def behind the top: where it stands, its name, how arguments come -/
structure DT (K : PySem.W.Frag) (mg : Str → Option Value) (x : Str) (st : Stmt) (ps : List Str) where
  a : Addr
  d : FuncData
  f : FnP K x st a d
  g : mg x = some (.ref a)
  b : Binds K d ps []
/-- it always returns -/
def fin0 {N L T : Type} (m : R (Fl N L T)) : R T := m.bind fun
  | .rt t => .ok t
  | _ => .bad
/-- it never returns a value -/
def finN {N L T : Type} (m : R (Fl N L T)) : R N := m.bind fun
  | .nx n => .ok n
  | _ => .bad
section
variable {P : Program} {w : World} {K : PySem.W.Frag} {mg : Str → Option Value} {base : Heap} {x : Str} {st : Stmt} {f : Addr} {fd : FuncData} {N ps : List Str} {k : Nat}
theorem start_en {B : Base} {G H : Hp} {vs : List V} {ρ : List Slot} {d : Nat} (E : En K B G H (vs.map some) ρ []) (hN : N.length = vs.length + d) : En K B G H (L2.start N vs) (ρ ++ List.replicate d .non) [] := by
  unfold L2.start
  rw [show N.length - vs.length = d by omega]
  obtain ⟨A, c, n, g⟩ := E.own
  have ap : ∀ {σ : L2.St} {ρ : List Slot} {A : List Addr}, Cells K B G H σ ρ A → Cells K B G H (σ ++ List.replicate d none) (ρ ++ List.replicate d .non) A := by
    intro σ ρ A h
    induction h with
    | nil =>
      have nn : ∀ m : Nat, Cells K B G H (List.replicate m none) (List.replicate m .non) [] := by
        intro m
        induction m with
        | zero => exact .nil
        | succ m ih => exact .cons (A := []) .non ih
      exact nn d
    | cons c r ih => exact .cons c ih
  refine ⟨E.anc, ⟨A, ap (show Cells K B G H (vs.map some) ρ A from c), n, g⟩, by simp [← E.len], fun i j p e => ?_⟩
  by_cases hi : i < ρ.length
  · rw [List.getElem?_append_left hi] at e
    obtain ⟨v, w, h1, h2, h3⟩ := E.ali i j p e
    have l1 : i < (vs.map some).length := by rw [E.len]; exact hi
    have l2 : j < (vs.map some).length := (List.getElem?_eq_some_iff.mp h2).1
    exact ⟨v, w, by rw [List.getElem?_append_left l1]; exact h1, by rw [List.getElem?_append_left l2]; exact h2, h3⟩
  · rw [List.getElem?_append_right (by omega)] at e
    have := (List.mem_replicate.mp (List.mem_of_getElem? e)).2
    cases this
def okOuts : Nat → List Slot → Bool
  | _, [] => true
  | n, .non :: r => okOuts (n + 1) r
  | n, .own l _ :: r => l == n + 1 && okOuts (n + 1) r
  | _, _ :: _ => false
theorem okOuts_ali : ∀ {ρ : List Slot} {n : Nat}, okOuts n ρ = true → ∀ {i j : Nat} {p : List Nat}, ρ[i]? ≠ some (.ali j p)
  | [], _, _, _, _, _ => fun e => nomatch e
  | s :: ρ, n, h, i, j, p => fun e => by
    have h' : okOuts (n + 1) ρ = true ∧ s ≠ .ali j p := by
      cases s <;> simp [okOuts] at h
      · exact ⟨h, fun z => nomatch z⟩
      · exact ⟨h.2, fun z => nomatch z⟩
    cases i with
    | zero =>
      simp at e
      exact h'.2 e
    | succ i => exact okOuts_ali h'.1 (i := i) (by simpa using e)
theorem stop_en {B : Base} {G H : Hp} {vs : List V} {σ : L2.St} {ρ : List Slot} {d : Nat} {v : V} {s : Slot} (E : En K B G H σ (ρ ++ List.replicate d .non) [(v, s)]) (hv : ∀ k, B.pv (k + 1) = vs[k]?) (ho : okOuts 0 ρ = true) (hl : vs.length = ρ.length) : En K B G H (vs.map some) ρ [(v, s)] := by
  obtain ⟨A, c, n, g⟩ := E.own
  cases c with
  | @cons _ _ A1 _ _ A2 c1 cr =>
    have cut : ∀ {ρ : List Slot} {σ : L2.St} {A : List Addr} {ws : List V} (n : Nat), Cells K B G H σ (ρ ++ List.replicate d .non) A → (∀ k, B.pv (n + k + 1) = ws[k]?) → okOuts n ρ = true → ws.length = ρ.length → Cells K B G H (ws.map some) ρ A := by
      intro ρ
      induction ρ with
      | nil =>
        intro σ A ws n h _ _ hl
        have nn : ∀ (m : Nat) {σ : L2.St} {A : List Addr}, Cells K B G H σ (List.replicate m .non) A → A = [] := by
          intro m
          induction m with
          | zero =>
            intro σ A h
            cases h
            rfl
          | succ m ih =>
            intro σ A h
            cases h with
            | cons c r =>
              cases c
              rw [ih r]
              rfl
        have e := nn d h
        subst e
        cases ws with
        | nil => exact .nil
        | cons a b => cases hl
      | cons s ρ ih =>
        intro σ A ws n h hv ho hl
        cases h with
        | @cons x0 _ B1 σ0 _ B2 c r =>
          cases ws with
          | nil => cases hl
          | cons y ws =>
            have tl : okOuts (n + 1) ρ = true → Cells K B G H (ws.map some) ρ B2 := fun ho => ih (n + 1) r (fun k => by
              have := hv (k + 1)
              rw [show n + (k + 1) + 1 = n + 1 + k + 1 by omega] at this
              simpa using this) ho (by simpa using hl)
            cases c with
            | non => exact .cons .non (tl (by simpa [okOuts] using ho))
            | val h => simp [okOuts] at ho
            | ali => simp [okOuts] at ho
            | @own u l o _ hO hr hp =>
              have ho' : l = n + 1 ∧ okOuts (n + 1) ρ = true := by simpa [okOuts] using ho
              obtain ⟨rfl, ho2⟩ := ho'
              have e1 := hp.resolve_left (Nat.succ_ne_zero n)
              have e2 := hv 0
              rw [show n + 0 + 1 = n + 1 by omega, e1] at e2
              have e3 : u = y := by simpa using e2
              subst e3
              exact .cons (.own hO hr hp) (tl ho2)
    exact ⟨E.anc, ⟨_, .cons c1 (cut 0 (show Cells K B G H σ (ρ ++ List.replicate d .non) A2 from cr) (fun k => by rw [Nat.zero_add]; exact hv k) ho hl), n, g⟩, by rw [List.length_map]; exact hl, fun i j p e => absurd e (okOuts_ali ho)⟩
/-- THE RULE: the body's mirror is the def's -/
theorem fn_ok {α β N1 L1 : Type} {ins : α → List Slot} {sl : β → Slot} {outs : β → List Slot} {n1 : N1 → List Slot} {c1 k1 : L1 → List Slot} (mb : α → R (Fl N1 L1 β)) (d : Nat) (F : FnP K x st f fd) (S : FnScope N ps (defScope st)) (hN : N.length = ps.length + d)
    (hi : ∀ a, (ins a).length = ps.length) (ho : ∀ b, okOuts 0 (outs b) = true) (ho2 : ∀ b, (outs b).length = ps.length)
    (hbody : ∀ (cdv : Value) (A : Around) (outer : List PySem.Env) (s : Shared) (H : Hp) (E : XK), RoomG k (A.deeper (PyProof.Rows.envOfC x (defScope st) s.heap.objs.size f cdv)) → ∀ (B : Base), (∀ e, ¬ B.rs e) → ∀ a,
      JSs (cxOf CX0 P w K mg base N x (defScope st) f cdv A outer s H E).nox B (ins a ++ List.replicate d .non) (defBody st) (mb a) ⟨n1, c1, k1, sl, fun b => outs b ++ List.replicate d .non⟩) :
    FnG P w K mg base CX0 (k + 1) f fd ps (spM K ins (fun a => fin0 (mb a)) sl outs) := by
  refine fn_ofG F S (fun vs H Q E h => ?_) fun cdv A outer s H vs Q E hr h => ?_
  · obtain ⟨a, G, As, E0, _⟩ := h
    have := E0.len
    rw [List.length_map] at this
    rw [this, hi a]
  · obtain ⟨a, G, As, E0, q⟩ := h
    have hl : vs.length = ps.length := by
      have := E0.len
      rw [List.length_map] at this
      rw [this, hi a]
    refine ⟨_, (hbody cdv A outer s H E hr (baseOf H G As vs fun _ => False) (fun e z => z) a).nox, G, start_en E0 (by rw [hN, hl]), ?_⟩
    have q' := R.post_bind.mp q
    refine R.post_mono q' fun fl q1 => ?_
    cases fl with
    | nx n => exact q1.elim
    | ct n => exact q1.elim
    | bk n => exact q1.elim
    | rt b => exact fun v σ' G' H' x1 E1 => q1 v G' H' (stop_en E1 (fun k => rfl) (ho b) (by rw [hl, ho2 b]))
/-- .. of a def that hands back nothing -/
theorem fn_okN {α β T1 L1 : Type} {ins : α → List Slot} {outs : β → List Slot} {s1 : T1 → Slot} {t1 : T1 → List Slot} {c1 k1 : L1 → List Slot} (mb : α → R (Fl β L1 T1)) (d : Nat) (F : FnP K x st f fd) (S : FnScope N ps (defScope st)) (hN : N.length = ps.length + d)
    (hi : ∀ a, (ins a).length = ps.length) (ho : ∀ b, okOuts 0 (outs b) = true) (ho2 : ∀ b, (outs b).length = ps.length)
    (hbody : ∀ (cdv : Value) (A : Around) (outer : List PySem.Env) (s : Shared) (H : Hp) (E : XK), RoomG k (A.deeper (PyProof.Rows.envOfC x (defScope st) s.heap.objs.size f cdv)) → ∀ (B : Base), (∀ e, ¬ B.rs e) → ∀ a,
      JSs (cxOf CX0 P w K mg base N x (defScope st) f cdv A outer s H E).nox B (ins a ++ List.replicate d .non) (defBody st) (mb a) ⟨fun b => outs b ++ List.replicate d .non, c1, k1, s1, t1⟩) :
    FnG P w K mg base CX0 (k + 1) f fd ps (spM K ins (fun a => finN (mb a)) (fun _ => .val .none) outs) := by
  refine fn_ofG F S (fun vs H Q E h => ?_) fun cdv A outer s H vs Q E hr h => ?_
  · obtain ⟨a, G, As, E0, _⟩ := h
    have := E0.len
    rw [List.length_map] at this
    rw [this, hi a]
  · obtain ⟨a, G, As, E0, q⟩ := h
    have hl : vs.length = ps.length := by
      have := E0.len
      rw [List.length_map] at this
      rw [this, hi a]
    refine ⟨_, (hbody cdv A outer s H E hr (baseOf H G As vs fun _ => False) (fun e z => z) a).nox, G, start_en E0 (by rw [hN, hl]), ?_⟩
    have q' := R.post_bind.mp q
    refine R.post_mono q' fun fl q1 => ?_
    cases fl with
    | rt n => exact q1.elim
    | ct n => exact q1.elim
    | bk n => exact q1.elim
    | nx b => exact fun σ' G' H' x1 E1 => q1 .non G' H' (stop_en (E1.push .non) (fun k => rfl) (ho b) (by rw [hl, ho2 b]))
end
end DL

/-! DL9: forms for the printed walks -/
namespace DL
open PySem PySem.Spec L2

/-- a value named -/
def lt {α β : Type} (v : α) (k : α → β) : β := k v
@[reducible] def eT {α : Type} (f : α → D) (l : List α) : D := .tuple (l.map f)
@[reducible] def eL {α : Type} (f : α → D) (l : List α) : D := .list (l.map f)
@[reducible] def eD (d : D) : D := d
@[reducible] def eU (_ : Unit) : D := .none
@[reducible] def eP2 {α β : Type} (f : α → D) (g : β → D) (p : α × β) : D := .tuple [f p.1, g p.2]
@[reducible] def eP3 {α β γ : Type} (f : α → D) (g : β → D) (h : γ → D) (p : α × β × γ) : D := .tuple [f p.1, g p.2.1, h p.2.2]
@[reducible] def eP4 {α β γ δ : Type} (f : α → D) (g : β → D) (h : γ → D) (i : δ → D) (p : α × β × γ × δ) : D := .tuple [f p.1, g p.2.1, h p.2.2.1, i p.2.2.2]
@[reducible] def oL {α : Type} (f : α → D) (l : List α) : OT := .lst ((l.map f).map OT.dat)
theorem toDs_dat : ∀ ds : List D, OT.toDs (ds.map OT.dat) = ds
  | [] => by rw [List.map_nil, OT.toDs]
  | d :: ds => by rw [List.map_cons, OT.toDs, OT.toD, toDs_dat ds]
theorem oL_toD {α : Type} (f : α → D) (l : List α) : (oL f l).toD = eL f l := by
  show OT.toD (.lst _) = _
  rw [OT.toD, toDs_dat]
section
variable {X : Cx} {B : Base} {ρ : List Slot} {e a b : Expr} {es : List Expr} {rest : List Stmt} {pos : Pos} {N L T β α : Type} {F : Fin N L T}
theorem je_frzL {m : R β} {f : α → D} {v : β → List α} {ρ' : β → List Slot} (h : JE X B ρ e m (fun b => .own 0 (oL f (v b))) ρ') : JE X B ρ e m (fun b => .val (eL f (v b))) ρ' := by
  have := je_frz h
  simp only [oL_toD] at this
  exact this
/-- an owned slot, read as data for good -/
theorem js_setP (i : Nat) {x : Str} {pos' : Pos} (en : α → D) (v : α) {k : α → R (Fl N L T)} (hN : X.N.Nodup) (h : JP X B ρ e (en v)) (r : ∀ x, JSs X B (ρ.set i (.val (en x))) rest (k x) F) (hi : X.N[i]? = some x := by rfl) (hx : Loc X.env.scope x := by first | exact Or.inl rfl | exact Or.inr rfl)
    (hlt : i < ρ.length := by exact of_decide_eq_true rfl) (hal : noAli i ρ = true := by rfl) (hs : swapsWith e (some (.Name x pos')) pos.line X.env = pure false := by rfl) (hf : X.fn x = true ∨ X.env.scope.names.lookup x = some .local := by first | exact .inl rfl | exact .inr rfl) :
    JSs X B ρ (.Assign [.Name x pos'] e pos :: rest) (lt v k) F :=
  js_cons1 (k := fun _ => k v) (j1_set i hN h hi hx (fun _ => hlt) (fun _ => hal) (fun _ => rfl) hs hf) fun _ => r v
theorem js_setE (i : Nat) {x : Str} {pos' : Pos} (en : α → D) {m : R β} (v : β → α) {ρ' : β → List Slot} {k : β → α → R (Fl N L T)} (hN : X.N.Nodup) (h : JE X B ρ e m (fun b => .val (en (v b))) ρ') (r : ∀ b x, JSs X B ((ρ' b).set i (.val (en x))) rest (k b x) F) (hi : X.N[i]? = some x := by rfl) (hx : Loc X.env.scope x := by first | exact Or.inl rfl | exact Or.inr rfl)
    (hlt : ∀ b, i < (ρ' b).length := by intro _; exact of_decide_eq_true rfl) (hal : ∀ b, noAli i (ρ' b) = true := by intro _; rfl) (hs : swapsWith e (some (.Name x pos')) pos.line X.env = pure false := by rfl) (hf : X.fn x = true ∨ X.env.scope.names.lookup x = some .local := by first | exact .inl rfl | exact .inr rfl) :
    JSs X B ρ (.Assign [.Name x pos'] e pos :: rest) (m.bind fun b => lt (v b) (k b)) F :=
  js_cons1 (j1_set i hN h hi hx hlt hal (fun _ => rfl) hs hf) fun b => r b (v b)
theorem js_setO (i : Nat) {x : Str} {pos' : Pos} (on : α → OT) {m : R β} (v : β → α) {ρ' : β → List Slot} {k : β → α → R (Fl N L T)} (hN : X.N.Nodup) (h : JE X B ρ e m (fun b => .own 0 (on (v b))) ρ') (r : ∀ b x, JSs X B ((ρ' b).set i (.own 0 (on x))) rest (k b x) F) (hi : X.N[i]? = some x := by rfl) (hx : Loc X.env.scope x := by first | exact Or.inl rfl | exact Or.inr rfl)
    (hlt : ∀ b, i < (ρ' b).length := by intro _; exact of_decide_eq_true rfl) (hal : ∀ b, noAli i (ρ' b) = true := by intro _; rfl) (hs : swapsWith e (some (.Name x pos')) pos.line X.env = pure false := by rfl) (hf : X.fn x = true ∨ X.env.scope.names.lookup x = some .local := by first | exact .inl rfl | exact .inr rfl) :
    JSs X B ρ (.Assign [.Name x pos'] e pos :: rest) (m.bind fun b => lt (v b) (k b)) F :=
  js_cons1 (j1_set i hN h hi hx hlt hal (fun _ => rfl) hs hf) fun b => r b (v b)
/-- a statement that just goes on, its mirror pure -/
theorem js_consP {st : Stmt} {ρ' : List Slot} {k : R (Fl N L T)} (h : J1 X B ρ st (.ok ()) (fun _ => ρ')) (r : JSs X B ρ' rest k F) : JSs X B ρ (st :: rest) k F := js_cons1 (k := fun _ => k) h fun _ => r
theorem js_retP (t : T) (bs : List Bool) {s : Slot} (h : JE X B ρ e (.ok ()) (fun _ => s) (fun _ => ρ)) (hs : F.s t = s := by rfl) (ht : forgot ρ bs = F.t t := by rfl) : JS X B ρ (.Return (some e) pos) (.ok (.rt t)) F :=
  js_ret (fun _ => t) bs h (fun _ => hs) fun _ => ht
/-- comparisons as tests -/
theorem jt_op2 {r : R2} (ht : ∀ ta tb, PE X a ta → PE X b tb → PT X e (tTest (tOp r ta tb))) {α β γ : Type} {ma : R α} {mb : α → R β} {xa : α → D} {xb : α → β → D} {ρa : α → List Slot} {ρb : α → β → List Slot} {mr : α → β → R γ} {bn : α → β → γ → Bool}
    (ha : JE X B ρ a ma (fun x => .val (xa x)) ρa) (hb : ∀ x, JE X B (ρa x) b (mb x) (fun y => .val (xb x y)) (ρb x)) (hr : ∀ x y, OpD X.K B r (xa x) (xb x y) (mr x y) (fun z => .val (.bool (bn x y z)))) :
    JT X B ρ e (op2 ma mb mr) (fun p => bn p.1 p.2.1 p.2.2) (fun p => ρb p.1 p.2.1) := by
  have hb' : PE X b (fun σ H Q => ∃ x, tJ X.K B (ρa x) (mb x) (fun y => .val (xb x y)) (ρb x) σ H Q) := ⟨fun pins s σ H Q I ⟨x, q⟩ => (hb x).run pins s σ H Q I q⟩
  refine PT_imp (ht _ _ ha hb') fun σ H Q ⟨G, E, q⟩ => ?_
  refine ⟨G, E, R.post_mono (R.post_bind.mp q) fun x q1 vx G1 H1 x1 E1 => ?_⟩
  refine ⟨x, G1, E1.pop, R.post_mono (R.post_bind.mp q1) fun y q2 vy G2 H2 x2 E2 => ?_⟩
  exact hr x y G2 H2 σ (ρb x y) vx vy _ E2.pop (E1.top.ex x2) E2.top (R.post_mono (R.post_bind.mp q2) fun z q3 v G3 H3 x3 E3 => ⟨_, E3.top.bl_inv, q3 G3 H3 (x1.trans (x2.trans x3)) E3.pop⟩)
theorem jt_op {r : R2} (ht : ∀ ta tb, PE X a ta → PE X b tb → PT X e (tTest (tOp r ta tb))) {x y : D} {γ : Type} {mr : R γ} {bn : γ → Bool} (ha : JP X B ρ a x) (hb : JP X B ρ b y) (hr : OpD X.K B r x y mr (fun z => .val (.bool (bn z)))) : JT X B ρ e mr bn (fun _ => ρ) := by
  refine PT_imp (ht _ _ ha hb) fun σ H Q ⟨G, E, q⟩ => ?_
  refine ⟨G, E, fun vx G1 H1 x1 E1 => ?_⟩
  refine ⟨G1, E1.pop, fun vy G2 H2 x2 E2 => ?_⟩
  exact hr G2 H2 σ ρ vx vy _ E2.pop (E1.top.ex x2) E2.top (R.post_mono q fun z q v G3 H3 x3 E3 => ⟨_, E3.top.bl_inv, q G3 H3 (x1.trans (x2.trans x3)) E3.pop⟩)
/-- lists of one kind -/
theorem je_lstT {β : Type} {m : R β} {as : β → List Ar} {ρ' : β → List Slot} (f : α → D) (xs : β → List α) (h : JA X B ρ es m as ρ') (hd : ∀ b, arDs (as b) = (xs b).map f := by intro _; rfl) (hs : ∀ b, noSlots (as b) = true := by intro _; rfl) (hl : ∀ b, (arDs (as b)).length ≤ 1000 := by intro _; exact of_decide_eq_true rfl) : JE X B ρ (.List es pos) m (fun b => .own 0 (oL f (xs b))) ρ' := by
  have := je_lst (pos := pos) h hs hl
  simp only [hd] at this
  exact this
theorem je_slLm {o1 o2 : Option Expr} {p2 : Pos} {lo hi : Option Int} {m : R β} {f : α → D} {xs : β → List α} {ρ' : β → List Slot} (h : JE X B ρ a m (fun b => .val (eL f (xs b))) ρ') (h1 : ∀ b, JO X B (ρ' b) o1 lo) (h2 : ∀ b, JO X B (ρ' b) o2 hi) :
    JE X B ρ (.Subscript a (.Slice o1 o2 none p2) pos) m (fun b => .own 0 (oL f (cut (xs b) lo hi))) ρ' := by
  have := je_slL (pos := pos) (p2 := p2) h h1 h2
  simp only [cut_map] at this
  exact this
theorem od_catm {K : PySem.W.Frag} {f : α → D} {xs ys : List α} : OpD K B rCatR (eL f xs) (eL f ys) (R.guard (xs.length + ys.length ≤ sizeLine)) (fun _ => .own 0 (oL f (xs ++ ys))) := by
  have := od_cat (K := K) (B := B) (ds := xs.map f) (es := ys.map f)
  simp only [List.length_map] at this
  rw [← List.map_append] at this
  exact this
/-- loops over what is pure -/
theorem ji_rng1P {tg : Expr} {p : Pos} {i : Int} (hm : X.mg "range" = none) (h : JA X B ρ [a] (.ok ()) (fun _ => [.val (.int i)]) (fun _ => ρ)) (hg : Gl X "range" := by rfl) (hs : starEach [a] X.env = [(false, eval a X.env)] := by rfl) :
    JI X B ρ tg (.Call (.Name "range" p) [a] [] pos) (R.guard (rngOk i)) (fun _ => (rng 0 i).map D.int) (fun _ => ρ) :=
  PI_imp (ji_rng1 (fun _ => i) hm h (fun _ => rfl) hg hs) fun σ H Q ⟨G, E, q⟩ => ⟨G, E, by
    obtain ⟨hc, q⟩ := R.post_guard q
    show ((R.guard (rngOk i)).bind fun _ => R.ok ()).post _ _
    unfold R.guard
    rw [if_pos hc]
    exact q⟩
theorem js_forP {α S L T : Type} {xs : List α} {en : α → D} {s0 : S} {tg it : Expr} (ρS : S → List Slot) (ρB : α → S → List Slot) {f : α → S → R (Fl S S T)} {F : Fin S L T} {body : List Stmt} (hp : PassesOwn (model X.prog X.w) X.A X.env X.xe) (hc : X.calm = true)
    (hi : JI X B ρ tg it (.ok ()) (fun _ => xs.map en) (fun _ => ρ)) (bs : List Bool) (hw : forgot ρ bs = ρS s0) (hg : ∀ x s, JG X B (ρS s) tg (en x) (.ok ()) (fun _ => ρB x s))
    (hb : ∀ x s, JSs X B (ρB x s) body (f x s) ⟨ρS, ρS, ρS, F.s, F.t⟩) (hn : F.n = ρS := by rfl) (hs : ∀ v, foldedSetIterable it X.env v = pure v := by intro _; rfl) : JS X B ρ (.For tg it body [] pos) (forR f xs s0) F :=
  js_for (m := .ok ()) (xs := fun _ => xs) (s0 := fun _ => s0) (ρ' := fun _ => ρ) ρS ρB hp hc hi bs (fun _ => hw) hg hb hn hs
theorem jt_pb {t : Bool} (h : TP0 X B ρ e t) : JT X B ρ e (.ok t) (fun b => b) (fun _ => ρ) := h
theorem cb_lenLm {K : PySem.W.Frag} {f : α → D} {xs : List α} : CbD K B ρ (fun xs H Q => ∃ p ys, xs = [.ref p] ∧ (SqL K H p ys ∨ SqT K H p ys) ∧ Q (.int ys.length) H) [.val (eL f xs)] (.ok ()) (fun _ => .val (.int ((xs.length : Nat) : Int))) := by
  have := cb_lenL (K := K) (B := B) (ρ := ρ) (ds := xs.map f)
  rw [List.length_map] at this
  exact this
theorem cb_lenTm {K : PySem.W.Frag} {f : α → D} {xs : List α} : CbD K B ρ (fun xs H Q => ∃ p ys, xs = [.ref p] ∧ (SqL K H p ys ∨ SqT K H p ys) ∧ Q (.int ys.length) H) [.val (eT f xs)] (.ok ()) (fun _ => .val (.int ((xs.length : Nat) : Int))) := by
  have := cb_lenT (K := K) (B := B) (ρ := ρ) (ds := xs.map f)
  rw [List.length_map] at this
  exact this
/-! one part with effects -/
theorem je_opL {r : R2} (ht : ∀ ta tb, PE X a ta → PE X b tb → PE X e (tOp r ta tb)) {α : Type} {ma : R α} {xa y : α → D} {ρa : α → List Slot} {s : α → Slot} (ha : JE X B ρ a ma (fun x => .val (xa x)) ρa) (hb : ∀ x, JP X B (ρa x) b (y x)) (hr : ∀ x, OpD X.K B r (xa x) (y x) (.ok ()) (fun _ => s x)) : JE X B ρ e ma s ρa := by
  have hb' : PE X b (fun σ H Q => ∃ x, tJ X.K B (ρa x) (.ok ()) (fun _ => .val (y x)) (fun _ => ρa x) σ H Q) := ⟨fun pins s σ H Q I ⟨x, q⟩ => (hb x).run pins s σ H Q I q⟩
  exact PE_imp (ht _ _ ha hb') fun σ H Q ⟨G, E, q⟩ => ⟨G, E, R.post_mono q fun x q1 vx G1 H1 x1 E1 => ⟨x, G1, E1.pop, fun vy G2 H2 x2 E2 => hr x G2 H2 σ (ρa x) vx vy Q E2.pop (E1.top.ex x2) E2.top fun v G3 H3 x3 E3 => q1 v G3 H3 (x1.trans (x2.trans x3)) E3⟩⟩
theorem je_opLG {r : R2} (ht : ∀ ta tb, PE X a ta → PE X b tb → PE X e (tOp r ta tb)) {α γ : Type} {ma : R α} {xa y : α → D} {ρa : α → List Slot} {mr : α → R γ} {s : α → γ → Slot} (ha : JE X B ρ a ma (fun x => .val (xa x)) ρa) (hb : ∀ x, JP X B (ρa x) b (y x)) (hr : ∀ x, OpD X.K B r (xa x) (y x) (mr x) (s x)) :
    JE X B ρ e (ma.bind fun x => (mr x).bind fun z => .ok (x, z)) (fun p => s p.1 p.2) (fun p => ρa p.1) := by
  have hb' : PE X b (fun σ H Q => ∃ x, tJ X.K B (ρa x) (.ok ()) (fun _ => .val (y x)) (fun _ => ρa x) σ H Q) := ⟨fun pins s σ H Q I ⟨x, q⟩ => (hb x).run pins s σ H Q I q⟩
  exact PE_imp (ht _ _ ha hb') fun σ H Q ⟨G, E, q⟩ => ⟨G, E, R.post_mono (R.post_bind.mp q) fun x q1 vx G1 H1 x1 E1 => ⟨x, G1, E1.pop, fun vy G2 H2 x2 E2 => hr x G2 H2 σ (ρa x) vx vy Q E2.pop (E1.top.ex x2) E2.top (R.post_mono (R.post_bind.mp q1) fun z q2 v G3 H3 x3 E3 => q2 v G3 H3 (x1.trans (x2.trans x3)) E3)⟩⟩
theorem je_opR {r : R2} (ht : ∀ ta tb, PE X a ta → PE X b tb → PE X e (tOp r ta tb)) {β : Type} {x : D} {mb : R β} {xb : β → D} {ρb : β → List Slot} {s : β → Slot} (ha : JP X B ρ a x) (hb : JE X B ρ b mb (fun y => .val (xb y)) ρb) (hr : ∀ y, OpD X.K B r x (xb y) (.ok ()) (fun _ => s y)) : JE X B ρ e mb s ρb :=
  PE_imp (ht _ _ ha hb) fun σ H Q ⟨G, E, q⟩ => ⟨G, E, fun vx G1 H1 x1 E1 => ⟨G1, E1.pop, R.post_mono q fun y q1 vy G2 H2 x2 E2 => hr y G2 H2 σ (ρb y) vx vy Q E2.pop (E1.top.ex x2) E2.top fun v G3 H3 x3 E3 => q1 v G3 H3 (x1.trans (x2.trans x3)) E3⟩⟩
theorem je_opRG {r : R2} (ht : ∀ ta tb, PE X a ta → PE X b tb → PE X e (tOp r ta tb)) {β γ : Type} {x : D} {mb : R β} {xb : β → D} {ρb : β → List Slot} {mr : β → R γ} {s : β → γ → Slot} (ha : JP X B ρ a x) (hb : JE X B ρ b mb (fun y => .val (xb y)) ρb) (hr : ∀ y, OpD X.K B r x (xb y) (mr y) (s y)) :
    JE X B ρ e (mb.bind fun y => (mr y).bind fun z => .ok (y, z)) (fun p => s p.1 p.2) (fun p => ρb p.1) :=
  PE_imp (ht _ _ ha hb) fun σ H Q ⟨G, E, q⟩ => ⟨G, E, fun vx G1 H1 x1 E1 => ⟨G1, E1.pop, R.post_mono (R.post_bind.mp q) fun y q1 vy G2 H2 x2 E2 => hr y G2 H2 σ (ρb y) vx vy Q E2.pop (E1.top.ex x2) E2.top (R.post_mono (R.post_bind.mp q1) fun z q2 v G3 H3 x3 E3 => q2 v G3 H3 (x1.trans (x2.trans x3)) E3)⟩⟩
theorem jt_opL {r : R2} (ht : ∀ ta tb, PE X a ta → PE X b tb → PT X e (tTest (tOp r ta tb))) {α : Type} {ma : R α} {xa y : α → D} {ρa : α → List Slot} {bn : α → Bool} (ha : JE X B ρ a ma (fun x => .val (xa x)) ρa) (hb : ∀ x, JP X B (ρa x) b (y x)) (hr : ∀ x, OpD X.K B r (xa x) (y x) (.ok ()) (fun _ => .val (.bool (bn x)))) : JT X B ρ e ma bn ρa := by
  have hb' : PE X b (fun σ H Q => ∃ x, tJ X.K B (ρa x) (.ok ()) (fun _ => .val (y x)) (fun _ => ρa x) σ H Q) := ⟨fun pins s σ H Q I ⟨x, q⟩ => (hb x).run pins s σ H Q I q⟩
  exact PT_imp (ht _ _ ha hb') fun σ H Q ⟨G, E, q⟩ => ⟨G, E, R.post_mono q fun x q1 vx G1 H1 x1 E1 => ⟨x, G1, E1.pop, fun vy G2 H2 x2 E2 => hr x G2 H2 σ (ρa x) vx vy _ E2.pop (E1.top.ex x2) E2.top fun v G3 H3 x3 E3 => ⟨_, E3.top.bl_inv, q1 G3 H3 (x1.trans (x2.trans x3)) E3.pop⟩⟩⟩
theorem jt_opLG {r : R2} (ht : ∀ ta tb, PE X a ta → PE X b tb → PT X e (tTest (tOp r ta tb))) {α γ : Type} {ma : R α} {xa y : α → D} {ρa : α → List Slot} {mr : α → R γ} {bn : α → γ → Bool} (ha : JE X B ρ a ma (fun x => .val (xa x)) ρa) (hb : ∀ x, JP X B (ρa x) b (y x)) (hr : ∀ x, OpD X.K B r (xa x) (y x) (mr x) (fun z => .val (.bool (bn x z)))) :
    JT X B ρ e (ma.bind fun x => (mr x).bind fun z => .ok (x, z)) (fun p => bn p.1 p.2) (fun p => ρa p.1) := by
  have hb' : PE X b (fun σ H Q => ∃ x, tJ X.K B (ρa x) (.ok ()) (fun _ => .val (y x)) (fun _ => ρa x) σ H Q) := ⟨fun pins s σ H Q I ⟨x, q⟩ => (hb x).run pins s σ H Q I q⟩
  exact PT_imp (ht _ _ ha hb') fun σ H Q ⟨G, E, q⟩ => ⟨G, E, R.post_mono (R.post_bind.mp q) fun x q1 vx G1 H1 x1 E1 => ⟨x, G1, E1.pop, fun vy G2 H2 x2 E2 => hr x G2 H2 σ (ρa x) vx vy _ E2.pop (E1.top.ex x2) E2.top (R.post_mono (R.post_bind.mp q1) fun z q2 v G3 H3 x3 E3 => ⟨_, E3.top.bl_inv, q2 G3 H3 (x1.trans (x2.trans x3)) E3.pop⟩)⟩⟩
theorem jt_opR {r : R2} (ht : ∀ ta tb, PE X a ta → PE X b tb → PT X e (tTest (tOp r ta tb))) {β : Type} {x : D} {mb : R β} {xb : β → D} {ρb : β → List Slot} {bn : β → Bool} (ha : JP X B ρ a x) (hb : JE X B ρ b mb (fun y => .val (xb y)) ρb) (hr : ∀ y, OpD X.K B r x (xb y) (.ok ()) (fun _ => .val (.bool (bn y)))) : JT X B ρ e mb bn ρb :=
  PT_imp (ht _ _ ha hb) fun σ H Q ⟨G, E, q⟩ => ⟨G, E, fun vx G1 H1 x1 E1 => ⟨G1, E1.pop, R.post_mono q fun y q1 vy G2 H2 x2 E2 => hr y G2 H2 σ (ρb y) vx vy _ E2.pop (E1.top.ex x2) E2.top fun v G3 H3 x3 E3 => ⟨_, E3.top.bl_inv, q1 G3 H3 (x1.trans (x2.trans x3)) E3.pop⟩⟩⟩
theorem jt_opRG {r : R2} (ht : ∀ ta tb, PE X a ta → PE X b tb → PT X e (tTest (tOp r ta tb))) {β γ : Type} {x : D} {mb : R β} {xb : β → D} {ρb : β → List Slot} {mr : β → R γ} {bn : β → γ → Bool} (ha : JP X B ρ a x) (hb : JE X B ρ b mb (fun y => .val (xb y)) ρb) (hr : ∀ y, OpD X.K B r x (xb y) (mr y) (fun z => .val (.bool (bn y z)))) :
    JT X B ρ e (mb.bind fun y => (mr y).bind fun z => .ok (y, z)) (fun p => bn p.1 p.2) (fun p => ρb p.1) :=
  PT_imp (ht _ _ ha hb) fun σ H Q ⟨G, E, q⟩ => ⟨G, E, fun vx G1 H1 x1 E1 => ⟨G1, E1.pop, R.post_mono (R.post_bind.mp q) fun y q1 vy G2 H2 x2 E2 => hr y G2 H2 σ (ρb y) vx vy _ E2.pop (E1.top.ex x2) E2.top (R.post_mono (R.post_bind.mp q1) fun z q2 v G3 H3 x3 E3 => ⟨_, E3.top.bl_inv, q2 G3 H3 (x1.trans (x2.trans x3)) E3.pop⟩)⟩⟩
theorem ja_el {α : Type} {ma : R α} {xa : α → D} {ρa : α → List Slot} {as : α → List Ar} (h : JE X B ρ e ma (fun x => .val (xa x)) ρa) (t : ∀ x, JA X B (ρa x) es (.ok ()) (fun _ => as x) (fun _ => ρa x)) (hst : starEach (e :: es) X.env = (false, eval e X.env) :: starEach es X.env := by rfl) :
    JA X B ρ (e :: es) ma (fun x => .val (xa x) :: as x) ρa := by
  have t' : PA X es (fun σ H Q => ∃ x, tJA X.K B (ρa x) (.ok ()) (fun _ => as x) (fun _ => ρa x) σ H Q) := ⟨fun pos pins s σ H Q I ⟨x, q⟩ => (t x).run pos pins s σ H Q I q⟩
  exact PA_imp (pa_cons h t' hst) fun σ H Q ⟨G, E, q⟩ => ⟨G, E, R.post_mono q fun x k v G1 H1 x1 E1 => ⟨x, G1, E1.pop, fun vs G2 H2 x2 E2 ok => k _ G2 H2 (x1.trans x2) E2 (.val (E1.top.ex x2) ok)⟩⟩
theorem je_cbN {E0 : Expr} {r : List V → Hp → VK → Prop} (hp : ∀ t, PA X es t → PE X E0 (tCB r t)) {β : Type} {ma : R β} {as : β → List Ar} {ρa : β → List Slot} {s : β → Slot} (ha : JA X B ρ es ma as ρa) (hr : ∀ x, CbD X.K B (ρa x) r (as x) (.ok ()) (fun _ => s x)) :
    JE X B ρ E0 ma s ρa :=
  PE_imp (hp _ ha) fun σ H Q ⟨G, E, q⟩ => ⟨G, E, R.post_mono q fun x q1 vs G1 H1 x1 E1 ok => hr x G1 H1 σ vs Q E1 ok fun v G2 H2 x2 E2 => q1 v G2 H2 (x1.trans x2) E2⟩
/-! what needs no look: written numbers -/
theorem od_mulC {K : PySem.W.Frag} {i j : Int} (h : CMul i j := by first | exact .inl (by decide) | exact .inr (by decide)) : OpD K B (rI CMul fun i j => .int (i * j)) (.int i) (.int j) (.ok ()) (fun _ => .val (.int (i * j))) :=
  od_val0 (fun G H vx vy Q _ hx hy q => ⟨i, j, hx.int_inv, hy.int_inv, h, q⟩) fun _ => .int _
theorem od_modC {K : PySem.W.Frag} {i j : Int} (h : 0 < j := by decide) : OpD K B (rI (fun _ j => 0 < j) fun i j => .int (i % j)) (.int i) (.int j) (.ok ()) (fun _ => .val (.int (i % j))) :=
  od_val0 (fun G H vx vy Q _ hx hy q => ⟨i, j, hx.int_inv, hy.int_inv, h, q⟩) fun _ => .int _
theorem od_fdivC {K : PySem.W.Frag} {i j : Int} (h : 0 < j ∧ j < 1073741824 := by decide) : OpD K B (rI CDiv fun i j => .int (i / j)) (.int i) (.int j) (.ok ()) (fun _ => .val (.int (i / j))) :=
  od_val0 (fun G H vx vy Q _ hx hy q => ⟨i, j, hx.int_inv, hy.int_inv, h, q⟩) fun _ => .int _
theorem od_powC {K : PySem.W.Frag} {i j : Int} (h : CPow i j := by decide) : OpD K B (rI CPow fun i j => .int (i ^ j.toNat)) (.int i) (.int j) (.ok ()) (fun _ => .val (.int (i ^ j.toNat))) :=
  od_val0 (fun G H vx vy Q _ hx hy q => ⟨i, j, hx.int_inv, hy.int_inv, h, q⟩) fun _ => .int _
theorem cb_lenP2 {K : PySem.W.Frag} {α β : Type} {f : α → D} {g : β → D} {p : α × β} : CbD K B ρ (fun xs H Q => ∃ p ys, xs = [.ref p] ∧ (SqL K H p ys ∨ SqT K H p ys) ∧ Q (.int ys.length) H) [.val (eP2 f g p)] (.ok ()) (fun _ => .val (.int 2)) := cb_lenT (ds := [f p.1, g p.2])
theorem cb_lenP3 {K : PySem.W.Frag} {α β γ : Type} {f : α → D} {g : β → D} {h : γ → D} {p : α × β × γ} : CbD K B ρ (fun xs H Q => ∃ p ys, xs = [.ref p] ∧ (SqL K H p ys ∨ SqT K H p ys) ∧ Q (.int ys.length) H) [.val (eP3 f g h p)] (.ok ()) (fun _ => .val (.int 3)) := cb_lenT (ds := [f p.1, g p.2.1, h p.2.2])
theorem cb_lenP4 {K : PySem.W.Frag} {α β γ δ : Type} {f : α → D} {g : β → D} {h : γ → D} {k : δ → D} {p : α × β × γ × δ} : CbD K B ρ (fun xs H Q => ∃ p ys, xs = [.ref p] ∧ (SqL K H p ys ∨ SqT K H p ys) ∧ Q (.int ys.length) H) [.val (eP4 f g h k p)] (.ok ()) (fun _ => .val (.int 4)) := cb_lenT (ds := [f p.1, g p.2.1, h p.2.2.1, k p.2.2.2])
/-! calls that change nothing here -/
section
variable {CX : CXT} {k : Nat} {f : Addr} {fd : FuncData} {ps : List Str} {EE : XK} {x : Str} {p : Pos}
theorem je_callV {α β : Type} {ins : α → List Slot} {mf : α → R β} {sl : β → Slot} {outs : β → List Slot} (F : FnG X.prog X.w X.K X.mg X.base CX k f fd ps (spM X.K ins mf sl outs)) (hr : RoomG k X.A) (hg : Gl X x) (hm : X.mg x = some (.ref f)) (hk : PySem.W.keepIn X.K (.ref f) = true)
    (hb : Binds X.K fd ps []) (hx : Passes CX X EE) {as : List Ar} (arg : α) (ha : JA X B ρ (e :: es) (.ok ()) (fun _ => as) (fun _ => ρ)) (hne : ∀ e, ¬ B.rs e) (hi : goodIn ρ as = true := by rfl) (hins : insAt 0 ρ as = ins arg := by rfl)
    (ho : ∀ b, goodOut 0 as (outs b) = true := by intro _; rfl) (hal : aliOk ρ as = true := by rfl) (hres : ∀ b, resOk (sl b) = true := by intro _; rfl) (hns : noSlots as = true := by rfl)
    (hdb : (x == ("__debug__" : Str)) = false := by decide) (he : starEach (e :: es) X.env = (false, eval e X.env) :: starEach es X.env := by rfl) (hpl : (backTo pos (starEach es X.env)).any (·.1) = false := by rfl) :
    JE X B ρ (.Call (.Name x p) (e :: es) [] pos) (mf arg) sl (fun _ => ρ) := by
  have := je_callP (pos := pos) (p := p) F hr hg hm hk hb hx arg ha hne hi hins ho hal hres hdb he hpl
  simp only [backAt_noSlots hns, movedAt_noSlots hns] at this
  exact this
theorem je_callVE {α β γ : Type} {ins : α → List Slot} {mf : α → R β} {sl : β → Slot} {outs : β → List Slot} (F : FnG X.prog X.w X.K X.mg X.base CX k f fd ps (spM X.K ins mf sl outs)) (hr : RoomG k X.A) (hg : Gl X x) (hm : X.mg x = some (.ref f)) (hk : PySem.W.keepIn X.K (.ref f) = true)
    (hb : Binds X.K fd ps []) (hx : Passes CX X EE) {ma : R γ} {as : γ → List Ar} {ρa : γ → List Slot} (arg : γ → α) (ha : JA X B ρ (e :: es) ma as ρa) (hne : ∀ e, ¬ B.rs e) (hi : ∀ c, goodIn (ρa c) (as c) = true := by intro _; rfl) (hins : ∀ c, insAt 0 (ρa c) (as c) = ins (arg c) := by intro _; rfl)
    (ho : ∀ c b, goodOut 0 (as c) (outs b) = true := by intro _ _; rfl) (hal : ∀ c, aliOk (ρa c) (as c) = true := by intro _; rfl) (hres : ∀ b, resOk (sl b) = true := by intro _; rfl) (hns : ∀ c, noSlots (as c) = true := by intro _; rfl)
    (hdb : (x == ("__debug__" : Str)) = false := by decide) (he : starEach (e :: es) X.env = (false, eval e X.env) :: starEach es X.env := by rfl) (hpl : (backTo pos (starEach es X.env)).any (·.1) = false := by rfl) :
    JE X B ρ (.Call (.Name x p) (e :: es) [] pos) (ma.bind fun c => (mf (arg c)).bind fun b => .ok (c, b)) (fun y => sl y.2) (fun y => ρa y.1) := by
  have := je_call (pos := pos) (p := p) F hr hg hm hk hb hx arg ha hne hi hins ho hal hres hdb he hpl
  simp only [backAt_noSlots (hns _), movedAt_noSlots (hns _)] at this
  exact this
end
end
/-- the law's own promise, from its mirror's answer -/
theorem law_sp {K : PySem.W.Frag} {H : Hp} {a : Addr} {ns : List Int} {E : XK} (hS : SqL K H a (ns.map V.int)) {ins : List Int → List Slot} {m : List Int → R Bool} {sl : Bool → Slot} {outs : Bool → List Slot} (hm : m ns = .ok true) (hi : ins ns = [.val (.scr ns)] := by rfl) (hs : sl true = .val (.bool true) := by rfl) :
    spM K ins m sl outs [.ref a] H (fun v _ => v = .bl true) E := by
  refine ⟨ns, H, [], ⟨⟨fun x o _ e => e, fun x l m => ?_, Ex.refl H, fun x _ e => e, Ex.refl H⟩, ⟨[], ?_, List.nodup_nil, fun _ m => nomatch m⟩, ?_, fun i j p e => ?_⟩, ?_⟩
  · cases l with
    | zero => exact nomatch m
    | succ l => exact nomatch m
  · rw [hi]
    exact .cons (A := []) (.val (.scr hS)) .nil
  · rw [hi]
    rfl
  · rw [hi] at e
    cases i with
    | zero => cases e
    | succ i => cases e
  · rw [hm]
    intro v G' H' E'
    rw [hs] at E'
    exact E'.top.bl_inv
end DL

/-! DL10: list comprehensions -/
namespace DL
open PySem PySem.Spec L2

/-! ### targets that are names: what they touch -/
def tJN (K : PySem.W.Frag) (B : Base) (ρ : List Slot) (d : D) (ts : List Nat) (ρ' : List Slot) : TG := fun v σ H Q =>
  ∃ G, En K B G H σ ρ [] ∧ Rp K G v d ∧ ∀ σ', (∀ i, i ∉ ts → σ'[i]? = σ[i]?) → σ'.length = σ.length → En K B G H σ' ρ' [] → Q σ' H
def JN (X : Cx) (B : Base) (ρ : List Slot) (tg : Expr) (d : D) (ts : List Nat) (ρ' : List Slot) : Prop := PG X tg (tJN X.K B ρ d ts ρ')
def tJNs (K : PySem.W.Frag) (B : Base) (ρ : List Slot) (ds : List D) (ts : List Nat) (ρ' : List Slot) : TGs := fun vs σ H Q =>
  ∃ G, En K B G H σ ρ [] ∧ RpAll K G vs ds ∧ ∀ σ', (∀ i, i ∉ ts → σ'[i]? = σ[i]?) → σ'.length = σ.length → En K B G H σ' ρ' [] → Q σ' H
def JNs (X : Cx) (B : Base) (ρ : List Slot) (es : List Expr) (ds : List D) (ts : List Nat) (ρ' : List Slot) : Prop := PGs X es (tJNs X.K B ρ ds ts ρ')
section
variable {X : Cx} {B : Base} {ρ : List Slot} {pos : Pos} {e : Expr}
theorem jn_name (i : Nat) {x : Str} {d : D} (hN : X.N.Nodup) (hi : X.N[i]? = some x := by rfl) (hx : Loc X.env.scope x := by first | exact Or.inl rfl | exact Or.inr rfl) (hf : X.fn x = true ∨ X.env.scope.names.lookup x = some .local := by first | exact .inl rfl | exact .inr rfl)
    (hlt : i < ρ.length := by exact of_decide_eq_true rfl) (hal : noAli i ρ = true := by rfl) : JN X B ρ (.Name x pos) d [i] (ρ.set i (.val d)) :=
  PG_imp (pg_name (i := i) hN hi hx hf) fun v σ H Q ⟨G, E, r, q⟩ => q (σ.set i (some v)) (fun j hj => by
    rw [List.getElem?_set_ne (fun z => hj (by rw [z]; exact List.mem_singleton.mpr rfl))]) (by rw [List.length_set]) ((E.push r).set hlt (fun _ _ z => nomatch z) hal)
theorem jns_nil : JNs X B ρ [] [] [] ρ := PGs_imp pgs_nil fun vs σ H Q ⟨G, E, r, q⟩ => by
  cases r
  exact ⟨rfl, q σ (fun _ _ => rfl) rfl E⟩
theorem jns_cons {es : List Expr} {d : D} {ds : List D} {ts ts2 : List Nat} {ρ1 ρ2 : List Slot} (h : JN X B ρ e d ts ρ1) (t : JNs X B ρ1 es ds ts2 ρ2)
    (hs : (assignEach (e :: es) X.env).map (·.2) = assign e X.env :: (assignEach es X.env).map (·.2) := by rfl) : JNs X B ρ (e :: es) (d :: ds) (ts ++ ts2) ρ2 := by
  refine PGs_imp (pgs_cons h t hs) fun vs σ H Q ⟨G, E, r, q⟩ => ?_
  cases r with
  | cons r rr => exact ⟨_, _, rfl, G, E, r, fun σ' h1 l1 E' => ⟨G, E', rr, fun σ2 h2 l2 E2 => q σ2 (fun i hi => by
      have hi' : i ∉ ts ∧ i ∉ ts2 := by
        constructor
        · exact fun z => hi (List.mem_append_left _ z)
        · exact fun z => hi (List.mem_append_right _ z)
      rw [h2 i hi'.2, h1 i hi'.1]) (l2.trans l1) E2⟩⟩
theorem jn_tup {es : List Expr} {k : Nat} {ds : List D} {ts : List Nat} {ρ' : List Slot} (hc : X.calm = true) (h : JNs X B ρ es ds ts ρ') (hn : (assignEach es X.env).length = ds.length := by rfl) (hst : (assignEach es X.env).findIdx? (·.1) = none := by rfl) : JN X B ρ (.Tuple es k pos) (.tuple ds) ts ρ' :=
  PG_imp (pg_tup (n := ds.length) hc h hn hst) fun v σ H Q ⟨G, E, r, q⟩ => by
    obtain ⟨a, xs, rfl, hS, hr⟩ := r.tup_inv
    exact ⟨a, xs, rfl, E.sub.t hS, hr.len, G, E, hr, q⟩
end
/-! ### slots within, slots behind -/
/-- the block's own slots forgotten -/
def blot : Nat → List Nat → List Slot → List Slot
  | _, _, [] => []
  | n, vs, s :: ρ => (if vs.contains n then .non else s) :: blot (n + 1) vs ρ
/-- the outer slots, but for what the block's own ones hide -/
def unblot : Nat → List Nat → List Slot → List Slot → List Slot
  | n, vs, s :: ρ, t :: ρ2 => (if vs.contains n then s else t) :: unblot (n + 1) vs ρ ρ2
  | _, _, _, _ => []
def isPlain : Slot → Bool
  | .non => true
  | .val _ => true
  | .own _ _ => false
  | .ali _ _ => false
/-- the block's own slots hold no owned thing -/
def plainAt : Nat → List Nat → List Slot → Bool
  | _, _, [] => true
  | n, vs, s :: ρ => (if vs.contains n then isPlain s else true) && plainAt (n + 1) vs ρ
section
variable {K : PySem.W.Frag} {B : Base} {G G' H H' : Hp}
theorem Cells.blot : ∀ {σ σ2 : L2.St} {ρ : List Slot} {A : List Addr} (n : Nat) (vs : List Nat), Cells K B G H σ ρ A → plainAt n vs ρ = true → σ2.length = σ.length → (∀ i, (n + i) ∉ vs → σ2[i]? = σ[i]?) → Cells K B G H σ2 (blot n vs ρ) A
  | _, σ2, _, _, n, vs, .nil, _, hl, _ => by
    cases σ2 with
    | nil => exact .nil
    | cons a b => cases hl
  | _, σ2, _, _, n, vs, .cons (s := s) (A := A1) c r, hp, hl, hk => by
    cases σ2 with
    | nil => cases hl
    | cons y σ2 =>
      rw [plainAt, Bool.and_eq_true] at hp
      have r' := Cells.blot (n + 1) vs r hp.2 (by simpa using hl) (σ2 := σ2) (fun i hi => by
        have := hk (i + 1) (by rw [show n + (i + 1) = n + 1 + i by omega]; exact hi)
        simpa using this)
      rw [DL.blot]
      by_cases hc : vs.contains n = true
      · rw [if_pos hc]
        have h1 := hp.1
        rw [if_pos hc] at h1
        have e : A1 = [] := by
          cases c with
          | non => rfl
          | val _ => rfl
          | own _ _ _ => simp [isPlain] at h1
          | ali => rfl
        subst e
        exact .cons .non r'
      · rw [if_neg hc]
        have := hk 0 (by
          intro z
          exact hc (List.contains_iff_mem.mpr (by simpa using z)))
        simp at this
        rw [this]
        exact .cons c r'
theorem Cells.unblot {B0 : Base} : ∀ {σ σ2 : L2.St} {ρ ρ2 : List Slot} {A A0 : List Addr} (n : Nat) (vs : List Nat), Cells K B0 G H σ ρ A0 → Ex G G' → Cells K B G' H' σ2 ρ2 A → plainAt n vs ρ = true → plainAt n vs ρ2 = true → (∀ i, (n + i) ∉ vs → σ2[i]? = σ[i]?) → σ2.length = σ.length → Cells K B G' H' σ (unblot n vs ρ ρ2) A
  | _, σ2, _, _, A, _, n, vs, .nil, _, c2, _, _, _, hl => by
    cases c2 with
    | nil => exact .nil
    | cons _ _ => cases hl
  | _, σ2, _, _, A, _, n, vs, .cons (s := s) (A := A1) c r, e, c2, hp, hp2, hk, hl => by
    cases c2 with
    | nil => cases hl
    | @cons y t B1 σ2 ρ2 B2 d r2 =>
      rw [plainAt, Bool.and_eq_true] at hp hp2
      have r' := Cells.unblot (n + 1) vs r e r2 hp.2 hp2.2 (fun i hi => by
        have := hk (i + 1) (by rw [show n + (i + 1) = n + 1 + i by omega]; exact hi)
        simpa using this) (by simpa using hl)
      rw [DL.unblot]
      by_cases hc : vs.contains n = true
      · rw [if_pos hc]
        have h1 := hp.1
        have h2 := hp2.1
        rw [if_pos hc] at h1 h2
        have e2 : B1 = [] := by
          cases d with
          | non => rfl
          | val _ => rfl
          | own _ _ _ => simp [isPlain] at h2
          | ali => rfl
        subst e2
        cases c with
        | non => exact .cons .non r'
        | val h => exact .cons (.val (h.ex e)) r'
        | own _ _ _ => simp [isPlain] at h1
        | ali => simp [isPlain] at h1
      · rw [if_neg hc]
        have := hk 0 (by
          intro z
          exact hc (List.contains_iff_mem.mpr (by simpa using z)))
        simp at this
        rw [← this]
        exact .cons d r'
theorem blot_len : ∀ (n : Nat) (vs : List Nat) (ρ : List Slot), (blot n vs ρ).length = ρ.length
  | _, _, [] => rfl
  | n, vs, s :: ρ => by rw [blot, List.length_cons, List.length_cons, blot_len]
theorem unblot_len : ∀ (n : Nat) (vs : List Nat) (ρ ρ2 : List Slot), ρ2.length = ρ.length → (unblot n vs ρ ρ2).length = ρ.length
  | _, _, [], [], _ => rfl
  | n, vs, s :: ρ, t :: ρ2, h => by rw [unblot, List.length_cons, List.length_cons, unblot_len _ _ _ _ (by simpa using h)]
theorem blot_noAli : ∀ {ρ : List Slot} (n : Nat) (vs : List Nat), noAlis ρ = true → noAlis (blot n vs ρ) = true
  | [], _, _, _ => rfl
  | s :: ρ, n, vs, h => by
    rw [blot]
    have h' : noAlis ρ = true := by
      cases s <;> simp [noAlis] at h <;> exact h
    by_cases hc : vs.contains n = true
    · rw [if_pos hc]
      exact blot_noAli (n + 1) vs h'
    · rw [if_neg hc]
      cases s with
      | non => exact blot_noAli (n + 1) vs h'
      | val _ => exact blot_noAli (n + 1) vs h'
      | own _ _ => exact blot_noAli (n + 1) vs h'
      | ali _ _ => simp [noAlis] at h
theorem unblot_noAli : ∀ {ρ ρ2 : List Slot} (n : Nat) (vs : List Nat), noAlis ρ = true → noAlis ρ2 = true → noAlis (unblot n vs ρ ρ2) = true
  | [], [], _, _, _, _ => rfl
  | [], _ :: _, _, _, _, _ => rfl
  | _ :: _, [], _, _, _, _ => rfl
  | s :: ρ, t :: ρ2, n, vs, h, h2 => by
    rw [unblot]
    have h' : noAlis ρ = true := by
      cases s <;> simp [noAlis] at h <;> exact h
    have h2' : noAlis ρ2 = true := by
      cases t <;> simp [noAlis] at h2 <;> exact h2
    by_cases hc : vs.contains n = true
    · rw [if_pos hc]
      cases s with
      | non => exact unblot_noAli (n + 1) vs h' h2'
      | val _ => exact unblot_noAli (n + 1) vs h' h2'
      | own _ _ => exact unblot_noAli (n + 1) vs h' h2'
      | ali _ _ => simp [noAlis] at h
    · rw [if_neg hc]
      cases t with
      | non => exact unblot_noAli (n + 1) vs h' h2'
      | val _ => exact unblot_noAli (n + 1) vs h' h2'
      | own _ _ => exact unblot_noAli (n + 1) vs h' h2'
      | ali _ _ => simp [noAlis] at h2
/-- into the block -/
theorem En.inB {σ σ2 : L2.St} {ρ : List Slot} (E : En K B G H σ ρ []) (vs : List Nat) (hp : plainAt 0 vs ρ = true) (ha : noAlis ρ = true) (hl : σ2.length = σ.length) (hk : ∀ i, i ∉ vs → σ2[i]? = σ[i]?) : En K B G H σ2 (blot 0 vs ρ) [] := by
  obtain ⟨A, c, n, f⟩ := E.own
  exact ⟨E.anc, ⟨A, Cells.blot 0 vs (show Cells K B G H σ ρ A from c) hp hl (fun i hi => hk i (by simpa using hi)), n, f⟩, by rw [blot_len, hl, E.len], fun i j p e => absurd e (noAlis_get (blot_noAli 0 vs ha))⟩
/-- out of it -/
theorem En.outB {B0 : Base} {σ σ2 : L2.St} {ρ ρ2 : List Slot} (E : En K B0 G H σ ρ []) (E2 : En K B G' H' σ2 ρ2 []) (e : Ex G G') (vs : List Nat) (hp : plainAt 0 vs ρ = true) (hp2 : plainAt 0 vs ρ2 = true) (ha : noAlis ρ = true) (ha2 : noAlis ρ2 = true) (hk : ∀ i, i ∉ vs → σ2[i]? = σ[i]?) (hl : σ2.length = σ.length) : En K B G' H' σ (unblot 0 vs ρ ρ2) [] := by
  obtain ⟨A0, c0, _, _⟩ := E.own
  obtain ⟨A, c, n, f⟩ := E2.own
  refine ⟨E2.anc, ⟨A, Cells.unblot 0 vs (show Cells K B0 G H σ ρ A0 from c0) e (show Cells K B G' H' σ2 ρ2 A from c) hp hp2 (fun i hi => hk i (by simpa using hi)) hl, n, f⟩, ?_, fun i j p e => absurd e (noAlis_get (unblot_noAli 0 vs ha ha2))⟩
  rw [unblot_len _ _ _ _ (by rw [← E2.len, hl, E.len])]
  exact E.len
/-! ### the list that is made, out of reach -/
def Base.hide (B : Base) (p : Addr) (o : HO) : Base := { B with H0 := fun a => if a = p then some o else B.H0 a }
/-- an address that was free at En is none of the caller's -/
theorem En.noMo {σ : L2.St} {ρ : List Slot} {ex : List (V × Slot)} {p : Addr} (E : En K B G H σ ρ ex) (hp : H p = none) : (∀ l, p ∉ B.Mo l) ∧ B.H0 p = none := ⟨fun l m => E.anc.there p l m hp, E.fresh hp⟩
theorem En.hideIn {σ : L2.St} {ρ : List Slot} {p : Addr} {ds : List D} (E : En K B G H σ ρ [(.ref p, .own 0 (.lst (ds.map OT.dat)))]) (hm : ∀ l, p ∉ B.Mo l) (h0 : B.H0 p = none) : ∃ vs, H p = some (.lst vs) ∧ RpAll K G vs ds ∧ En K (B.hide p (.lst vs)) G H σ ρ [] := by
  obtain ⟨A, c, n, f⟩ := E.own
  cases c with
  | @cons _ _ A1 _ _ A2 c1 cr =>
    cases c1 with
    | own hO hr hv =>
      cases hO with
      | @lst _ ws _ A3 hH hall =>
        obtain ⟨e3, r⟩ := own_dats_inv hall
        subst e3
        have hG : G p = none := f p (by simp)
        have hn : p ∉ A2 := (List.nodup_cons.mp n).1
        refine ⟨ws, hH, r, ⟨⟨fun a o ha e => ?_, E.anc.there, E.anc.gsub, fun a e1 e2 => ?_, E.anc.sub⟩, ⟨A2, ?_, (List.nodup_cons.mp n).2, fun a m => f a (List.mem_cons_of_mem _ m)⟩, E.len, E.ali⟩⟩
        · have e : (if a = p then some (HO.lst ws) else B.H0 a) = some o := e
          by_cases hap : a = p
          · rw [if_pos hap] at e
            rw [hap, hH]
            exact e
          · rw [if_neg hap] at e
            exact E.anc.keep a o ha e
        · by_cases hap : a = p
          · rw [hap]
            exact hG
          · have e1 : (if a = p then some (HO.lst ws) else B.H0 a) ≠ none := e1
            rw [if_neg hap] at e1
            exact E.anc.gnew a e1 e2
        · have gen : ∀ {σ : L2.St} {ρ : List Slot} {A : List Addr}, Cells K B G H σ ρ A → p ∉ A → Cells K (B.hide p (.lst ws)) G H σ ρ A := by
            intro σ ρ A h
            induction h with
            | nil => exact fun _ => .nil
            | cons c r ih =>
              intro hn
              refine .cons ?_ (ih fun z => hn (List.mem_append_right _ z))
              cases c with
              | non => exact .non
              | val h => exact .val h
              | ali => exact .ali
              | own h l v =>
                refine .own h (fun a m => (l a m).imp id fun z => ?_) v
                show (if a = p then _ else B.H0 a) = none
                rw [if_neg fun e => hn (List.mem_append_left _ (by rw [← e]; exact m))]
                exact z
          exact gen (show Cells K B G H σ ρ A2 from cr) hn
theorem En.hideOut {σ : L2.St} {ρ : List Slot} {p : Addr} {vs : List V} {ds : List D} (E : En K (B.hide p (.lst vs)) G H σ ρ []) (hm : ∀ l, p ∉ B.Mo l) (h0 : B.H0 p = none) (hG0 : B.G0 p = none) (r : RpAll K G vs ds) (ha : noAlis ρ = true) : H p = some (.lst vs) ∧ G p = none ∧
    ∀ (vs' : List V) (ds' : List D), RpAll K G vs' ds' → En K B G (upd H p (.lst vs')) σ ρ [(.ref p, .own 0 (.lst (ds'.map OT.dat)))] := by
  have hH : H p = some (.lst vs) := E.anc.keep p _ hm (by
    show (if p = p then some (HO.lst vs) else B.H0 p) = _
    rw [if_pos rfl])
  have hG : G p = none := E.anc.gnew p (by
    show (if p = p then some (HO.lst vs) else B.H0 p) ≠ none
    rw [if_pos rfl]
    exact fun z => nomatch z) hG0
  refine ⟨hH, hG, fun vs' ds' r' => ?_⟩
  obtain ⟨A, c, n, f⟩ := E.own
  have hn : p ∉ A := by
    intro m
    rcases Cells.region (show Cells K _ G H σ ρ A from c) p m with ⟨l, z⟩ | z
    · exact hm l z
    · have z : (if p = p then some (HO.lst vs) else B.H0 p) = none := z
      rw [if_pos rfl] at z
      cases z
  have gen : ∀ {σ : L2.St} {ρ : List Slot} {A : List Addr}, Cells K (B.hide p (.lst vs)) G H σ ρ A → p ∉ A → Cells K B G (upd H p (.lst vs')) σ ρ A := by
    intro σ ρ A h
    induction h with
    | nil => exact fun _ => .nil
    | cons c r ih =>
      intro hn
      refine .cons ?_ (ih fun z => hn (List.mem_append_right _ z))
      cases c with
      | non => exact .non
      | val h => exact .val h
      | ali => exact .ali
      | own h l v =>
        have hA := fun z => hn (List.mem_append_left _ z)
        refine .own (h.ex (Ex.refl _) fun a m u e => ?_) (fun a m => (l a m).imp id fun z => ?_) v
        · rw [upd_ne (fun z => hA (by rw [← z]; exact m))]
          exact e
        · have z : (if a = p then some (HO.lst vs) else B.H0 a) = none := z
          by_cases hap : a = p
          · rw [if_pos hap] at z
            cases z
          · rw [if_neg hap] at z
            exact z
  refine ⟨⟨fun a o ha e => ?_, fun a l m => ?_, E.anc.gsub, fun a e1 e2 => ?_, fun a o e => ?_⟩, ⟨p :: A, .cons (A := [p]) (.own (.lst upd_same (own_dats r')) (fun a m => .inr ?_) (.inl rfl)) (gen (show Cells K _ G H σ ρ A from c) hn), List.nodup_cons.mpr ⟨hn, n⟩, fun a m => ?_⟩, E.len, fun i j q e => ?_⟩
  · have hap : a ≠ p := fun z => by
      rw [z, h0] at e
      cases e
    rw [upd_ne hap]
    refine E.anc.keep a o ha ?_
    show (if a = p then some (HO.lst vs) else B.H0 a) = _
    rw [if_neg hap]
    exact e
  · have hap : a ≠ p := fun z => hm l (by rw [← z]; exact m)
    rw [upd_ne hap]
    exact E.anc.there a l m
  · refine E.anc.gnew a ?_ e2
    show (if a = p then some (HO.lst vs) else B.H0 a) ≠ none
    by_cases hap : a = p
    · rw [if_pos hap]
      exact fun z => nomatch z
    · rw [if_neg hap]
      exact e1
  · rw [upd_ne (ne_of_none e hG)]
    exact E.anc.sub a o e
  · rw [List.mem_singleton.mp m]
    exact h0
  · rcases List.mem_cons.mp m with rfl | m
    · exact hG
    · exact f a m
  · exact absurd e (noAlis_get ha)
end
theorem upd_id {H : Hp} {p : Addr} {o : HO} (h : H p = some o) : upd H p o = H := by
  funext a
  by_cases ha : a = p
  · subst ha
    rw [upd_same, h]
  · rw [upd_ne ha]
/-! ### the comprehension -/
def compR {α S γ : Type} (f : α → S → R (Option γ × S)) : List α → List γ → S → R (List γ × S)
  | [], acc, s => .ok (acc, s)
  | x :: xs, acc, s => (f x s).bind fun p => compR f xs (match p.1 with | some v => acc ++ [v] | none => acc) p.2
def compF {α S δ ε γ : Type} (c : α → S → R δ) (bn : δ → Bool) (me : α → S → R ε) (v : ε → γ) (st : ε → S) (x : α) (s : S) : R (Option γ × S) :=
  (c x s).bind fun d => if bn d = true then (me x s).bind fun y => .ok (some (v y), st y) else .ok (none, s)
def JTs (X : Cx) (B : Base) (ρ : List Slot) (es : List Expr) {β : Type} (m : R β) (bn : β → Bool) : Prop := PTs X es (tJT X.K B ρ m bn fun _ => ρ)
section
variable {X : Cx} {B : Base} {ρ : List Slot} {pos : Pos} {e a b tg it elt : Expr}
theorem jts_nil : JTs X B ρ [] (.ok ()) (fun _ => true) := ⟨fun pins s σ H Q I ⟨G, E, q⟩ => pts_nil.run pins s σ H Q I (q G H (Ex.refl G) E)⟩
theorem jts_one {β : Type} {m : R β} {bn : β → Bool} (h : JT X B ρ e m bn (fun _ => ρ)) : JTs X B ρ [e] m bn := pts_one h
abbrev Blk (X : Cx) (sc : Scope) (P : Cx → Prop) : Prop := ∀ (s : Shared) (H : Hp) (C : Addr) (cl : List (Str × Addr)) (fp : List Addr), P (X.blk s H sc (compEnvC sc cl C X.env) fp)
theorem wipe_eq {σ σ2 : L2.St} : ∀ {vs : List Nat}, σ2.length = σ.length → (∀ i, i ∉ vs → σ2[i]? = σ[i]?) → wipe σ2 vs = wipe σ vs := by
  have key : ∀ (σ : L2.St) (vs : List Nat) (i : Nat), (wipe σ vs)[i]? = if i ∈ vs ∧ i < σ.length then some none else σ[i]? := by
    intro σ vs
    induction vs with
    | nil => intro i; simp [wipe]
    | cons v vs ih =>
      intro i
      rw [wipe]
      by_cases hv : v = i
      · subst hv
        by_cases hl : v < σ.length
        · rw [List.getElem?_set_self (by rw [wipe_length]; exact hl), if_pos ⟨List.mem_cons_self, hl⟩]
        · rw [List.getElem?_eq_none (by rw [List.length_set, wipe_length]; omega), if_neg (fun z => hl z.2), List.getElem?_eq_none (by omega)]
      · rw [List.getElem?_set_ne hv, ih]
        have : (i ∈ v :: vs) ↔ i ∈ vs := by
          constructor
          · intro z
            rcases List.mem_cons.mp z with z | z
            · exact absurd z.symm hv
            · exact z
          · exact List.mem_cons_of_mem _
        simp only [this]
  intro vs hl hk
  apply List.ext_getElem?
  intro i
  rw [key, key, hl]
  by_cases hi : i ∈ vs
  · by_cases hlt : i < σ.length
    · rw [if_pos ⟨hi, hlt⟩, if_pos ⟨hi, hlt⟩]
    · rw [if_neg (fun z => hlt z.2), if_neg (fun z => hlt z.2), List.getElem?_eq_none (by omega), List.getElem?_eq_none (by omega)]
  · rw [if_neg (fun z => hi z.1), if_neg (fun z => hi z.1), hk i hi]
theorem tlc_of {K : PySem.W.Frag} {α S γ δ ε β0 : Type} {m : R β0} {xs : β0 → List α} {ea : α → D} {en : γ → D} {ρ1 : β0 → List Slot} {vs ts : List Nat} {ρS : S → List Slot} {s0 : β0 → S} {ρB : α → S → List Slot} {c : α → S → R δ} {bn : δ → Bool} {me : α → S → R ε} {v : ε → γ} {st : ε → S}
    (hw : ∀ b, ρ1 b = ρS (s0 b)) (hpl : ∀ s, plainAt 0 vs (ρS s) = true) (hna : ∀ s, noAlis (ρS s) = true) (hts : ∀ i ∈ ts, i ∈ vs) (hplB : ∀ x s, plainAt 0 vs (ρB x s) = true) (hnaB : ∀ x s, noAlis (ρB x s) = true) (hun : ∀ x s s', unblot 0 vs (ρS s) (ρB x s') = ρS s')
    {σ : L2.St} {H : Hp} {Q : VK}
    (q : tJ K B ρ (m.bind fun b => (R.guard ((xs b).length ≤ sizeLine)).bind fun _ => compR (compF c bn me v st) (xs b) [] (s0 b)) (fun p => .own 0 (oL en p.1)) (fun p => ρS p.2) σ H Q) :
    tLc (tJI K B ρ m (fun b => (xs b).map ea) ρ1) (fun w σ H Q => ∃ B' x s, B'.rs = B.rs ∧ tJN K B' (blot 0 vs (ρS s)) (ea x) ts (ρB x s) w σ H Q) (fun σ H Q => ∃ B' x s, B'.rs = B.rs ∧ tJT K B' (ρB x s) (c x s) bn (fun _ => ρB x s) σ H Q)
      (fun σ H Q => ∃ B' x s, B'.rs = B.rs ∧ tJ K B' (ρB x s) (me x s) (fun y => .val (en (v y))) (fun y => ρB x (st y)) σ H Q) vs σ H Q := by
  obtain ⟨G, E, q⟩ := q
  refine ⟨G, E, R.post_mono (R.post_bind.mp q) fun b q1 J G' H' xG E' Y p hp => ?_⟩
  obtain ⟨hsz, q2⟩ := R.post_guard (R.post_bind.mp q1)
  have hlen : ((xs b).map ea).length = (xs b).length := List.length_map _
  obtain ⟨hMo, hH0⟩ := E'.noMo hp
  have hG0 : B.G0 p = none := (E'.anc.gsub.trans E'.sub).back hp
  let W : Nat → Hp → Prop := fun i H1 => ∃ G1 s acc, Ex G' G1 ∧ En K B G1 H1 σ (ρS s) [(.ref p, .own 0 (oL en acc))] ∧ acc.length ≤ i ∧
    (compR (compF c bn me v st) ((xs b).drop i) acc s).post (fun r => ∀ w G2 H2, Ex G1 G2 → En K B G2 H2 σ (ρS r.2) [(w, .own 0 (oL en r.1))] → Q w H2) B.rs
  refine ⟨fun i mm H1 => mm = (xs b).length - i ∧ i ≤ (xs b).length ∧ W i H1, ⟨_, rfl, Nat.zero_le _, G', s0 b, [], Ex.refl _, ?_, Nat.le_refl _, R.post_mono q2 fun r h w G2 H2 x2 E2 => h w G2 H2 (xG.trans x2) E2⟩, ?_⟩
  · rw [hw b] at E'
    exact E'.newL (ds := []) hp .nil
  · rintro i mm H1 ⟨rfl, hi1, G1, s, acc, x1, E1, hacc, q3⟩
    by_cases hlt : i < (xs b).length
    · refine .inr ⟨Y.go i H1 (by rw [hlen]; exact hlt) (x1.trans E1.sub), fun H' => W (i + 1) H', fun H' w => ⟨_, ?_, rfl, hlt, w⟩, fun w H2 hy => ?_⟩
      · omega
      · obtain ⟨us, hus, rus, Eh⟩ := E1.hideIn hMo hH0
        have hd : ((xs b).map ea)[i]? = some (ea (xs b)[i]) := by rw [List.getElem?_map, List.getElem?_eq_getElem hlt]; rfl
        obtain ⟨G2, x2, E2, r2⟩ := Y.yld _ i G1 H1 σ (ρS s) w H2 x1 Eh hy _ hd
        rw [List.drop_eq_getElem_cons hlt, compR] at q3
        generalize hx : (xs b)[i] = x at q3 r2
        have Eb : En K _ G2 H2 (wipe σ vs) (blot 0 vs (ρS s)) [] := E2.inB vs (hpl s) (hna s) (wipe_length σ vs) fun j hj => wipe_out hj
        refine ⟨B.hide p (.lst us), x, s, rfl, G2, Eb, r2, fun σ2 h2 l2 E3 => ?_⟩
        have l2' : σ2.length = σ.length := l2.trans (wipe_length σ vs)
        have k2 : ∀ j, j ∉ vs → σ2[j]? = σ[j]? := fun j hj => by
          rw [h2 j fun z => hj (hts j z), wipe_out hj]
        refine ⟨wipe_eq l2' k2, B.hide p (.lst us), x, s, rfl, G2, E3, ?_⟩
        unfold compF at q3
        have q4 := R.post_bind.mp (R.post_bind.mp q3)
        refine R.post_mono q4 fun d q5 G3 H3 x3 E3' => ?_
        cases hbn : bn d with
        | false =>
          rw [if_neg (by decide)]
          rw [hbn, if_neg (by decide)] at q5
          have Eo := E2.outB E3' x3 vs (hpl s) (hplB x s) (hna s) (hnaB x s) k2 l2'
          rw [hun x s s] at Eo
          have x13 := x2.trans x3
          obtain ⟨g1, g2, g3⟩ := Eo.hideOut hMo hH0 hG0 (RpAll.ex x13 rus) (hna s)
          have Ef := g3 us (acc.map en) (RpAll.ex x13 rus)
          rw [upd_id g1] at Ef
          exact ⟨G3, s, acc, x1.trans x13, Ef, by omega, R.post_mono q5 fun r h w G4 H4 x4 E4 => h w G4 H4 (x13.trans x4) E4⟩
        | true =>
          rw [if_pos rfl]
          rw [hbn, if_pos rfl] at q5
          refine ⟨B.hide p (.lst us), x, s, rfl, G3, E3', R.post_mono (R.post_bind.mp q5) fun y q6 w2 G4 H4 x4 E4 => ?_⟩
          have Eo := E2.outB E4.pop (x3.trans x4) vs (hpl s) (hplB x _) (hna s) (hnaB x _) k2 l2'
          rw [hun x s (st y)] at Eo
          have x14 := x2.trans (x3.trans x4)
          obtain ⟨g1, g2, g3⟩ := Eo.hideOut hMo hH0 hG0 (RpAll.ex x14 rus) (hna _)
          have Ef := g3 (us ++ [w2]) (acc.map en ++ [en (v y)]) ((RpAll.ex x14 rus).append (.cons E4.top .nil))
          have hl : us.length = acc.length := by rw [rus.len, List.length_map]
          refine ⟨us, g1, by omega, G4, st y, acc ++ [v y], x1.trans x14, ?_, by rw [List.length_append]; simp; omega, R.post_mono q6 fun r h w G5 H5 x5 E5 => h w G5 H5 (x14.trans x5) E5⟩
          show En K B G4 _ σ _ [(_, .own 0 (.lst (((acc ++ [v y]).map en).map OT.dat)))]
          rw [List.map_append (f := en)]
          exact Ef
    · refine .inl ⟨Y.stop i H1 (by rw [hlen]; omega) (x1.trans E1.sub), ?_⟩
      rw [List.drop_eq_nil_of_le (by omega)] at q3
      exact q3 _ G1 H1 (Ex.refl _) E1
theorem PTs_ex {X : Cx} {es : List Expr} {ι : Type} {t : ι → TT} (h : ∀ i, PTs X es (t i)) : PTs X es (fun σ H Q => ∃ i, t i σ H Q) := ⟨fun pins s σ H Q I ⟨i, q⟩ => (h i).run pins s σ H Q I q⟩
/-- [elt for tg in it if ..] -/
theorem je_lc {α S γ δ ε β0 : Type} {ifs : List Expr} {sc : Scope} {m : R β0} {xs : β0 → List α} {ea : α → D} {ρ1 : β0 → List Slot} (own : List (Str × Nat)) {ts : List Nat} (en : γ → D) (ρS : S → List Slot) (s0 : β0 → S) (ρB : α → S → List Slot) {c : α → S → R δ} {bn : δ → Bool} {me : α → S → R ε} (v : ε → γ) (st : ε → S)
    (hc : X.calm = true) (hN : X.N.Nodup) (hi : JI X B ρ tg it m (fun b => (xs b).map ea) ρ1) (ok : BlkOk X.N X.env.scope sc own) (hw : ∀ b, ρ1 b = ρS (s0 b))
    (hg : Blk X sc fun X' => ∀ B' : Base, B'.rs = B.rs → ∀ x s, JN X' B' (blot 0 (own.map (·.2)) (ρS s)) tg (ea x) ts (ρB x s))
    (ht : Blk X sc fun X' => ∀ B' : Base, B'.rs = B.rs → ∀ x s, JTs X' B' (ρB x s) ifs (c x s) bn)
    (he : Blk X sc fun X' => ∀ B' : Base, B'.rs = B.rs → ∀ x s, JE X' B' (ρB x s) elt (me x s) (fun y => .val (en (v y))) (fun y => ρB x (st y)))
    (hpl : ∀ s, plainAt 0 (own.map (·.2)) (ρS s) = true := by intro _; rfl) (hna : ∀ s, noAlis (ρS s) = true := by intro _; rfl) (hts : ∀ i ∈ ts, i ∈ own.map (·.2) := by decide) (hplB : ∀ x s, plainAt 0 (own.map (·.2)) (ρB x s) = true := by intro _ _; rfl)
    (hnaB : ∀ x s, noAlis (ρB x s) = true := by intro _ _; rfl) (hun : ∀ x s s', unblot 0 (own.map (·.2)) (ρS s) (ρB x s') = ρS s' := by intro _ _ _; rfl) (hs : ∀ x, foldedSetIterable it X.env x = pure x := by intro _; rfl) :
    JE X B ρ (.ListComp elt [⟨tg, it, ifs, 0⟩] sc pos) (m.bind fun b => (R.guard ((xs b).length ≤ sizeLine)).bind fun _ => compR (compF c bn me v st) (xs b) [] (s0 b)) (fun p => .own 0 (oL en p.1)) (fun p => ρS p.2) := by
  refine PE_imp (pe_lc (own := own) hc hN hi ok (fun s H C cl fp => ?_) (fun s H C cl fp => ?_) (fun s H C cl fp => ?_) hs) fun σ H Q q => tlc_of (ts := ts) (ρB := ρB) (c := c) (bn := bn) (me := me) (v := v) (st := st) hw hpl hna hts hplB hnaB hun q
  · exact ⟨fun pins s σ H v u Q I r ⟨B', x, s', h, q⟩ => (hg _ _ _ _ _ B' h x s').run pins s σ H v u Q I r q⟩
  · exact ⟨fun pins s σ H Q I ⟨B', x, s', h, q⟩ => (ht _ _ _ _ _ B' h x s').run pins s σ H Q I q⟩
  · exact ⟨fun pins s σ H Q I ⟨B', x, s', h, q⟩ => (he _ _ _ _ _ B' h x s').run pins s σ H Q I q⟩
/-- y = [..] on one line -/
theorem j1_setLc (i : Nat) {y : Str} {py spos : Pos} {α S γ δ ε β0 : Type} {ifs : List Expr} {sc : Scope} {m : R β0} {xs : β0 → List α} {ea : α → D} {ρ1 : β0 → List Slot} (own : List (Str × Nat)) {ts : List Nat} (en : γ → D) (ρS : S → List Slot) (s0 : β0 → S) (ρB : α → S → List Slot) {c : α → S → R δ} {bn : δ → Bool} {me : α → S → R ε} (v : ε → γ) (st : ε → S)
    (hc : X.calm = true) (hN : X.N.Nodup) (hi : JI X B ρ tg it m (fun b => (xs b).map ea) ρ1) (ok : BlkOk X.N X.env.scope sc own) (hw : ∀ b, ρ1 b = ρS (s0 b))
    (hg : Blk X sc fun X' => ∀ B' : Base, B'.rs = B.rs → ∀ x s, JN X' B' (blot 0 (own.map (·.2)) (ρS s)) tg (ea x) ts (ρB x s))
    (ht : Blk X sc fun X' => ∀ B' : Base, B'.rs = B.rs → ∀ x s, JTs X' B' (ρB x s) ifs (c x s) bn)
    (he : Blk X sc fun X' => ∀ B' : Base, B'.rs = B.rs → ∀ x s, JE X' B' (ρB x s) elt (me x s) (fun y => .val (en (v y))) (fun y => ρB x (st y)))
    (hy : X.N[i]? = some y := by rfl) (hyl : X.env.scope.names.lookup y = some .local := by rfl) (hsw : swapsWith (.ListComp elt [⟨tg, it, ifs, 0⟩] sc pos) (some (.Name y py)) spos.line X.env = pure true := by exact sw_true rfl rfl rfl (by decide +kernel))
    (hpl : ∀ s, plainAt 0 (own.map (·.2)) (ρS s) = true := by intro _; rfl) (hna : ∀ s, noAlis (ρS s) = true := by intro _; rfl) (hts : ∀ i ∈ ts, i ∈ own.map (·.2) := by decide) (hplB : ∀ x s, plainAt 0 (own.map (·.2)) (ρB x s) = true := by intro _ _; rfl)
    (hnaB : ∀ x s, noAlis (ρB x s) = true := by intro _ _; rfl) (hun : ∀ x s s', unblot 0 (own.map (·.2)) (ρS s) (ρB x s') = ρS s' := by intro _ _ _; rfl) (hs : ∀ x, foldedSetIterable it X.env x = pure x := by intro _; rfl)
    (hlt : ∀ s, i < (ρS s).length := by intro _; exact of_decide_eq_true rfl) (hal : ∀ s, noAli i (ρS s) = true := by intro _; rfl) :
    J1 X B ρ (.Assign [.Name y py] (.ListComp elt [⟨tg, it, ifs, 0⟩] sc pos) spos) (m.bind fun b => (R.guard ((xs b).length ≤ sizeLine)).bind fun _ => compR (compF c bn me v st) (xs b) [] (s0 b)) (fun p => (ρS p.2).set i (.own 0 (oL en p.1))) := by
  have h1 := ps_setLc (X := X) (i := i) (own := own) (spos := spos) (py := py) (y := y) (elt := elt) (pos := pos) (g := fun w σ H Q => ∃ B' x s, B'.rs = B.rs ∧ tJN X.K B' (blot 0 (own.map (·.2)) (ρS s)) (ea x) ts (ρB x s) w σ H Q) (tt := fun σ H Q => ∃ B' x s, B'.rs = B.rs ∧ tJT X.K B' (ρB x s) (c x s) bn (fun _ => ρB x s) σ H Q)
    (te := fun σ H Q => ∃ B' x s, B'.rs = B.rs ∧ tJ X.K B' (ρB x s) (me x s) (fun y => .val (en (v y))) (fun y => ρB x (st y)) σ H Q) hc hN hy hyl hsw hi ok
    (fun s H C cl fp => ⟨fun pins s σ H v u Q I r ⟨B', x, s', h, q⟩ => (hg _ _ _ _ _ B' h x s').run pins s σ H v u Q I r q⟩)
    (fun s H C cl fp => ⟨fun pins s σ H Q I ⟨B', x, s', h, q⟩ => (ht _ _ _ _ _ B' h x s').run pins s σ H Q I q⟩)
    (fun s H C cl fp => ⟨fun pins s σ H Q I ⟨B', x, s', h, q⟩ => (he _ _ _ _ _ B' h x s').run pins s σ H Q I q⟩) hs
  refine PS_imp h1 fun D σ H ⟨G, E, q⟩ => ?_
  show tLc _ _ _ _ _ σ H (fun x H1 => D.nx (σ.set i (some x)) H1)
  refine tlc_of (ts := ts) (ρB := ρB) (c := c) (bn := bn) (me := me) (v := v) (st := st) (en := en) (ρS := ρS) (s0 := s0) hw hpl hna hts hplB hnaB hun ⟨G, E, R.post_mono q fun p q1 w G' H' x E' => q1 _ G' H' x (E'.set (hlt _) (fun _ _ z => nomatch z) (hal _))⟩
end
end DL

/-! DL11: more expressions -/
namespace DL
open PySem PySem.Spec L2

/-! ### comprehensions whose parts are pure -/
theorem compR_pure {α S γ : Type} (t : α → Bool) (f : α → γ) : ∀ (xs : List α) (acc : List γ) (s : S), compR (compF (fun x (_ : S) => R.ok (t x)) (fun b => b) (fun x s => R.ok (f x, s)) Prod.fst Prod.snd) xs acc s = .ok (acc ++ (xs.filter t).map f, s)
  | [], acc, s => by rw [compR, List.filter_nil, List.map_nil, List.append_nil]
  | x :: xs, acc, s => by
    have e : compF (fun x (_ : S) => R.ok (t x)) (fun b => b) (fun x s => R.ok (f x, s)) Prod.fst Prod.snd x s = .ok (if t x = true then (some (f x), s) else (none, s)) := by
      cases h : t x <;> simp [compF, R.bind, h]
    rw [compR, e]
    cases h : t x with
    | true =>
      rw [if_pos rfl, List.filter_cons_of_pos h, List.map_cons]
      have := compR_pure t f xs (acc ++ [f x]) s
      rw [List.append_assoc] at this
      exact this
    | false =>
      rw [if_neg (by decide), List.filter_cons_of_neg (by rw [h]; decide)]
      exact compR_pure t f xs acc s
section
variable {X : Cx} {B : Base} {ρ : List Slot} {pos : Pos} {e a b tg it elt : Expr} {es : List Expr}
theorem je_pe {α : Type} {en : α → D} (v : α) (h : JP X B ρ e (en v)) : JE X B ρ e (.ok v) (fun y => .val (en y)) (fun _ => ρ) := h
theorem je_mapS {α β S : Type} {m : R β} {en : α → D} {v : β → α} {st : β → S} {ρ' : S → List Slot} (h : JE X B ρ e m (fun b => .val (en (v b))) (fun b => ρ' (st b))) : JE X B ρ e (m.bind fun b => .ok (v b, st b)) (fun p => .val (en p.1)) (fun p => ρ' p.2) :=
  PE_imp h fun σ H Q ⟨G, E, q⟩ => ⟨G, E, R.post_mono (R.post_bind.mp q) fun b k => k⟩
/-- [f(x) for x in it if t(x)] -/
theorem je_lcP {α γ β0 : Type} {ifs : List Expr} {sc : Scope} {m : R β0} {xs : β0 → List α} {ea : α → D} (own : List (Str × Nat)) {ts : List Nat} (en : γ → D) (ρB : α → List Slot) (t : α → Bool) (f : α → γ)
    (hc : X.calm = true) (hN : X.N.Nodup) (hi : JI X B ρ tg it m (fun b => (xs b).map ea) (fun _ => ρ)) (ok : BlkOk X.N X.env.scope sc own)
    (hg : Blk X sc fun X' => ∀ B' : Base, B'.rs = B.rs → ∀ x, JN X' B' (blot 0 (own.map (·.2)) ρ) tg (ea x) ts (ρB x))
    (ht : Blk X sc fun X' => ∀ B' : Base, B'.rs = B.rs → ∀ x, JTs X' B' (ρB x) ifs (.ok (t x)) (fun b => b))
    (he : Blk X sc fun X' => ∀ B' : Base, B'.rs = B.rs → ∀ x, JP X' B' (ρB x) elt (en (f x)))
    (hpl : plainAt 0 (own.map (·.2)) ρ = true := by rfl) (hna : noAlis ρ = true := by rfl) (hts : ∀ i ∈ ts, i ∈ own.map (·.2) := by decide) (hplB : ∀ x, plainAt 0 (own.map (·.2)) (ρB x) = true := by intro _; rfl)
    (hnaB : ∀ x, noAlis (ρB x) = true := by intro _; rfl) (hun : ∀ x, unblot 0 (own.map (·.2)) ρ (ρB x) = ρ := by intro _; rfl) (hs : ∀ x, foldedSetIterable it X.env x = pure x := by intro _; rfl) :
    JE X B ρ (.ListComp elt [⟨tg, it, ifs, 0⟩] sc pos) (m.bind fun b => (R.guard ((xs b).length ≤ sizeLine)).bind fun _ => .ok b) (fun b => .own 0 (oL en (((xs b).filter t).map f))) (fun _ => ρ) := by
  have h := je_lc (X := X) (B := B) (ρ := ρ) (pos := pos) (S := Unit) (xs := xs) (ea := ea) (ts := ts) own en (fun _ => ρ) (fun _ => ()) (fun x _ => ρB x) (c := fun x _ => R.ok (t x)) (bn := fun b => b) (me := fun x s => R.ok (f x, s)) Prod.fst Prod.snd hc hN hi ok (fun _ => rfl)
    (fun s H C cl fp B' h x _ => hg s H C cl fp B' h x) (fun s H C cl fp B' h x _ => ht s H C cl fp B' h x) (fun s H C cl fp B' h x _ => he s H C cl fp B' h x) (fun _ => hpl) (fun _ => hna) hts (fun x _ => hplB x) (fun x _ => hnaB x) (fun x _ _ => hun x) hs
  refine PE_imp h fun σ H Q ⟨G, E, q⟩ => ⟨G, E, ?_⟩
  refine R.post_bind.mpr (R.post_mono (R.post_bind.mp q) fun b q1 => R.post_bind.mpr (R.post_mono (R.post_bind.mp q1) fun u q2 => ?_))
  rw [compR_pure]
  rw [List.nil_append]
  exact q2
theorem j1_setLcP (i : Nat) {y : Str} {py spos : Pos} {α γ β0 : Type} {ifs : List Expr} {sc : Scope} {m : R β0} {xs : β0 → List α} {ea : α → D} (own : List (Str × Nat)) {ts : List Nat} (en : γ → D) (ρB : α → List Slot) (t : α → Bool) (f : α → γ)
    (hc : X.calm = true) (hN : X.N.Nodup) (hi : JI X B ρ tg it m (fun b => (xs b).map ea) (fun _ => ρ)) (ok : BlkOk X.N X.env.scope sc own)
    (hg : Blk X sc fun X' => ∀ B' : Base, B'.rs = B.rs → ∀ x, JN X' B' (blot 0 (own.map (·.2)) ρ) tg (ea x) ts (ρB x))
    (ht : Blk X sc fun X' => ∀ B' : Base, B'.rs = B.rs → ∀ x, JTs X' B' (ρB x) ifs (.ok (t x)) (fun b => b))
    (he : Blk X sc fun X' => ∀ B' : Base, B'.rs = B.rs → ∀ x, JP X' B' (ρB x) elt (en (f x)))
    (hy : X.N[i]? = some y := by rfl) (hyl : X.env.scope.names.lookup y = some .local := by rfl) (hsw : swapsWith (.ListComp elt [⟨tg, it, ifs, 0⟩] sc pos) (some (.Name y py)) spos.line X.env = pure true := by exact sw_true rfl rfl rfl (by decide +kernel))
    (hpl : plainAt 0 (own.map (·.2)) ρ = true := by rfl) (hna : noAlis ρ = true := by rfl) (hts : ∀ i ∈ ts, i ∈ own.map (·.2) := by decide) (hplB : ∀ x, plainAt 0 (own.map (·.2)) (ρB x) = true := by intro _; rfl)
    (hnaB : ∀ x, noAlis (ρB x) = true := by intro _; rfl) (hun : ∀ x, unblot 0 (own.map (·.2)) ρ (ρB x) = ρ := by intro _; rfl) (hs : ∀ x, foldedSetIterable it X.env x = pure x := by intro _; rfl)
    (hlt : i < ρ.length := by exact of_decide_eq_true rfl) (hal : noAli i ρ = true := by rfl) :
    J1 X B ρ (.Assign [.Name y py] (.ListComp elt [⟨tg, it, ifs, 0⟩] sc pos) spos) (m.bind fun b => (R.guard ((xs b).length ≤ sizeLine)).bind fun _ => .ok b) (fun b => ρ.set i (.own 0 (oL en (((xs b).filter t).map f)))) := by
  have h := j1_setLc (X := X) (B := B) (ρ := ρ) (pos := pos) (spos := spos) (py := py) (y := y) i (S := Unit) (xs := xs) (ea := ea) (ts := ts) own en (fun _ => ρ) (fun _ => ()) (fun x _ => ρB x) (c := fun x _ => R.ok (t x)) (bn := fun b => b) (me := fun x s => R.ok (f x, s)) Prod.fst Prod.snd hc hN hi ok (fun _ => rfl)
    (fun s H C cl fp B' h x _ => hg s H C cl fp B' h x) (fun s H C cl fp B' h x _ => ht s H C cl fp B' h x) (fun s H C cl fp B' h x _ => he s H C cl fp B' h x) hy hyl hsw (fun _ => hpl) (fun _ => hna) hts (fun x _ => hplB x) (fun x _ => hnaB x) (fun x _ _ => hun x) hs (fun _ => hlt) (fun _ => hal)
  refine PS_imp h fun D σ H ⟨G, E, q⟩ => ⟨G, E, ?_⟩
  refine R.post_bind.mpr (R.post_mono (R.post_bind.mp q) fun b q1 => R.post_bind.mpr (R.post_mono (R.post_bind.mp q1) fun u q2 => ?_))
  rw [compR_pure]
  rw [List.nil_append]
  exact q2
/-! ### and, or with owned things that change -/
variable {rest : List Expr}
theorem jt_mapS {β S : Type} {m : R β} {bn : β → Bool} {st : β → S} {ρS : S → List Slot} (h : JT X B ρ e m bn (fun b => ρS (st b))) : JT X B ρ e (m.bind fun b => .ok (bn b, st b)) (fun p => p.1) (fun p => ρS p.2) :=
  PT_imp h fun σ H Q ⟨G, E, q⟩ => ⟨G, E, R.post_mono (R.post_bind.mp q) fun b k => k⟩
theorem jw_andS {α S : Type} {ma : R α} {xa : α → Bool} (st : α → S) (ρS : S → List Slot) {mb : α → R (Bool × S)} (ha : JT X B ρ a ma xa (fun x => ρS (st x))) (hb : ∀ x, JW X B (ρS (st x)) (.BoolOp .And (b :: rest) pos) (mb x) (fun p => p.1) (fun p => ρS p.2)) :
    JW X B ρ (.BoolOp .And (a :: b :: rest) pos) (ma.bind fun x => if xa x = true then mb x else .ok (false, st x)) (fun p => p.1) (fun p => ρS p.2) := by
  have hb' : PW X (.BoolOp .And (b :: rest) pos) (fun σ H Q => ∃ x, tJT X.K B (ρS (st x)) (mb x) (fun p => p.1) (fun p => ρS p.2) σ H Q) := ⟨fun wh pins s σ H Q I ⟨x, q⟩ => (hb x).run wh pins s σ H Q I q⟩
  exact PW_imp (pw_and ha hb') fun σ H Q ⟨G, E, q⟩ => ⟨G, E, R.post_mono (R.post_bind.mp q) fun x k G1 H1 x1 E1 => by
    cases hx : xa x with
    | true =>
      rw [if_pos hx] at k
      exact ⟨x, G1, E1, R.post_mono k fun b k G2 H2 x2 E2 => k G2 H2 (x1.trans x2) E2⟩
    | false =>
      rw [if_neg (by rw [hx]; decide)] at k
      exact k G1 H1 x1 E1⟩
theorem jw_orS {α S : Type} {ma : R α} {xa : α → Bool} (st : α → S) (ρS : S → List Slot) {mb : α → R (Bool × S)} (ha : JT X B ρ a ma xa (fun x => ρS (st x))) (hb : ∀ x, JW X B (ρS (st x)) (.BoolOp .Or (b :: rest) pos) (mb x) (fun p => p.1) (fun p => ρS p.2)) :
    JW X B ρ (.BoolOp .Or (a :: b :: rest) pos) (ma.bind fun x => if xa x = true then .ok (true, st x) else mb x) (fun p => p.1) (fun p => ρS p.2) := by
  have hb' : PW X (.BoolOp .Or (b :: rest) pos) (fun σ H Q => ∃ x, tJT X.K B (ρS (st x)) (mb x) (fun p => p.1) (fun p => ρS p.2) σ H Q) := ⟨fun wh pins s σ H Q I ⟨x, q⟩ => (hb x).run wh pins s σ H Q I q⟩
  exact PW_imp (pw_or ha hb') fun σ H Q ⟨G, E, q⟩ => ⟨G, E, R.post_mono (R.post_bind.mp q) fun x k G1 H1 x1 E1 => by
    cases hx : xa x with
    | false =>
      rw [if_neg (by rw [hx]; decide)] at k
      exact ⟨x, G1, E1, R.post_mono k fun b k G2 H2 x2 E2 => k G2 H2 (x1.trans x2) E2⟩
    | true =>
      rw [if_pos hx] at k
      exact k G1 H1 x1 E1⟩
/-! ### data of any depth, compared -/
end
def toPy : D → PyData
  | .none => .none
  | .bool b => .bool b
  | .int i => .int i
  | .str s => .str s
  | .list xs => .list (toPys xs)
  | .tuple xs => .tuple (toPys xs)
  | .row xs => .tuple (toPys xs)
  | .dict _ => .dict []
  | .scr ns => .list (ns.map PyData.int)
  | .key ns => .tuple (ns.map PyData.int)
where toPys : List D → List PyData
  | [] => []
  | x :: xs => toPy x :: toPys xs
theorem dp_ints {K : PySem.W.Frag} {G : Hp} : ∀ ns : List Int, DpAll K G (ns.map V.int) (ns.map PyData.int)
  | [] => .nil
  | n :: ns => .cons (.int n) (dp_ints ns)
mutual
theorem Rp.dp {K : PySem.W.Frag} {G H : Hp} (e : Ex G H) : ∀ {v : V} {d : D}, Rp K G v d → (toPy d).canLay0 = true → Dp K H v (toPy d)
  | _, _, .non, _ => by
    rw [toPy]
    exact .non
  | _, _, .bl b, _ => by
    rw [toPy]
    exact .bl b
  | _, _, .int i, _ => by
    rw [toPy]
    exact .int i
  | _, _, .str x, _ => by
    rw [toPy]
    exact .str x
  | _, _, .lst h r, c => by
    rw [toPy] at c ⊢
    exact .lst (.inl (e.rd h)) (RpAll.dp e r (by simpa [PyData.canLay0] using c))
  | _, _, .tup h r, c => by
    rw [toPy] at c ⊢
    exact .tup (e.t h) (RpAll.dp e r (by simpa [PyData.canLay0] using c))
  | _, _, .row h d r, c => by
    rw [toPy] at c ⊢
    exact .tup (.inl (.inr ⟨_, e _ _ h⟩)) (RpAll.dp e r (by simpa [PyData.canLay0] using c))
  | _, _, .scr h, _ => by
    rw [toPy]
    exact .lst (e.l h) (dp_ints _)
  | _, _, .key h, _ => by
    rw [toPy]
    exact .tup (.inl (.inl (e _ _ h))) (dp_ints _)
  | _, _, .dK _ _, c => by
    rw [toPy] at c
    simp [PyData.canLay0] at c
  | _, _, .dT _ _, c => by
    rw [toPy] at c
    simp [PyData.canLay0] at c
theorem RpAll.dp {K : PySem.W.Frag} {G H : Hp} (e : Ex G H) : ∀ {v : List V} {d : List D}, RpAll K G v d → PyData.canLayAll0 (toPy.toPys d) = true → DpAll K H v (toPy.toPys d)
  | _, _, .nil, _ => by
    rw [toPy.toPys]
    exact .nil
  | _, _, .cons h r, c => by
    rw [toPy.toPys] at c ⊢
    rw [PyData.canLayAll0, Bool.and_eq_true] at c
    exact .cons (Rp.dp e h c.1) (RpAll.dp e r c.2)
end
/-- encodings whose values are equal just where the data are, at most n deep -/
structure EqE {α : Type} [DecidableEq α] (n : Nat) (f : α → D) : Prop where
  lay : ∀ x, (toPy (f x)).canLay0 = true
  dep : ∀ x, (toPy (f x)).depth ≤ n
  eqv : ∀ x y, PyData.eqv (toPy (f x)) (toPy (f y)) = decide (x = y)
theorem EqE.shaped {α : Type} [DecidableEq α] {n : Nat} {f : α → D} (h : EqE n f) (hn : n ≤ 64) (x : α) : SeqAt.shaped (toPy (f x)) = true := by
  unfold SeqAt.shaped
  rw [h.lay x, Bool.true_and]
  exact decide_eq_true (Nat.le_trans (h.dep x) hn)
theorem ee_int : EqE 0 D.int := ⟨fun _ => by simp [toPy, PyData.canLay0], fun _ => by simp [toPy, PyData.depth], fun x y => by
  simp only [toPy, PyData.eqv]
  exact Bool.beq_eq_decide_eq ..⟩
theorem ee_bool : EqE 0 D.bool := ⟨fun _ => by simp [toPy, PyData.canLay0], fun _ => by simp [toPy, PyData.depth], fun x y => by
  simp only [toPy, PyData.eqv]
  exact Bool.beq_eq_decide_eq ..⟩
theorem ee_p2 {α β : Type} [DecidableEq α] [DecidableEq β] {n : Nat} {f : α → D} {g : β → D} (hf : EqE n f) (hg : EqE n g) : EqE (n + 1) (eP2 f g) := by
  refine ⟨fun x => ?_, fun x => ?_, fun x y => ?_⟩
  · simp [toPy, toPy.toPys, PyData.canLay0, PyData.canLayAll0, hf.lay, hg.lay]
  · have h1 := hf.dep x.1
    have h2 := hg.dep x.2
    simp [toPy, toPy.toPys, PyData.depth, PyData.depthAll]
    omega
  · obtain ⟨a, b⟩ := x
    obtain ⟨c, d⟩ := y
    simp only [toPy, toPy.toPys, PyData.eqv, PyData.eqvAll, hf.eqv, hg.eqv, Bool.and_true]
    rw [← Bool.decide_and]
    exact decide_eq_decide.mpr ⟨fun h => by rw [h.1, h.2], fun h => by
      injection h with h1 h2
      exact ⟨h1, h2⟩⟩
theorem ee_p3 {α β γ : Type} [DecidableEq α] [DecidableEq β] [DecidableEq γ] {n : Nat} {f : α → D} {g : β → D} {h : γ → D} (hf : EqE n f) (hg : EqE n g) (hh : EqE n h) : EqE (n + 1) (eP3 f g h) := by
  refine ⟨fun x => ?_, fun x => ?_, fun x y => ?_⟩
  · simp [toPy, toPy.toPys, PyData.canLay0, PyData.canLayAll0, hf.lay, hg.lay, hh.lay]
  · have h1 := hf.dep x.1
    have h2 := hg.dep x.2.1
    have h3 := hh.dep x.2.2
    simp [toPy, toPy.toPys, PyData.depth, PyData.depthAll]
    omega
  · obtain ⟨a, b, c⟩ := x
    obtain ⟨a', b', c'⟩ := y
    simp only [toPy, toPy.toPys, PyData.eqv, PyData.eqvAll, hf.eqv, hg.eqv, hh.eqv, Bool.and_true]
    rw [← Bool.decide_and, ← Bool.decide_and]
    exact decide_eq_decide.mpr ⟨fun h => by rw [h.1, h.2.1, h.2.2], fun h => by
      injection h with h1 h2
      injection h2 with h2 h3
      exact ⟨h1, h2, h3⟩⟩
section
variable {α : Type} [DecidableEq α] {n : Nat} {f : α → D}
theorem ee_lay (h : EqE n f) : ∀ l : List α, PyData.canLayAll0 (toPy.toPys (l.map f)) = true
  | [] => by simp [toPy.toPys, PyData.canLayAll0]
  | x :: l => by
    rw [List.map_cons, toPy.toPys, PyData.canLayAll0, h.lay, ee_lay h l]
    rfl
theorem ee_dep (h : EqE n f) : ∀ l : List α, PyData.depthAll (toPy.toPys (l.map f)) ≤ n
  | [] => by simp [toPy.toPys, PyData.depthAll]
  | x :: l => by
    have h1 := h.dep x
    have h2 := ee_dep h l
    rw [List.map_cons, toPy.toPys, PyData.depthAll]
    omega
theorem ee_eqv (h : EqE n f) : ∀ l m : List α, PyData.eqvAll (toPy.toPys (l.map f)) (toPy.toPys (m.map f)) = decide (l = m)
  | [], [] => by simp [toPy.toPys, PyData.eqvAll]
  | [], _ :: _ => by simp [toPy.toPys, PyData.eqvAll]
  | _ :: _, [] => by simp [toPy.toPys, PyData.eqvAll]
  | x :: l, y :: m => by
    rw [List.map_cons, List.map_cons, toPy.toPys, toPy.toPys, PyData.eqvAll, h.eqv, ee_eqv h l m, ← Bool.decide_and]
    exact decide_eq_decide.mpr ⟨fun h => by rw [h.1, h.2], fun h => by
      injection h with h1 h2
      exact ⟨h1, h2⟩⟩
theorem ee_T (h : EqE n f) : EqE (n + 1) (eT f) := ⟨fun l => by
  rw [toPy, PyData.canLay0]
  exact ee_lay h l, fun l => by
  rw [toPy, PyData.depth]
  exact Nat.succ_le_succ (ee_dep h l), fun l m => by
  rw [toPy, toPy, PyData.eqv]
  exact ee_eqv h l m⟩
theorem ee_L (h : EqE n f) : EqE (n + 1) (eL f) := ⟨fun l => by
  rw [toPy, PyData.canLay0]
  exact ee_lay h l, fun l => by
  rw [toPy, PyData.depth]
  exact Nat.succ_le_succ (ee_dep h l), fun l m => by
  rw [toPy, toPy, PyData.eqv]
  exact ee_eqv h l m⟩
variable {K : PySem.W.Frag} {B : Base}
theorem od_eqD (h : EqE n f) (hn : n ≤ 64 := by decide) {x y : α} : OpD K B (rEqD K) (f x) (f y) (.ok ()) (fun _ => .val (.bool (decide (x = y)))) :=
  od_val0 (w := .bl (decide (x = y))) (fun G H vx vy Q e hx hy q => ⟨_, _, hx.dp e (h.lay x), hy.dp e (h.lay y), h.shaped hn x, h.shaped hn y, by rw [h.eqv]; exact q⟩) fun _ => .bl _
theorem od_neD (h : EqE n f) (hn : n ≤ 64 := by decide) {x y : α} : OpD K B (rNeD K) (f x) (f y) (.ok ()) (fun _ => .val (.bool (!decide (x = y)))) :=
  od_val0 (w := .bl (!decide (x = y))) (fun G H vx vy Q e hx hy q => ⟨_, _, hx.dp e (h.lay x), hy.dp e (h.lay y), h.shaped hn x, h.shaped hn y, by rw [h.eqv]; exact q⟩) fun _ => .bl _
theorem any_eqv (h : EqE n f) (x : α) : ∀ l : List α, ((toPy.toPys (l.map f)).any fun z => PyData.eqv z (toPy (f x))) = decide (x ∈ l)
  | [] => by simp [toPy.toPys]
  | y :: l => by
    rw [List.map_cons, toPy.toPys, List.any_cons, h.eqv, any_eqv h x l, ← Bool.decide_or]
    exact decide_eq_decide.mpr ⟨fun h => by
      rcases h with h | h
      · rw [h]
        exact List.mem_cons_self
      · exact List.mem_cons_of_mem _ h, fun h => by
      rcases List.mem_cons.mp h with h | h
      · exact .inl h.symm
      · exact .inr h⟩
theorem od_inD (h : EqE n f) (hn : n + 1 ≤ 64 := by decide) {x : α} {l : List α} : OpD K B (rInD K) (f x) (eL f l) (.ok ()) (fun _ => .val (.bool (decide (x ∈ l)))) :=
  od_val0 (w := .bl (decide (x ∈ l))) (fun G H vx vy Q e hx hy q => by
    have hL := ee_L h
    have d2 := hy.dp e (hL.lay l)
    have s2 := hL.shaped hn l
    rw [toPy] at d2 s2
    exact ⟨_, _, hx.dp e (h.lay x), d2, h.shaped (by omega) x, s2, by rw [any_eqv h]; exact q⟩) fun _ => .bl _
theorem od_niD (h : EqE n f) (hn : n + 1 ≤ 64 := by decide) {x : α} {l : List α} : OpD K B (rNotInD K) (f x) (eL f l) (.ok ()) (fun _ => .val (.bool (!decide (x ∈ l)))) :=
  od_val0 (w := .bl (!decide (x ∈ l))) (fun G H vx vy Q e hx hy q => by
    have hL := ee_L h
    have d2 := hy.dp e (hL.lay l)
    have s2 := hL.shaped hn l
    rw [toPy] at d2 s2
    exact ⟨_, _, hx.dp e (h.lay x), d2, h.shaped (by omega) x, s2, by rw [any_eqv h]; exact q⟩) fun _ => .bl _
end
/-! ### sums of tuples, greatest ones, lists made tuples -/
section
variable {K : PySem.W.Frag} {B : Base} {ρ : List Slot}
theorem od_catT {ds es : List D} (h1 : ds ≠ []) (h2 : es ≠ []) (h3 : ds.length + es.length ≤ 1000) : OpD K B (rCatT K) (.tuple ds) (.tuple es) (.ok ()) (fun _ => .val (.tuple (ds ++ es))) := fun G H σ ρ vx vy Q E hx hy q => by
  obtain ⟨a, xs, rfl, hS, hr⟩ := hx.tup_inv
  obtain ⟨b, ys, rfl, hS2, hr2⟩ := hy.tup_inv
  have l1 := hr.len
  have l2 := hr2.len
  refine ⟨a, b, xs, ys, rfl, rfl, E.sub.t hS, E.sub.t hS2, fun z => h1 (by rw [z] at l1; exact List.length_eq_zero_iff.mp l1.symm), by rw [l1, l2]; exact Nat.le_of_lt (small1000 h3), fun z => absurd (by rw [z] at l2; exact List.length_eq_zero_iff.mp l2.symm) h2, fun _ p hp => ?_⟩
  have e := Ex.new (o := HO.tup (xs ++ ys)) (E.sub.back hp)
  exact q _ _ _ e ((E.new hp _).push (.tup (.inl (.inl upd_same)) (RpAll.ex e (hr.append hr2))))
def maxL (ns : List Int) : Int := ns.foldl max (ns.headD 0)
def minL (ns : List Int) : Int := ns.foldl min (ns.headD 0)
theorem foldl_max (ns : List Int) : ∀ a : Int, a ≤ ns.foldl max a ∧ (∀ y ∈ ns, y ≤ ns.foldl max a) ∧ (ns.foldl max a = a ∨ ns.foldl max a ∈ ns) := by
  induction ns with
  | nil => exact fun a => ⟨Int.le_refl _, (fun _ m => nomatch m), .inl rfl⟩
  | cons x r ih =>
    intro a
    obtain ⟨h1, h2, h3⟩ := ih (max a x)
    rw [List.foldl_cons]
    refine ⟨by omega, fun y m => ?_, ?_⟩
    · rcases List.mem_cons.mp m with rfl | m
      · omega
      · exact h2 y m
    · rcases h3 with h | h
      · rw [h]
        rcases Int.le_total a x with l | l
        · right
          rw [show max a x = x by omega]
          exact List.mem_cons_self
        · left
          omega
      · exact .inr (List.mem_cons_of_mem _ h)
theorem foldl_min (ns : List Int) : ∀ a : Int, ns.foldl min a ≤ a ∧ (∀ y ∈ ns, ns.foldl min a ≤ y) ∧ (ns.foldl min a = a ∨ ns.foldl min a ∈ ns) := by
  induction ns with
  | nil => exact fun a => ⟨Int.le_refl _, (fun _ m => nomatch m), .inl rfl⟩
  | cons x r ih =>
    intro a
    obtain ⟨h1, h2, h3⟩ := ih (min a x)
    rw [List.foldl_cons]
    refine ⟨by omega, fun y m => ?_, ?_⟩
    · rcases List.mem_cons.mp m with rfl | m
      · omega
      · exact h2 y m
    · rcases h3 with h | h
      · rw [h]
        rcases Int.le_total a x with l | l
        · left
          omega
        · right
          rw [show min a x = x by omega]
          exact List.mem_cons_self
      · exact .inr (List.mem_cons_of_mem _ h)
theorem maxL_is {ns : List Int} (h : ns ≠ []) : maxL ns ∈ ns ∧ ∀ y ∈ ns, y ≤ maxL ns := by
  cases ns with
  | nil => exact absurd rfl h
  | cons a r =>
    obtain ⟨h1, h2, h3⟩ := foldl_max r (max a a)
    show List.foldl max (max a a) r ∈ _ ∧ _
    refine ⟨?_, fun y m => ?_⟩
    · rcases h3 with h | h
      · rw [h, show max a a = a by omega]
        exact List.mem_cons_self
      · exact List.mem_cons_of_mem _ h
    · show y ≤ List.foldl max (max a a) r
      rcases List.mem_cons.mp m with rfl | m
      · omega
      · exact h2 y m
theorem minL_is {ns : List Int} (h : ns ≠ []) : minL ns ∈ ns ∧ ∀ y ∈ ns, minL ns ≤ y := by
  cases ns with
  | nil => exact absurd rfl h
  | cons a r =>
    obtain ⟨h1, h2, h3⟩ := foldl_min r (min a a)
    show List.foldl min (min a a) r ∈ _ ∧ _
    refine ⟨?_, fun y m => ?_⟩
    · rcases h3 with h | h
      · rw [h, show min a a = a by omega]
        exact List.mem_cons_self
      · exact List.mem_cons_of_mem _ h
    · show List.foldl min (min a a) r ≤ y
      rcases List.mem_cons.mp m with rfl | m
      · omega
      · exact h2 y m
theorem cb_maxL {ns : List Int} : CbD K B ρ (rMax K) [.val (eL D.int ns)] (R.guard (ns ≠ [])) (fun _ => .val (.int (maxL ns))) :=
  cb_val (w := .int (maxL ns)) (fun hc G H σ vs Q e ok q => by
    obtain ⟨v, rfl, r⟩ := ok.one
    obtain ⟨a, xs, rfl, hS, hr⟩ := r.lst_inv
    have hx := hr.ints
    subst hx
    refine ⟨a, ns, rfl, .inl (e.rd hS), List.length_pos_iff.mpr hc, fun m hm hle => ?_⟩
    obtain ⟨h1, h2⟩ := maxL_is hc
    rw [show m = maxL ns from Int.le_antisymm (h2 m hm) (hle _ h1)]
    exact q) fun _ => .int _
theorem cb_minL {ns : List Int} : CbD K B ρ (rMin K) [.val (eL D.int ns)] (R.guard (ns ≠ [])) (fun _ => .val (.int (minL ns))) :=
  cb_val (w := .int (minL ns)) (fun hc G H σ vs Q e ok q => by
    obtain ⟨v, rfl, r⟩ := ok.one
    obtain ⟨a, xs, rfl, hS, hr⟩ := r.lst_inv
    have hx := hr.ints
    subst hx
    refine ⟨a, ns, rfl, .inl (e.rd hS), List.length_pos_iff.mpr hc, fun m hm hle => ?_⟩
    obtain ⟨h1, h2⟩ := minL_is hc
    rw [show m = minL ns from Int.le_antisymm (hle _ h1) (h2 m hm)]
    exact q) fun _ => .int _
theorem cb_anyL {bs : List Bool} : CbD K B ρ (rAny K) [.val (eL D.bool bs)] (.ok ()) (fun _ => .val (.bool (bs.any id))) :=
  cb_val0 (w := .bl (bs.any id)) (fun G H σ vs Q e ok q => by
    obtain ⟨v, rfl, r⟩ := ok.one
    obtain ⟨a, xs, rfl, hS, hr⟩ := r.lst_inv
    have hx := hr.bools
    subst hx
    exact ⟨a, bs, rfl, .inl (e.rd hS), q⟩) fun _ => .bl _
theorem cb_allL {bs : List Bool} : CbD K B ρ (rAll K) [.val (eL D.bool bs)] (.ok ()) (fun _ => .val (.bool (bs.all id))) :=
  cb_val0 (w := .bl (bs.all id)) (fun G H σ vs Q e ok q => by
    obtain ⟨v, rfl, r⟩ := ok.one
    obtain ⟨a, xs, rfl, hS, hr⟩ := r.lst_inv
    have hx := hr.bools
    subst hx
    exact ⟨a, bs, rfl, .inl (e.rd hS), q⟩) fun _ => .bl _
theorem cb_sumL {ns : List Int} : CbD K B ρ (rSum K) [.val (eL D.int ns)] (.ok ()) (fun _ => .val (.int ns.sum)) :=
  cb_val0 (w := .int ns.sum) (fun G H σ vs Q e ok q => by
    obtain ⟨v, rfl, r⟩ := ok.one
    obtain ⟨a, xs, rfl, hS, hr⟩ := r.lst_inv
    have hx := hr.ints
    subst hx
    exact ⟨a, ns, rfl, .inl (e.rd hS), q⟩) fun _ => .int _
/-- tuple(a list) -/
theorem cb_tupL {α : Type} {f : α → D} {xs : List α} : CbD K B ρ (fun xs H Q => ∃ p ys, xs = [.ref p] ∧ ((SqL K H p ys ∧ ∀ l, H l = none → Q (.ref l) (upd H l (.tup ys))) ∨ (SqT K H p ys ∧ Q (.ref p) H))) [.val (eL f xs)] (.ok ()) (fun _ => .val (eT f xs)) := fun G H σ vs Q E ok q => by
  obtain ⟨v, rfl, r⟩ := ok.one
  obtain ⟨a, ys, rfl, hS, hr⟩ := r.lst_inv
  refine ⟨a, ys, rfl, .inl ⟨.inl (E.sub.rd hS), fun p hp => ?_⟩⟩
  have e := Ex.new (o := HO.tup ys) (E.sub.back hp)
  exact q _ _ _ e ((E.new hp _).push (.tup (.inl (.inl upd_same)) (RpAll.ex e hr)))
theorem cb_tupT {α : Type} {f : α → D} {xs : List α} : CbD K B ρ (fun xs H Q => ∃ p ys, xs = [.ref p] ∧ ((SqL K H p ys ∧ ∀ l, H l = none → Q (.ref l) (upd H l (.tup ys))) ∨ (SqT K H p ys ∧ Q (.ref p) H))) [.val (eT f xs)] (.ok ()) (fun _ => .val (eT f xs)) := fun G H σ vs Q E ok q => by
  obtain ⟨v, rfl, r⟩ := ok.one
  obtain ⟨a, ys, rfl, hS, hr⟩ := r.tup_inv
  exact ⟨a, ys, rfl, .inr ⟨E.sub.t hS, q _ G H (Ex.refl _) (E.push r)⟩⟩
/-- list(..): a new one -/
theorem cb_lstL {α : Type} {f : α → D} {xs : List α} : CbD K B ρ (fun xs H Q => ∃ p ys, xs = [.ref p] ∧ (SqL K H p ys ∨ SqT K H p ys) ∧ ∀ l, H l = none → Q (.ref l) (upd H l (.lst ys))) [.val (eL f xs)] (.ok ()) (fun _ => .own 0 (oL f xs)) := fun G H σ vs Q E ok q => by
  obtain ⟨v, rfl, r⟩ := ok.one
  obtain ⟨a, ys, rfl, hS, hr⟩ := r.lst_inv
  exact ⟨a, ys, rfl, .inl (.inl (E.sub.rd hS)), fun p hp => q _ G _ (Ex.refl _) (E.newL hp hr)⟩
theorem cb_lstT {α : Type} {f : α → D} {xs : List α} : CbD K B ρ (fun xs H Q => ∃ p ys, xs = [.ref p] ∧ (SqL K H p ys ∨ SqT K H p ys) ∧ ∀ l, H l = none → Q (.ref l) (upd H l (.lst ys))) [.val (eT f xs)] (.ok ()) (fun _ => .own 0 (oL f xs)) := fun G H σ vs Q E ok q => by
  obtain ⟨v, rfl, r⟩ := ok.one
  obtain ⟨a, ys, rfl, hS, hr⟩ := r.tup_inv
  exact ⟨a, ys, rfl, .inr (E.sub.t hS), fun p hp => q _ G _ (Ex.refl _) (E.newL hp hr)⟩
end
/-! ### owned lists: read as data for good, grown, unpacked -/
section
variable {X : Cx} {B : Base} {ρ : List Slot} {pos : Pos} {e : Expr}
/-- an owned local, as data from now on -/
theorem je_name (i : Nat) {x : Str} {α : Type} {f : α → D} {xs : List α} (h : ρ[i]? = some (.own 0 (oL f xs)) := by rfl) (hal : noAlis ρ = true := by rfl) (hN : X.N[i]? = some x := by rfl) (hv : Vis X.env.scope x := by first | exact Or.inl rfl | exact Or.inr (Or.inl rfl) | exact Or.inr (Or.inr rfl))
    (hd : (x == ("__debug__" : Str)) = false := by decide) (hcd : (x == ("__classdict__" : Str)) = false := by decide) : JE X B ρ (.Name x pos) (.ok ()) (fun _ => .own 0 (oL f xs)) (fun _ => ρ.set i .non) :=
  PE_imp (pv i hN hv hd hcd) fun σ H Q ⟨G, E, q⟩ => by
    obtain ⟨A, c, n, g⟩ := E.own
    obtain ⟨v, A1, A2, e1, hO, hl, c2, pm⟩ := Cells.take1 (show Cells X.K B G H σ ρ A from c) h
    exact ⟨v, e1, q v G H (Ex.refl _) ⟨E.anc, ⟨A1 ++ A2, .cons (.own hO hl.1 hl.2) c2, pm.nodup_iff.mp n, fun a m => g a (pm.mem_iff.mpr m)⟩, by rw [List.length_set]; exact E.len, fun k j p e => by
      by_cases hk : i = k
      · subst hk
        rw [List.getElem?_set_self (List.getElem?_eq_some_iff.mp h).1] at e
        cases e
      · rw [List.getElem?_set_ne hk] at e
        exact absurd e (noAlis_get hal)⟩⟩
/-- xs.append(e) -/
theorem je_app (i : Nat) {x : Str} {px ap : Pos} {l l0 : Nat} {os0 : List OT} {α β : Type} {f : α → D} (xs : β → List α) {m : R β} {y : β → α} {ρ' : β → List Slot} (he : JE X B ρ e m (fun b => .val (f (y b))) ρ') (h : ∀ b, (ρ' b)[i]? = some (.own l (oL f (xs b))) := by intro _; rfl) (hal : ∀ b, noAlis (ρ' b) = true := by intro _; rfl)
    (h0 : ρ[i]? = some (.own l0 (.lst os0)) := by rfl) (hN : X.N[i]? = some x := by rfl) (hv : Vis X.env.scope x := by first | exact Or.inl rfl | exact Or.inr (Or.inl rfl) | exact Or.inr (Or.inr rfl))
    (hd : (x == ("__debug__" : Str)) = false := by decide) (hcd : (x == ("__classdict__" : Str)) = false := by decide) (hst : starEach [e] X.env = (false, eval e X.env) :: starEach [] X.env := by rfl)
    (hbase : attributeBase (.Name x px) "append" X.env (eval (.Name x px) X.env) = eval (.Name x px) X.env := by rfl)
    (hone : ((backTo pos (starEach [e] X.env)).all (fun x => !x.1) && (backToKw pos (keywordEach [] X.env)).all (fun x => x.1.isSome) && decide ([e].length + ([] : List Keyword).length + (if ([] : List Keyword).isEmpty then 0 else 1) < 30)) = true := by rfl)
    (hline : (ap.endLine == pos.line) = true := by rfl) (hnil : (backTo pos (starEach [] X.env)).any (·.1) = false := by rfl) :
    JE X B ρ (.Call (.Attribute (.Name x px) "append" ap) [e] [] pos) (m.bind fun b => (R.guard ((xs b).length < sizeLine)).bind fun _ => .ok b) (fun _ => .val .none) (fun b => (ρ' b).set i (.own l (oL f (xs b ++ [y b])))) :=
  PE_imp (pe_bm PySem.F.plainAttrs_list PySem.F.slot_list_append PySem.F.type_list_append mt_append (pv (X := X) (pos := px) i hN hv hd hcd) (pa_cons he pa_nil hst) hbase hone hline hst hnil) fun σ H Q ⟨G, E, q⟩ => by
    obtain ⟨A, c, n, g⟩ := E.own
    obtain ⟨w, A1, A2, e1, hO, hl, c2, pm⟩ := Cells.take1 (show Cells X.K B G H σ ρ A from c) h0
    cases hO with
    | @lst a vs _ A3 ha hall =>
      refine ⟨.ref a, e1, .inl ⟨rfl, _, .inl (.inl ha)⟩, G, E, R.post_mono (R.post_bind.mp q) (fun b hb => ?_)⟩
      intro v G1 H1 x1 E1
      obtain ⟨p, vs1, g1, g2, g3, g4⟩ := E1.pop.ownD (h b) (hal b)
      have ep : p = a := by
        have z := g1.symm.trans e1
        injection z with z
        injection z with z
        injection z
      subst ep
      have hlen : vs1.length = (xs b).length := by
        rw [g3.len, List.length_map]
      obtain ⟨hz, q⟩ := R.post_guard (R.post_bind.mp hb)
      refine ⟨p, vs1, v, rfl, rfl, g2, by omega, q _ G1 _ x1 ?_⟩
      have hr : RpAll X.K G1 (vs1 ++ [v]) ((xs b).map f ++ [f (y b)]) := g3.append (.cons (E1.top) .nil)
      have z := g4 G1 H1 [] (vs1 ++ [v]) ((xs b).map f ++ [f (y b)]) E1.pop (Ex.refl _) g2 hr
      have ez : (oL f (xs b ++ [y b])) = .lst (((xs b).map f ++ [f (y b)]).map OT.dat) := by rw [oL, List.map_append]; rfl
      show En X.K B G1 (upd H1 p (.lst (vs1 ++ [v]))) σ ((ρ' b).set i (.own l (oL f (xs b ++ [y b])))) [(.non, .val .none)]
      rw [ez]
      exact z.push .non
end
end DL

/-! DL12: owned lists lent out for a while, or given up -/
namespace DL
open PySem PySem.Spec L2

mutual
/-- no list in it -/
def Flat : D → Prop
  | .none => True
  | .bool _ => True
  | .int _ => True
  | .str _ => True
  | .tuple ds => FlatL ds
  | .row ds => FlatL ds
  | .key _ => True
  | _ => False
def FlatL : List D → Prop
  | [] => True
  | d :: ds => Flat d ∧ FlatL ds
end
mutual
def FlatO : OT → Prop
  | .dat d => Flat d
  | .lst os => FlatOL os
  | .dk kvs => ∀ p ∈ kvs, Flat p.2
  | .dt kvs => ∀ p ∈ kvs, Flat p.2
def FlatOL : List OT → Prop
  | [] => True
  | o :: os => FlatO o ∧ FlatOL os
end
theorem fl_tup {ds : List D} (h : FlatL ds) : Flat (.tuple ds) := by
  rw [Flat]
  exact h
theorem fl_lst {ds : List OT} (h : FlatOL ds) : FlatO (.lst ds) := by
  rw [FlatO]
  exact h
theorem fl_nil : FlatL [] := by
  rw [FlatL]
  trivial
theorem fl_cons {d : D} {ds : List D} (h : Flat d) (r : FlatL ds) : FlatL (d :: ds) := by
  rw [FlatL]
  exact ⟨h, r⟩
theorem fl_int (i : Int) : Flat (.int i) := by
  rw [Flat]
  trivial
theorem fl_bool (i : Bool) : Flat (.bool i) := by
  rw [Flat]
  trivial
theorem fl_str (i : Str) : Flat (.str i) := by
  rw [Flat]
  trivial
theorem fl_U (i : Unit) : Flat (eU i) := by
  rw [eU, Flat]
  trivial
theorem FlatL.of {α : Type} {f : α → D} (h : ∀ x, Flat (f x)) : ∀ xs : List α, FlatL (xs.map f)
  | [] => fl_nil
  | x :: xs => fl_cons (h x) (FlatL.of h xs)
theorem FlatOL.of {α : Type} {f : α → D} (h : ∀ x, Flat (f x)) : ∀ xs : List α, FlatOL ((xs.map f).map OT.dat)
  | [] => by
    rw [List.map_nil, List.map_nil, FlatOL]
    trivial
  | x :: xs => by
    rw [List.map_cons, List.map_cons, FlatOL, FlatO]
    exact ⟨h x, FlatOL.of h xs⟩
theorem fl_T {α : Type} {f : α → D} (h : ∀ x, Flat (f x)) (xs : List α) : Flat (eT f xs) := fl_tup (FlatL.of h xs)
theorem fl_oL {α : Type} {f : α → D} (h : ∀ x, Flat (f x)) (xs : List α) : FlatO (oL f xs) := fl_lst (FlatOL.of h xs)
theorem fl_P2 {α β : Type} {f : α → D} {g : β → D} (h : ∀ x, Flat (f x)) (k : ∀ x, Flat (g x)) (p : α × β) : Flat (eP2 f g p) := fl_tup (fl_cons (h _) (fl_cons (k _) fl_nil))
theorem fl_P3 {α β γ : Type} {f : α → D} {g : β → D} {r : γ → D} (h : ∀ x, Flat (f x)) (k : ∀ x, Flat (g x)) (l : ∀ x, Flat (r x)) (p : α × β × γ) : Flat (eP3 f g r p) := fl_tup (fl_cons (h _) (fl_cons (k _) (fl_cons (l _) fl_nil)))
theorem fl_P4 {α β γ δ : Type} {f : α → D} {g : β → D} {r : γ → D} {s : δ → D} (h : ∀ x, Flat (f x)) (k : ∀ x, Flat (g x)) (l : ∀ x, Flat (r x)) (m : ∀ x, Flat (s x)) (p : α × β × γ × δ) : Flat (eP4 f g r s p) := fl_tup (fl_cons (h _) (fl_cons (k _) (fl_cons (l _) (fl_cons (m _) fl_nil))))

/-- things that may change -/
def mutO : HO → Bool
  | .lst _ => true
  | .dK _ => true
  | .dT _ => true
  | _ => false
section
variable {K : PySem.W.Frag} {G1 G2 H1 : Hp} {A : List Addr}
/-- what has no list in it does without the lent lists -/
theorem SqT.less (k : ∀ a u, G1 a = some u → mutO u = false → G2 a = some u) {a : Addr} {xs : List V} (h : SqT K G1 a xs) : SqT K G2 a xs := by
  rcases h with h | h
  · rcases h with h | ⟨o, h⟩
    · exact .inl (.inl (k _ _ h rfl))
    · exact .inl (.inr ⟨o, k _ _ h rfl⟩)
  · exact .inr h
mutual
theorem Rp.less (k : ∀ a u, G1 a = some u → mutO u = false → G2 a = some u) : ∀ {v : V} {d : D}, Rp K G1 v d → Flat d → Rp K G2 v d
  | _, _, .non, _ => .non
  | _, _, .bl b, _ => .bl b
  | _, _, .int i, _ => .int i
  | _, _, .str x, _ => .str x
  | _, _, .tup h r, f => .tup (SqT.less k h) (RpAll.less k r (by rw [Flat] at f; exact f))
  | _, _, .row h d r, f => .row (k _ _ h rfl) d (RpAll.less k r (by rw [Flat] at f; exact f))
  | _, _, .key h, _ => .key (k _ _ h rfl)
  | _, _, .lst h r, f => by
    rw [Flat] at f <;> first | exact f.elim | (intros; exact D.noConfusion)
  | _, _, .scr h, f => by
    rw [Flat] at f <;> first | exact f.elim | (intros; exact D.noConfusion)
  | _, _, .dK h r, f => by
    rw [Flat] at f <;> first | exact f.elim | (intros; exact D.noConfusion)
  | _, _, .dT h r, f => by
    rw [Flat] at f <;> first | exact f.elim | (intros; exact D.noConfusion)
theorem RpAll.less (k : ∀ a u, G1 a = some u → mutO u = false → G2 a = some u) : ∀ {v : List V} {d : List D}, RpAll K G1 v d → FlatL d → RpAll K G2 v d
  | _, _, .nil, _ => .nil
  | _, _, .cons h r, f => .cons (Rp.less k h (by rw [FlatL] at f; exact f.1)) (RpAll.less k r (by rw [FlatL] at f; exact f.2))
end
theorem RpE.less {κ : Type} (k : ∀ a u, G1 a = some u → mutO u = false → G2 a = some u) {kvs : List (κ × V)} {ds : List (κ × D)} (h : RpE K G1 kvs ds) : (∀ p ∈ ds, Flat p.2) → RpE K G2 kvs ds := by
  induction h with
  | nil => exact fun _ => .nil
  | cons h _ ih => exact fun f => .cons (h.less k (f _ List.mem_cons_self)) (ih fun p m => f p (List.mem_cons_of_mem _ m))
mutual
theorem Own.less (k : ∀ a u, G1 a = some u → mutO u = false → G2 a = some u) : ∀ {v : V} {o : OT} {A : List Addr}, Own K G1 H1 v o A → FlatO o → Own K G2 H1 v o A
  | _, _, _, .dat h, f => .dat (h.less k (by rw [FlatO] at f; exact f))
  | _, _, _, .lst h r, f => .lst h (OwnAll.less k r (by rw [FlatO] at f; exact f))
  | _, _, _, .dk h r, f => .dk h (r.less k (by rw [FlatO] at f; exact f))
  | _, _, _, .dt h r, f => .dt h (r.less k (by rw [FlatO] at f; exact f))
theorem OwnAll.less (k : ∀ a u, G1 a = some u → mutO u = false → G2 a = some u) : ∀ {v : List V} {o : List OT} {A : List Addr}, OwnAll K G1 H1 v o A → FlatOL o → OwnAll K G2 H1 v o A
  | _, _, _, .nil, _ => .nil
  | _, _, _, .cons h r, f => .cons (Own.less k h (by rw [FlatOL] at f; exact f.1)) (OwnAll.less k r (by rw [FlatOL] at f; exact f.2))
end
end
/-- the slots while a list was lent: s0 before, s1 then, s2 after -/
inductive BorS : Slot → Slot → Slot → Prop
  | f {s0 s1 : Slot} : BorS s0 s1 .non
  | k {d : D} : BorS (.val d) (.val d) (.val d)
  | v {s0 : Slot} {d : D} : Flat d → BorS s0 (.val d) (.val d)
  | o {s0 : Slot} {l : Nat} {o : OT} : FlatO o → BorS s0 (.own l o) (.own l o)
inductive Bor : List Slot → List Slot → List Slot → Prop
  | nil : Bor [] [] []
  | cons {s0 s1 s2 : Slot} {r0 r1 r2 : List Slot} : BorS s0 s1 s2 → Bor r0 r1 r2 → Bor (s0 :: r0) (s1 :: r1) (s2 :: r2)
def Base.lend (B : Base) (A : List Addr) : Base := { B with H0 := fun a => if a ∈ A then none else B.H0 a, Mo := fun l => (B.Mo l).filter (fun a => decide (a ∉ A)), m0 := by rw [B.m0]; rfl }
section
variable {K : PySem.W.Frag} {B B' : Base} {G G' H H' G1 G2 H1 : Hp}
theorem Cells.reb : ∀ {σ : L2.St} {ρ : List Slot} {A : List Addr}, Cells K B G H σ ρ A → (∀ l a, a ∈ A → (a ∈ B.Mo l ∨ B.H0 a = none) → (a ∈ B'.Mo l ∨ B'.H0 a = none)) → B'.pv = B.pv → Cells K B' G H σ ρ A
  | _, _, _, .nil, _, _ => .nil
  | _, _, _, .cons c r, k, e => .cons (match c with
    | .non => .non
    | .val h => .val h
    | .own h m p => .own h (fun a q => k _ a (List.mem_append_left _ q) (m a q)) (by rw [e]; exact p)
    | .ali => .ali) (Cells.reb r (fun l a q => k l a (List.mem_append_right _ q)) e)
theorem Cells.putV : ∀ {σ : L2.St} {ρ : List Slot} {A : List Addr}, Cells K B G H σ ρ A → ∀ {i : Nat} {v : V} {d : D}, ρ[i]? = some .non → σ[i]? = some (some v) → Rp K G v d → Cells K B G H σ (ρ.set i (.val d)) A
  | _, _, _, .nil, _, _, _, e, _, _ => by simp at e
  | _, _, _, .cons (A := A) c r, 0, v, d, e, e2, h => by
    simp at e e2
    subst e
    subst e2
    cases c
    exact .cons (A := []) (.val h) r
  | _, _, _, .cons c r, i + 1, v, d, e, e2, h => .cons c (Cells.putV r (by simpa using e) (by simpa using e2) h)
theorem Cells.bor (k : ∀ a u, G1 a = some u → mutO u = false → G2 a = some u) (x : Ex G G2) : ∀ {σ : L2.St} {ρ0 ρ1 ρ2 : List Slot} {A0 A : List Addr}, Cells K B G H σ ρ0 A0 → Cells K B' G1 H1 σ ρ1 A → Bor ρ0 ρ1 ρ2 → ∃ A', Cells K B' G2 H1 σ ρ2 A' ∧ A'.Sublist A
  | _, _, _, _, _, _, _, .nil, .nil => ⟨[], .nil, .refl _⟩
  | _, _, _, _, _, _, .cons c0 r0, .cons (A := A1) c1 r1, .cons s r => by
    obtain ⟨A', h1, h2⟩ := Cells.bor k x r0 r1 r
    cases s with
    | f => exact ⟨[] ++ A', .cons .non h1, h2.trans (List.sublist_append_right _ _)⟩
    | k =>
      cases c0 with
      | val h => exact ⟨[] ++ A', .cons (.val (h.ex x)) h1, h2.trans (List.sublist_append_right _ _)⟩
    | v f =>
      cases c1 with
      | val h => exact ⟨[] ++ A', .cons (.val (h.less k f)) h1, h2⟩
    | o f =>
      cases c1 with
      | own h m p => exact ⟨A1 ++ A', .cons (.own (h.less k f) m p) h1, h2.append_left _⟩
theorem Bor.len {ρ0 ρ1 ρ2 : List Slot} (h : Bor ρ0 ρ1 ρ2) : ρ2.length = ρ1.length := by
  induction h with
  | nil => rfl
  | cons s r ih => rw [List.length_cons, List.length_cons, ih]

mutual
theorem Own.thereL : ∀ {v : V} {o : OT} {A : List Addr}, Own K G H v o A → ∀ a ∈ A, ∃ u, H a = some u ∧ mutO u = true
  | _, _, _, .dat _, _, m => nomatch m
  | _, _, _, .lst h r, a, m => by
    rcases List.mem_cons.mp m with rfl | m
    · exact ⟨_, h, rfl⟩
    · exact OwnAll.thereL r a m
  | _, _, _, .dk h r, a, m => by
    rw [List.mem_singleton.mp m]
    exact ⟨_, h, rfl⟩
  | _, _, _, .dt h r, a, m => by
    rw [List.mem_singleton.mp m]
    exact ⟨_, h, rfl⟩
theorem OwnAll.thereL : ∀ {v : List V} {o : List OT} {A : List Addr}, OwnAll K G H v o A → ∀ a ∈ A, ∃ u, H a = some u ∧ mutO u = true
  | _, _, _, .nil, _, m => nomatch m
  | _, _, _, .cons h r, a, m => by
    rcases List.mem_append.mp m with m | m
    · exact Own.thereL h a m
    · exact OwnAll.thereL r a m
end
def FlatS : Slot → Prop
  | .non => True
  | .val d => Flat d
  | .own _ o => FlatO o
  | .ali _ _ => False
theorem BorS.of : ∀ {s : Slot}, FlatS s → BorS .non s s
  | .non, _ => .f
  | .val _, h => .v h
  | .own _ _, h => .o h
  | .ali _ _, h => h.elim
def FlatX : List (V × Slot) → Prop
  | [] => True
  | p :: ps => FlatS p.2 ∧ FlatX ps
theorem Bor.ex : ∀ {ex : List (V × Slot)} {r0 r1 r2 : List Slot}, FlatX ex → Bor r0 r1 r2 → Bor (ex.map (fun _ => Slot.non) ++ r0) (ex.map (·.2) ++ r1) (ex.map (·.2) ++ r2)
  | [], _, _, _, _, h => h
  | _ :: _, _, _, _, f, h => .cons (BorS.of f.1) (Bor.ex f.2 h)
theorem Cells.nons {σ : L2.St} {ρ : List Slot} {A : List Addr} (h : Cells K B G H σ ρ A) : ∀ (ex : List (V × Slot)), Cells K B G H (ex.map (fun p => some p.1) ++ σ) (ex.map (fun _ => Slot.non) ++ ρ) A
  | [] => h
  | _ :: ex => .cons (A := []) .non (Cells.nons h ex)
theorem Anc.lend {B : Base} {G H : Hp} (h : Anc B G H) {A : List Addr} (hA : ∀ a ∈ A, G a = none) : Anc (B.lend A) (fun a => if a ∈ A then H a else G a) H := by
  have eG : Ex G fun a => if a ∈ A then H a else G a := fun a u e => by
    show (if a ∈ A then H a else G a) = _
    by_cases ha : a ∈ A
    · rw [hA a ha] at e
      cases e
    · rw [if_neg ha]
      exact e
  refine ⟨fun a o hm e => ?_, fun a l hm => h.there a l (List.mem_filter.mp hm).1, h.gsub.trans eG, fun a e1 e2 => ?_, fun a u e => ?_⟩
  · have e : (if a ∈ A then none else B.H0 a) = some o := e
    by_cases ha : a ∈ A
    · rw [if_pos ha] at e
      cases e
    · rw [if_neg ha] at e
      exact h.keep a o (fun l m => hm l (List.mem_filter.mpr ⟨m, decide_eq_true ha⟩)) e
  · have e1 : (if a ∈ A then none else B.H0 a) ≠ none := e1
    by_cases ha : a ∈ A
    · rw [if_pos ha] at e1
      exact absurd rfl e1
    · rw [if_neg ha] at e1
      show (if a ∈ A then H a else G a) = _
      rw [if_neg ha]
      exact h.gnew a e1 e2
  · have e : (if a ∈ A then H a else G a) = some u := e
    by_cases ha : a ∈ A
    · rw [if_pos ha] at e
      exact e
    · rw [if_neg ha] at e
      exact h.sub a u e
theorem Anc.back {B : Base} {G H G1 H1 : Hp} (h0 : Anc B G H) {A : List Addr} (hA : ∀ a ∈ A, G a = none) (hM : ∃ l, ∀ a ∈ A, a ∈ B.Mo l ∨ B.H0 a = none) (hT : ∀ a ∈ A, H a ≠ none) (x : Ex (fun a => if a ∈ A then H a else G a) G1) (h : Anc (B.lend A) G1 H1) : Anc B (fun a => if a ∈ A then none else G1 a) H1 := by
  have hG1 : ∀ a ∈ A, G1 a = H a := fun a ha => by
    cases e : H a with
    | none => exact absurd e (hT a ha)
    | some u => exact x a u (by
        show (if a ∈ A then H a else G a) = _
        rw [if_pos ha, e])
  refine ⟨fun a o hm e => ?_, fun a l hm => ?_, fun a u e => ?_, fun a e1 e2 => ?_, fun a u e => ?_⟩
  · have ha : a ∉ A := fun ha => by
      obtain ⟨l, k⟩ := hM
      rcases k a ha with k | k
      · exact hm l k
      · rw [k] at e
        cases e
    exact h.keep a o (fun l m => hm l (List.mem_filter.mp m).1) (by
      show (if a ∈ A then none else B.H0 a) = _
      rw [if_neg ha, e])
  · by_cases ha : a ∈ A
    · intro z
      have z1 := hG1 a ha
      cases e : H a with
      | none => exact hT a ha e
      | some u =>
        rw [e] at z1
        rw [h.sub a u z1] at z
        cases z
    · exact h.there a l (List.mem_filter.mpr ⟨hm, decide_eq_true ha⟩)
  · have e' := h0.gsub a u e
    have ha : a ∉ A := fun ha => by
      rw [hA a ha] at e'
      cases e'
    show (if a ∈ A then none else G1 a) = _
    rw [if_neg ha]
    exact x a u (by
      show (if a ∈ A then H a else G a) = _
      rw [if_neg ha]
      exact e')
  · show (if a ∈ A then none else G1 a) = _
    by_cases ha : a ∈ A
    · rw [if_pos ha]
    · rw [if_neg ha]
      exact h.gnew a (by
        show (if a ∈ A then none else B.H0 a) ≠ none
        rw [if_neg ha]
        exact e1) e2
  · have e : (if a ∈ A then none else G1 a) = some u := e
    by_cases ha : a ∈ A
    · rw [if_pos ha] at e
      cases e
    · rw [if_neg ha] at e
      exact h.sub a u e
theorem En.lend {σ : L2.St} {ρ : List Slot} (E : En K B G H σ ρ []) {i l : Nat} {o : OT} (h : ρ[i]? = some (.own l o)) (hal : noAlis ρ = true) : ∃ B' : Base, B'.rs = B.rs ∧ ∃ G', Ex G G' ∧ En K B' G' H σ (ρ.set i (.val o.toD)) [] ∧
    ∀ G1 H1 ρ1 ρ2 ex, Ex G' G1 → En K B' G1 H1 σ ρ1 ex → Bor (ρ.set i .non) ρ1 ρ2 → ρ2[i]? = some .non → FlatX ex → noAlis ρ2 = true → ∃ G2, Ex G G2 ∧ En K B G2 H1 σ (ρ2.set i (.own l o)) ex := by
  obtain ⟨A0, c, n, g⟩ := E.own
  obtain ⟨v, A, A2, e1, hO, ⟨hl, hp⟩, c2, pm⟩ := Cells.take1 (show Cells K B G H σ ρ A0 from c) h
  have nn := pm.nodup_iff.mp n
  have n1 := List.nodup_append.mp nn
  have hA : ∀ a ∈ A, G a = none := fun a m => g a (pm.mem_iff.mpr (List.mem_append_left _ m))
  have hA2 : ∀ a ∈ A2, G a = none := fun a m => g a (pm.mem_iff.mpr (List.mem_append_right _ m))
  have hT : ∀ a ∈ A, H a ≠ none := fun a m z => by
    obtain ⟨vs, e, _⟩ := hO.thereL a m
    rw [e] at z
    cases z
  have eG : Ex G fun a => if a ∈ A then H a else G a := fun a u e => by
    show (if a ∈ A then H a else G a) = _
    by_cases ha : a ∈ A
    · rw [hA a ha] at e
      cases e
    · rw [if_neg ha]
      exact e
  have c3 : Cells K (B.lend A) (fun a => if a ∈ A then H a else G a) H σ (ρ.set i .non) A2 := by
    refine Cells.reb (B := B) (c2.ex eG fun _ _ _ e => e) (fun l a m k => ?_) rfl
    have ha : a ∉ A := fun z => n1.2.2 a z a m rfl
    rcases k with k | k
    · exact .inl (List.mem_filter.mpr ⟨k, decide_eq_true ha⟩)
    · refine .inr ?_
      show (if a ∈ A then none else B.H0 a) = _
      rw [if_neg ha, k]
  have hi : i < ρ.length := (List.getElem?_eq_some_iff.mp h).1
  have c4 := c3.putV (i := i) (v := v) (d := o.toD) (by rw [List.getElem?_set_self hi]) e1 (hO.rp eG fun a m u e => by
    show (if a ∈ A then H a else G a) = _
    rw [if_pos m, e])
  rw [List.set_set] at c4
  refine ⟨B.lend A, rfl, _, eG, ⟨E.anc.lend hA, ⟨A2, c4, n1.2.1, fun a m => ?_⟩, by rw [List.length_set]; exact E.len, fun k j p e => ?_⟩, fun G1 H1 ρ1 ρ2 ex x E1 bo h2 fl ha2 => ?_⟩
  · have ha : a ∉ A := fun z => n1.2.2 a z a m rfl
    show (if a ∈ A then H a else G a) = _
    rw [if_neg ha]
    exact hA2 a m
  · by_cases hk : i = k
    · subst hk
      rw [List.getElem?_set_self hi] at e
      cases e
    · rw [List.getElem?_set_ne hk] at e
      exact absurd e (noAlis_get hal)
  · obtain ⟨A5, c5, n5, g5⟩ := E1.own
    have hG1 : ∀ a ∈ A, G1 a = H a := fun a ha => by
      cases e : H a with
      | none => exact absurd e (hT a ha)
      | some u => exact x a u (by
          show (if a ∈ A then H a else G a) = _
          rw [if_pos ha, e])
    have x2 : Ex G fun a => if a ∈ A then none else G1 a := fun a u e => by
      have ha : a ∉ A := fun ha => by
        rw [hA a ha] at e
        cases e
      show (if a ∈ A then none else G1 a) = _
      rw [if_neg ha]
      exact x a u (eG a u e)
    have k : ∀ a u, G1 a = some u → mutO u = false → (if a ∈ A then none else G1 a) = some u := fun a u e ne => by
      by_cases ha : a ∈ A
      · obtain ⟨vs, e3, em⟩ := hO.thereL a ha
        rw [hG1 a ha, e3] at e
        injection e with e
        subst e
        rw [em] at ne
        cases ne
      · rw [if_neg ha]
        exact e
    have disj : ∀ a ∈ A5, a ∉ A := fun a m ha => by
      have z := g5 a m
      rw [hG1 a ha] at z
      exact hT a ha z
    obtain ⟨A6, c6, s6⟩ := Cells.bor (G := G) (H := H) (G2 := fun a => if a ∈ A then none else G1 a) k x2 (c2.nons ex) c5 (Bor.ex fl bo)
    have c7 : Cells K B (fun a => if a ∈ A then none else G1 a) H1 (ex.map (fun p => some p.1) ++ σ) (ex.map (·.2) ++ ρ2) A6 := by
      refine Cells.reb (B := B.lend A) c6 (fun l a m k => ?_) rfl
      have ha := disj a (s6.subset m)
      rcases k with k | k
      · exact .inl (List.mem_filter.mp k).1
      · refine .inr ?_
        have k : (if a ∈ A then none else B.H0 a) = none := k
        rw [if_neg ha] at k
        exact k
    have hO1 : Own K (fun a => if a ∈ A then none else G1 a) H1 v o A := hO.ex x2 fun a m u e => E1.anc.sub a u (by rw [hG1 a m, e])
    obtain ⟨A8, c8, p8⟩ := c7.put1 (i := ex.length + i) (l := l) (o := o) (v := v) (A1 := A) (by
      rw [List.getElem?_append_right (by simp), List.length_map]
      simpa using h2) (by
      rw [List.getElem?_append_right (by simp), List.length_map]
      simpa using e1) hO1 ⟨hl, hp⟩
    rw [List.set_append_right _ _ (by simp), List.length_map, Nat.add_sub_cancel_left] at c8
    have hi2 : i < ρ2.length := (List.getElem?_eq_some_iff.mp h2).1
    refine ⟨_, x2, ⟨Anc.back E.anc hA ⟨l, hl⟩ hT x E1.anc, ⟨A8, c8, p8.nodup_iff.mpr (List.nodup_append.mpr ⟨n1.1, s6.nodup n5, fun a m b m2 e => ?_⟩), fun a m => ?_⟩, ?_, fun k j p e => ?_⟩⟩
    · subst e
      exact disj a (s6.subset m2) m
    · show (if a ∈ A then none else G1 a) = _
      by_cases ha : a ∈ A
      · rw [if_pos ha]
      · rw [if_neg ha]
        rcases List.mem_append.mp (p8.mem_iff.mp m) with m | m
        · exact absurd m ha
        · exact g5 a (s6.subset m)
    · rw [List.length_set, bo.len]
      exact E1.len
    · by_cases hk : i = k
      · subst hk
        rw [List.getElem?_set_self hi2] at e
        cases e
      · rw [List.getElem?_set_ne hk] at e
        exact absurd e (noAlis_get ha2)
end
section
variable {X : Cx} {B : Base} {ρ : List Slot} {pos : Pos} {e : Expr}
/-- an owned list read, in one expression -/
theorem je_bor (i : Nat) {β : Type} {m : R β} {sl : β → Slot} {l : Nat} {o : OT} {d : D} {ρ1 ρ2 ρ' : β → List Slot} (h : ρ[i]? = some (.own l o) := by rfl) (hd : o.toD = d) (he : ∀ B' : Base, B'.rs = B.rs → JE X B' (ρ.set i (.val d)) e m sl ρ1) (hb : ∀ b, Bor (ρ.set i .non) (ρ1 b) (ρ2 b)) (hf : ∀ b, FlatS (sl b)) (hr : ∀ b, (ρ2 b).set i (.own l o) = ρ' b)
    (hal : noAlis ρ = true := by rfl) (h2 : ∀ b, (ρ2 b)[i]? = some .non := by intro _; rfl) (ha2 : ∀ b, noAlis (ρ2 b) = true := by intro _; rfl) : JE X B ρ e m sl ρ' := by
  refine ⟨fun pins s σ H Q I ⟨G, E, q⟩ => ?_⟩
  obtain ⟨B', hB, G', x, E', k⟩ := E.lend h hal
  rw [hd] at E'
  refine (he B' hB).run pins s σ H Q I ⟨G', E', ?_⟩
  rw [hB]
  refine R.post_mono q fun b q1 v G1 H1 x1 E1 => ?_
  obtain ⟨G2, x2, E2⟩ := k G1 H1 (ρ1 b) (ρ2 b) _ x1 E1 (hb b) (h2 b) ⟨hf b, trivial⟩ (ha2 b)
  rw [hr b] at E2
  exact q1 v G2 H1 x2 E2
theorem jt_bor (i : Nat) {β : Type} {m : R β} {bn : β → Bool} {l : Nat} {o : OT} {d : D} {ρ1 ρ2 ρ' : β → List Slot} (h : ρ[i]? = some (.own l o) := by rfl) (hd : o.toD = d) (he : ∀ B' : Base, B'.rs = B.rs → JT X B' (ρ.set i (.val d)) e m bn ρ1) (hb : ∀ b, Bor (ρ.set i .non) (ρ1 b) (ρ2 b)) (hr : ∀ b, (ρ2 b).set i (.own l o) = ρ' b)
    (hal : noAlis ρ = true := by rfl) (h2 : ∀ b, (ρ2 b)[i]? = some .non := by intro _; rfl) (ha2 : ∀ b, noAlis (ρ2 b) = true := by intro _; rfl) : JT X B ρ e m bn ρ' := by
  refine ⟨fun pins s σ H Q I ⟨G, E, q⟩ => ?_⟩
  obtain ⟨B', hB, G', x, E', k⟩ := E.lend h hal
  rw [hd] at E'
  refine (he B' hB).run pins s σ H Q I ⟨G', E', ?_⟩
  rw [hB]
  refine R.post_mono q fun b q1 G1 H1 x1 E1 => ?_
  obtain ⟨G2, x2, E2⟩ := k G1 H1 (ρ1 b) (ρ2 b) _ x1 E1 (hb b) (h2 b) trivial (ha2 b)
  rw [hr b] at E2
  exact q1 G2 H1 x2 E2
theorem toD_map {α : Type} {f : α → D} : ∀ xs : List α, OT.toDs ((xs.map f).map OT.dat) = xs.map f
  | [] => by rw [List.map_nil, List.map_nil, OT.toDs]
  | x :: xs => by rw [List.map_cons, List.map_cons, OT.toDs, OT.toD, toD_map xs]
theorem toD_oL {α : Type} (f : α → D) (xs : List α) : (oL f xs).toD = eL f xs := by
  rw [oL, OT.toD, toD_map]
/-- an owned local becomes data for good -/
theorem En.frzS {K : PySem.W.Frag} {G H : Hp} {σ : L2.St} {ρ : List Slot} (E : En K B G H σ ρ []) {i : Nat} {o : OT} (h : ρ[i]? = some (.own 0 o)) (hal : noAlis ρ = true) : ∃ G', Ex G G' ∧ En K B G' H σ (ρ.set i (.val o.toD)) [] := by
  obtain ⟨A0, c, n, g⟩ := E.own
  obtain ⟨v, A, A2, e1, hO, ⟨hl, hp⟩, c2, pm⟩ := Cells.take1 (show Cells K B G H σ ρ A0 from c) h
  have nn := pm.nodup_iff.mp n
  have n1 := List.nodup_append.mp nn
  have hA : ∀ a ∈ A, G a = none ∧ B.H0 a = none := fun a m => ⟨g a (pm.mem_iff.mpr (List.mem_append_left _ m)), (hl a m).resolve_left (by rw [B.m0]; exact fun z => nomatch z)⟩
  have eG : Ex G fun a => if a ∈ A then H a else G a := fun a u e => by
    show (if a ∈ A then H a else G a) = _
    by_cases ha : a ∈ A
    · rw [(hA a ha).1] at e
      cases e
    · rw [if_neg ha]
      exact e
  have hi : i < ρ.length := (List.getElem?_eq_some_iff.mp h).1
  have c4 := (c2.ex eG fun _ _ _ e => e).putV (i := i) (v := v) (d := o.toD) (by rw [List.getElem?_set_self hi]) e1 (hO.rp eG fun a m u e => by
    show (if a ∈ A then H a else G a) = _
    rw [if_pos m, e])
  rw [List.set_set] at c4
  refine ⟨_, eG, E.anc.frz hA, ⟨A2, c4, n1.2.1, fun a m => ?_⟩, by rw [List.length_set]; exact E.len, fun k j p e => ?_⟩
  · have ha : a ∉ A := fun z => n1.2.2 a z a m rfl
    show (if a ∈ A then H a else G a) = _
    rw [if_neg ha]
    exact g a (pm.mem_iff.mpr (List.mem_append_right _ m))
  · by_cases hk : i = k
    · subst hk
      rw [List.getElem?_set_self hi] at e
      cases e
    · rw [List.getElem?_set_ne hk] at e
      exact absurd e (noAlis_get hal)
theorem js_frz (i : Nat) {N L T : Type} {ss : List Stmt} {m : R (Fl N L T)} {F : Fin N L T} {o : OT} {d : D} (h : ρ[i]? = some (.own 0 o) := by rfl) (hd : o.toD = d) (r : JSs X B (ρ.set i (.val d)) ss m F) (hal : noAlis ρ = true := by rfl) : JSs X B ρ ss m F :=
  PSs_imp r fun D σ H ⟨G, E, q⟩ => by
    obtain ⟨G', x, E'⟩ := E.frzS h hal
    rw [hd] at E'
    exact ⟨G', E', R.post_mono q fun f q2 => flP_ex q2 x⟩
theorem je_frzS (i : Nat) {β : Type} {m : R β} {sl : β → Slot} {ρ' : β → List Slot} {o : OT} {d : D} (h : ρ[i]? = some (.own 0 o) := by rfl) (hd : o.toD = d) (r : JE X B (ρ.set i (.val d)) e m sl ρ') (hal : noAlis ρ = true := by rfl) : JE X B ρ e m sl ρ' :=
  PE_imp r fun σ H Q ⟨G, E, q⟩ => by
    obtain ⟨G', x, E'⟩ := E.frzS h hal
    rw [hd] at E'
    exact ⟨G', E', R.post_mono q fun b k v G1 H1 x1 E1 => k v G1 H1 (x.trans x1) E1⟩
/-! ### a list's items into names -/
def un2 {α : Type} : List α → Option (α × α)
  | [a, b] => some (a, b)
  | _ => none
def un3 {α : Type} : List α → Option (α × α × α)
  | [a, b, c] => some (a, b, c)
  | _ => none
def un4 {α : Type} : List α → Option (α × α × α × α)
  | [a, b, c, d] => some (a, b, c, d)
  | _ => none
theorem jg_un {α β : Type} {es : List Expr} {k n : Nat} {f : α → D} {xs : List α} {un : List α → Option β} {ds : β → List D} {ρ' : β → List Slot} (hu : ∀ p, un xs = some p → xs.map f = ds p ∧ xs.length = n) (hc : X.calm = true) (h : ∀ p, JGs X B ρ es (ds p) (.ok ()) (fun _ => ρ' p)) (hn : (assignEach es X.env).length = n := by rfl) (hst : (assignEach es X.env).findIdx? (·.1) = none := by rfl) : JG X B ρ (.Tuple es k pos) (eL f xs) (R.some (un xs)) ρ' := by
  have h' : PGs X es (fun vs σ H Q => ∃ p, tJGs X.K B ρ (ds p) (.ok ()) (fun _ => ρ' p) vs σ H Q) := ⟨fun pins s σ H v u Q I r ⟨p, q⟩ => (h p).run pins s σ H v u Q I r q⟩
  exact PG_imp (pg_unl (n := n) hc h' hn hst) fun v σ H Q ⟨G, E, r, q⟩ => by
    obtain ⟨a, vs, rfl, hS, hr⟩ := r.lst_inv
    obtain ⟨p, hp, q⟩ := R.post_some q
    obtain ⟨e1, e2⟩ := hu p hp
    refine ⟨a, vs, rfl, .inl (E.sub.rd hS), by rw [hr.len, List.length_map, e2], p, G, E, e1 ▸ hr, q⟩
theorem un2_ok {α : Type} {f : α → D} {xs : List α} : ∀ p, un2 xs = some p → xs.map f = [f p.1, f p.2] ∧ xs.length = 2 := fun p e => by
  match xs, e with
  | [a, b], e =>
    cases e
    exact ⟨rfl, rfl⟩
theorem un3_ok {α : Type} {f : α → D} {xs : List α} : ∀ p, un3 xs = some p → xs.map f = [f p.1, f p.2.1, f p.2.2] ∧ xs.length = 3 := fun p e => by
  match xs, e with
  | [a, b, c], e =>
    cases e
    exact ⟨rfl, rfl⟩
theorem un4_ok {α : Type} {f : α → D} {xs : List α} : ∀ p, un4 xs = some p → xs.map f = [f p.1, f p.2.1, f p.2.2.1, f p.2.2.2] ∧ xs.length = 4 := fun p e => by
  match xs, e with
  | [a, b, c, d], e =>
    cases e
    exact ⟨rfl, rfl⟩
theorem jts_t : JTs X B ρ [] (.ok true) (fun b => b) := ⟨fun pins s σ H Q I ⟨G, E, q⟩ => pts_nil.run pins s σ H Q I (q G H (Ex.refl G) E)⟩
theorem je_cast {β : Type} {m : R β} {s1 s2 : β → Slot} {ρ' : β → List Slot} (k : JE X B ρ e m s1 ρ') (h : ∀ b, s2 b = s1 b) : JE X B ρ e m s2 ρ' := (funext h) ▸ k
theorem js_lt {α N L T : Type} {ss : List Stmt} {F : Fin N L T} (ρ : α → List Slot) (v0 : α) {k : α → R (Fl N L T)} (h : ∀ v, JSs X B (ρ v) ss (k v) F) : JSs X B (ρ v0) ss (lt v0 k) F := by
  rw [lt]
  exact h v0
theorem noRs {B B' : Base} (h : B'.rs = B.rs) (k : ∀ e, ¬ B.rs e) : ∀ e, ¬ B'.rs e := fun e => by
  rw [h]
  exact k e
theorem un65 {k : Nat} {A : Around} (r : RoomG k A) : A.units + 65 < cLine := by
  have := r.r.un
  omega
theorem un64 {k : Nat} {A : Around} (r : RoomG k A) : A.units + 64 < cLine := by
  have := r.r.un
  omega
end
/-- x in l -/
def hasL {α : Type} [DecidableEq α] (x : α) (l : List α) : Bool := decide (x ∈ l)
theorem hasL_iff {α : Type} [DecidableEq α] {x : α} {l : List α} : hasL x l = true ↔ x ∈ l := by
  rw [hasL, decide_eq_true_eq]
theorem od_inL {K : PySem.W.Frag} {B : Base} {α : Type} [DecidableEq α] {n : Nat} {f : α → D} (h : EqE n f) (hn : n + 1 ≤ 64 := by decide) {x : α} {l : List α} : OpD K B (rInD K) (f x) (eL f l) (.ok ()) (fun _ => .val (.bool (hasL x l))) := od_inD h hn
theorem od_niL {K : PySem.W.Frag} {B : Base} {α : Type} [DecidableEq α] {n : Nat} {f : α → D} (h : EqE n f) (hn : n + 1 ≤ 64 := by decide) {x : α} {l : List α} : OpD K B (rNotInD K) (f x) (eL f l) (.ok ()) (fun _ => .val (.bool (!hasL x l))) := od_niD h hn
end DL

/-! DL13: owned lists of owned lists; methods that change a list -/
namespace DL
open PySem PySem.Spec L2

def OT.subL : OT → List Nat → Option OT
  | o, [] => some o
  | .lst os, k :: ks => (os[k]?).bind fun o => o.subL ks
  | _, _ :: _ => none
def OT.putL : OT → List Nat → OT → OT
  | _, [], n => n
  | .lst os, k :: ks, n => .lst (match os[k]? with
    | some o => os.set k (o.putL ks n)
    | none => os)
  | o, _ :: _, _ => o
section
variable {K : PySem.W.Frag} {G H : Hp}
theorem OwnAll.at : ∀ {vs : List V} {os : List OT} {A : List Addr} {k : Nat} {o : OT}, OwnAll K G H vs os A → os[k]? = some o →
    ∃ v A0 A1 A2, vs[k]? = some v ∧ Own K G H v o A1 ∧ A = A0 ++ (A1 ++ A2) ∧ ∀ (H' : Hp) (o' : OT), Own K G H' v o' A1 → (∀ a ∈ A0 ++ A2, H' a = H a) → OwnAll K G H' vs (os.set k o') A
  | _, _, _, _, _, .nil, e => by simp at e
  | _, _, _, 0, o, .cons (A := A) (A' := A') h r, e => by
    simp at e
    subst e
    exact ⟨_, [], A, A', rfl, h, rfl, fun H' o' h' k => .cons h' (OwnAll.ex (Ex.refl G) r fun a m u e => by rw [k a (by simpa using m), e])⟩
  | _, _, _, k + 1, o, .cons (A := A) (A' := A') h r, e => by
    obtain ⟨v, A0, A1, A2, h1, h2, h3, h4⟩ := OwnAll.at (k := k) r (by simpa using e)
    subst h3
    refine ⟨v, A ++ A0, A1, A2, by simpa using h1, h2, by simp, fun H' o' h' k => .cons (h.ex (Ex.refl G) fun a m u e => by rw [k a (by simp [m]), e]) (h4 H' o' h' fun a m => k a (by
      rcases List.mem_append.mp m with m | m <;> simp [m]))⟩
theorem At.fun_ : ∀ {p : List Nat} {v w w' : V}, At H v p w → At H v p w' → w = w'
  | [], _, _, _, h, h' => h.symm.trans h'
  | _ :: _, _, _, _, ⟨a, vs, u, h1, h2, h3, h4⟩, ⟨a', vs', u', g1, g2, g3, g4⟩ => by
    subst h1
    injection g1 with g1
    subst g1
    rw [h2] at g2
    injection g2 with g2
    injection g2 with g2
    subst g2
    rw [h3] at g3
    injection g3 with g3
    subst g3
    exact At.fun_ h4 g4
theorem Own.put : ∀ {p : List Nat} {v : V} {o : OT} {A : List Addr} {ds : List D}, Own K G H v o A → o.subL p = some (.lst (ds.map OT.dat)) →
    ∃ a vs, At H v p (.ref a) ∧ a ∈ A ∧ H a = some (.lst vs) ∧ RpAll K G vs ds ∧ (A.Nodup → ∀ vs' ds', RpAll K G vs' ds' → Own K G (upd H a (.lst vs')) v (o.putL p (.lst (ds'.map OT.dat))) A)
  | [], v, o, A, ds, h, e => by
    rw [OT.subL] at e
    injection e with e
    subst e
    cases h with
    | @lst a vs _ A3 ha hall =>
      obtain ⟨e3, r⟩ := own_dats_inv hall
      subst e3
      refine ⟨a, vs, rfl, List.mem_cons_self, ha, r, fun _ vs' ds' r' => ?_⟩
      rw [OT.putL]
      exact .lst upd_same (own_dats r')
  | k :: ks, v, .dat d, A, ds, h, e => by
    simp [OT.subL] at e
  | k :: ks, v, .dk d, A, ds, h, e => by
    simp [OT.subL] at e
  | k :: ks, v, .dt d, A, ds, h, e => by
    simp [OT.subL] at e
  | k :: ks, v, .lst os, A, ds, h, e => by
    rw [OT.subL] at e
    obtain ⟨o1, e1, e2⟩ := Option.bind_eq_some_iff.mp e
    cases h with
    | @lst b ws _ A3 hb hall =>
      obtain ⟨u, A0, A1, A2, h1, h2, h3, h4⟩ := hall.at e1
      obtain ⟨a, vs, g1, g2, g3, g4, g5⟩ := Own.put (p := ks) h2 e2
      have m : a ∈ A3 := by
        rw [h3]
        simp [g2]
      refine ⟨a, vs, ⟨b, ws, u, rfl, hb, h1, g1⟩, List.mem_cons_of_mem _ m, g3, g4, fun nd vs' ds' r' => ?_⟩
      have n1 := List.nodup_cons.mp nd
      rw [OT.putL, e1]
      have n2 := n1.2
      rw [h3] at n2
      have n3 := List.nodup_append.mp n2
      have n4 := List.nodup_append.mp n3.2.1
      refine .lst ?_ (h4 _ _ (g5 n4.1 vs' ds' r') fun c mc => upd_ne fun z => ?_)
      · rw [upd_ne (fun z => n1.1 (by rw [z]; exact m))]
        exact hb
      · subst z
        rcases List.mem_append.mp mc with mc | mc
        · exact n3.2.2 c mc c (List.mem_append_left _ g2) rfl
        · exact n4.2.2 c g2 c mc rfl
theorem toDs_at : ∀ {os : List OT} {k : Nat}, (OT.toDs os)[k]? = (os[k]?).map OT.toD
  | [], k => by simp [OT.toDs]
  | o :: os, 0 => by simp [OT.toDs]
  | o :: os, k + 1 => by
    rw [OT.toDs]
    simpa using toDs_at (os := os) (k := k)
theorem Rp.at {G' : Hp} (x : Ex G' H) : ∀ {p : List Nat} {v w : V} {o o' : OT}, Rp K G' v o.toD → o.subL p = some o' → At H v p w → At G' v p w
  | [], _, _, _, _, _, _, h => h
  | k :: ks, v, w, .dat d, o', h, e, _ => by
    simp [OT.subL] at e
  | k :: ks, v, w, .dk d, o', h, e, _ => by
    simp [OT.subL] at e
  | k :: ks, v, w, .dt d, o', h, e, _ => by
    simp [OT.subL] at e
  | k :: ks, v, w, .lst os, o', h, e, ⟨a, vs, u, h1, h2, h3, h4⟩ => by
    rw [OT.subL] at e
    obtain ⟨o1, e1, e2⟩ := Option.bind_eq_some_iff.mp e
    rw [OT.toD] at h
    obtain ⟨b, xs, e3, hS, hr⟩ := h.lst_inv
    subst h1
    injection e3 with e3
    subst e3
    have hx : G' a = some (.lst xs) := by
      rcases hS with hS | ⟨o, hS⟩
      · exact hS
      · have := x _ _ hS
        rw [h2] at this
        cases this
    have hxs : xs = vs := by
      have := x _ _ hx
      rw [h2] at this
      injection this with this
      injection this with this
      exact this.symm
    subst hxs
    obtain ⟨d, hd, hrd⟩ := hr.getV h3
    rw [toDs_at, e1] at hd
    injection hd with hd
    subst hd
    exact ⟨a, xs, u, rfl, hx, h3, Rp.at x hrd e2 h4⟩
end
section
variable {K : PySem.W.Frag} {B : Base} {G H : Hp} {σ : L2.St} {ρ : List Slot}
/-- a list of data somewhere in an owned tree -/
theorem En.putAt {ex : List (V × Slot)} (E : En K B G H σ ρ ex) {i l : Nat} {o : OT} {p : List Nat} {ds : List D} (h : ρ[i]? = some (.own l o)) (hal : noAlis ρ = true) (hs : o.subL p = some (.lst (ds.map OT.dat))) :
    ∃ v a vs, σ[i]? = some (some v) ∧ At H v p (.ref a) ∧ H a = some (.lst vs) ∧ RpAll K G vs ds ∧ ∀ vs' ds', RpAll K G vs' ds' → En K B G (upd H a (.lst vs')) σ (ρ.set i (.own l (o.putL p (.lst (ds'.map OT.dat))))) ex := by
  obtain ⟨A0, c, n, g⟩ := E.own
  have hi : i < ρ.length := (List.getElem?_eq_some_iff.mp h).1
  have h' : (ex.map (·.2) ++ ρ)[ex.length + i]? = some (.own l o) := by
    rw [List.getElem?_append_right (by simp), List.length_map]
    simpa using h
  obtain ⟨v, A, A2, e1, hO, ⟨hl, hp⟩, c2, pm⟩ := c.take1 h'
  rw [List.getElem?_append_right (by simp), List.length_map] at e1
  have e1 : σ[i]? = some (some v) := by simpa using e1
  have nn := pm.nodup_iff.mp n
  have n1 := List.nodup_append.mp nn
  obtain ⟨a, vs, g1, g2, g3, g4, g5⟩ := hO.put hs
  refine ⟨v, a, vs, e1, g1, g3, g4, fun vs' ds' r' => ?_⟩
  have hG : G a = none := g a (pm.mem_iff.mpr (List.mem_append_left _ g2))
  have c3 : Cells K B G (upd H a (.lst vs')) (ex.map (fun p => some p.1) ++ σ) ((ex.map (·.2) ++ ρ).set (ex.length + i) .non) A2 := c2.ex (Ex.refl G) fun b m u e => by
    rw [upd_ne (fun z => by
      subst z
      exact n1.2.2 b g2 b m rfl)]
    exact e
  obtain ⟨A8, c8, p8⟩ := c3.put1 (i := ex.length + i) (l := l) (o := o.putL p (.lst (ds'.map OT.dat))) (v := v) (A1 := A) (by
    rw [List.getElem?_set_self]
    rw [List.length_append, List.length_map]
    omega) (by
    rw [List.getElem?_append_right (by simp), List.length_map]
    simpa using e1) (g5 n1.1 vs' ds' r') ⟨hl, hp⟩
  rw [List.set_set, List.set_append_right _ _ (by simp), List.length_map, Nat.add_sub_cancel_left] at c8
  refine ⟨E.anc.put hG ((hl a g2).elim (fun z => .inl ⟨l, z⟩) .inr) _, ⟨A8, c8, p8.nodup_iff.mpr nn, fun b m => g b (pm.mem_iff.mpr (p8.mem_iff.mp m))⟩, by rw [List.length_set]; exact E.len, fun k j q e => ?_⟩
  by_cases hk : i = k
  · subst hk
    rw [List.getElem?_set_self hi] at e
    cases e
  · rw [List.getElem?_set_ne hk] at e
    exact absurd e (noAlis_get hal)
/-- lent, the places in the tree stay -/
theorem En.lendAt (E : En K B G H σ ρ []) {i l : Nat} {o : OT} (h : ρ[i]? = some (.own l o)) (hal : noAlis ρ = true) : ∃ B' : Base, B'.rs = B.rs ∧ ∃ G', Ex G G' ∧ En K B' G' H σ (ρ.set i (.val o.toD)) [] ∧
    (∀ v p o' w, σ[i]? = some (some v) → o.subL p = some o' → At H v p w → At G' v p w) ∧
    ∀ G1 H1 ρ1 ρ2 ex, Ex G' G1 → En K B' G1 H1 σ ρ1 ex → Bor (ρ.set i .non) ρ1 ρ2 → ρ2[i]? = some .non → FlatX ex → noAlis ρ2 = true → ∃ G2, Ex G G2 ∧ En K B G2 H1 σ (ρ2.set i (.own l o)) ex := by
  obtain ⟨B', hB, G', x, E', k⟩ := E.lend h hal
  refine ⟨B', hB, G', x, E', fun v p o' w e1 e2 e3 => ?_, k⟩
  obtain ⟨v', g1, g2⟩ := E'.get (i := i) (d := o.toD) (by rw [List.getElem?_set_self (List.getElem?_eq_some_iff.mp h).1])
  rw [e1] at g1
  injection g1 with g1
  injection g1 with g1
  subst g1
  exact Rp.at E'.sub g2 e2 e3
end
/-- a place: a list of data in slot i, along a path -/
def tJL (K : PySem.W.Frag) (B : Base) (ρ : List Slot) (i : Nat) {ι : Type} (m : R ι) (path : ι → List Nat) : TE := fun σ H Q =>
  ∃ G, En K B G H σ ρ [] ∧ m.post (fun j => ∀ G' H', Ex G G' → En K B G' H' σ ρ [] → ∀ v a, σ[i]? = some (some v) → At H' v (path j) (.ref a) → Q (.ref a) H') B.rs
def JL (X : Cx) (B : Base) (ρ : List Slot) (e : Expr) (i : Nat) {ι : Type} (m : R ι) (path : ι → List Nat) : Prop := PE X e (tJL X.K B ρ i m path)
/-- what a method does to a list of data -/
def MtD (K : PySem.W.Frag) (r : V → List V → Hp → VK → Prop) (ds : List D) (as : List D) {γ : Type} (m : R γ) (res : γ → D) (ds' : γ → List D) : Prop :=
  ∀ (G H : Hp) (a : Addr) (vs args : List V) (Q : VK) (rs : Exn → Prop), Ex G H → H a = some (.lst vs) → RpAll K G vs ds → RpAll K G args as → m.post (fun c => ∀ v vs', Rp K G v (res c) → RpAll K G vs' (ds' c) → Q v (upd H a (.lst vs'))) rs → r (.ref a) args H Q
section
variable {X : Cx} {B : Base} {ρ : List Slot} {pos : Pos} {obj e : Expr} {es : List Expr}
theorem jl_name (i : Nat) {x : Str} {l : Nat} {os : List OT} (h : ρ[i]? = some (.own l (.lst os)) := by rfl) (hN : X.N[i]? = some x := by rfl) (hv : Vis X.env.scope x := by first | exact Or.inl rfl | exact Or.inr (Or.inl rfl) | exact Or.inr (Or.inr rfl))
    (hd : (x == ("__debug__" : Str)) = false := by decide) (hcd : (x == ("__classdict__" : Str)) = false := by decide) : JL X B ρ (.Name x pos) i (.ok ()) (fun _ => []) :=
  PE_imp (pv i hN hv hd hcd) fun σ H Q ⟨G, E, q⟩ => by
    obtain ⟨A, c, n, g⟩ := E.own
    obtain ⟨v, A1, A2, e1, hO, hl, c2, pm⟩ := Cells.take1 (show Cells X.K B G H σ ρ A from c) h
    cases hO with
    | lst ha hall => exact ⟨_, e1, q G H (Ex.refl G) E _ _ e1 rfl⟩
@[reducible] def oLL {α : Type} (f : α → D) (rows : List (List α)) : OT := .lst (rows.map (oL f))
def rowAt {α : Type} (rows : List (List α)) (k : Int) : Option (Nat × List α) := (ixN rows.length k).bind fun j => (rows[j]?).map fun r => (j, r)
theorem rowAt_get {α : Type} {rows : List (List α)} {k : Int} {p : Nat × List α} (h : rowAt rows k = some p) : ixN rows.length k = some p.1 ∧ rows[p.1]? = some p.2 := by
  obtain ⟨j, h1, h2⟩ := Option.bind_eq_some_iff.mp h
  obtain ⟨r, h3, h4⟩ := Option.map_eq_some_iff.mp h2
  subst h4
  exact ⟨h1, h3⟩
theorem subL1 {α : Type} {f : α → D} {rows : List (List α)} {j : Nat} {r : List α} (h : rows[j]? = some r) : (oLL f rows).subL [j] = some (.lst ((r.map f).map OT.dat)) := by
  rw [oLL, OT.subL, List.getElem?_map, h]
  rfl
theorem putL1 {α : Type} {f : α → D} {rows : List (List α)} {j : Nat} {r xs : List α} (h : rows[j]? = some r) : (oLL f rows).putL [j] (.lst ((xs.map f).map OT.dat)) = oLL f (rows.set j xs) := by
  rw [oLL, OT.putL, List.getElem?_map, h]
  simp only [Option.map_some, OT.putL]
  rw [oLL, List.map_set]
theorem OwnAll.len {K : PySem.W.Frag} {G H : Hp} : ∀ {vs : List V} {os : List OT} {A : List Addr}, OwnAll K G H vs os A → vs.length = os.length
  | _, _, _, .nil => rfl
  | _, _, _, .cons _ r => by rw [List.length_cons, List.length_cons, r.len]
theorem jl_ix (i : Nat) {x : Str} {px : Pos} {l : Nat} {α : Type} {f : α → D} {rows : List (List α)} {k : Int} (hk : JP X B ρ e (.int k)) (h : ρ[i]? = some (.own l (oLL f rows)) := by rfl) (hN : X.N[i]? = some x := by rfl)
    (hv : Vis X.env.scope x := by first | exact Or.inl rfl | exact Or.inr (Or.inl rfl) | exact Or.inr (Or.inr rfl)) (hd : (x == ("__debug__" : Str)) = false := by decide) (hcd : (x == ("__classdict__" : Str)) = false := by decide) (hs : PlainIx e := by exact fun _ _ => rfl) :
    JL X B ρ (.Subscript (.Name x px) e pos) i (R.some (rowAt rows k)) (fun p => [p.1]) :=
  PE_imp (pe_ix ix_list (pv i hN hv hd hcd) hk hs) fun σ H Q ⟨G, E, q⟩ => by
    have get : ∀ {G H : Hp} {ex : List (V × Slot)}, En X.K B G H σ ρ ex → ∃ p vs A3, σ[i]? = some (some (.ref p)) ∧ H p = some (.lst vs) ∧ OwnAll X.K G H vs (rows.map (oL f)) A3 := fun {G H ex} E => by
      obtain ⟨A, c, n, g⟩ := E.own
      have h' : (ex.map (·.2) ++ ρ)[ex.length + i]? = some (.own l (oLL f rows)) := by
        rw [List.getElem?_append_right (by simp), List.length_map]
        simpa using h
      obtain ⟨v, A1, A2, e1, hO, hl, c2, pm⟩ := c.take1 h'
      rw [List.getElem?_append_right (by simp), List.length_map] at e1
      have e1 : σ[i]? = some (some v) := by simpa using e1
      cases hO with
      | lst ha hall => exact ⟨_, _, _, e1, ha, hall⟩
    obtain ⟨p, vs, A3, e1, e2, e3⟩ := get E
    refine ⟨.ref p, e1, G, E, fun w G1 H1 x1 E1 => ?_⟩
    have hn := E1.top.int_inv
    subst hn
    obtain ⟨p', vs', A4, g1, g2, g3⟩ := get E1
    have ep : p' = p := by
      have z := g1.symm.trans e1
      injection z with z
      injection z with z
      injection z
    subst ep
    obtain ⟨pr, hpr, q⟩ := R.post_some q
    obtain ⟨r1, r2⟩ := rowAt_get hpr
    obtain ⟨u, A5, A6, A7, h1, h2, _, _⟩ := g3.at (k := pr.1) (o := oL f pr.2) (by rw [List.getElem?_map, r2]; rfl)
    cases h2 with
    | @lst a ws _ A8 ha hall =>
      have hlen : vs'.length = rows.length := by rw [g3.len, List.length_map]
      refine ⟨p', vs', k, .ref a, rfl, rfl, .inl (.inl g2), ?_, q G1 H1 x1 E1.pop _ a e1 ⟨p', vs', _, rfl, g2, h1, rfl⟩⟩
      unfold atI
      rw [hlen, r1]
      exact h1
theorem En.pushAll {K : PySem.W.Frag} {G H : Hp} {σ : L2.St} {ρ : List Slot} : ∀ {vs : List V} {ds : List D} {ex : List (V × Slot)}, En K B G H σ ρ ex → RpAll K G vs ds → ∃ ex', En K B G H σ ρ ex' ∧ ex' = vs.zip (ds.map Slot.val) ++ ex
  | _, _, ex, E, .nil => ⟨ex, E, rfl⟩
  | _, _, ex, E, .cons h r => by
    obtain ⟨ex', E', e⟩ := En.pushAll E r
    subst e
    exact ⟨_, E'.push h, rfl⟩
theorem En.topAll {K : PySem.W.Frag} {G H : Hp} {σ : L2.St} {ρ : List Slot} : ∀ {vs : List V} {ds : List D} {ex : List (V × Slot)}, vs.length = ds.length → En K B G H σ ρ (vs.zip (ds.map Slot.val) ++ ex) → RpAll K G vs ds ∧ En K B G H σ ρ ex
  | [], [], ex, _, E => ⟨.nil, E⟩
  | v :: vs, d :: ds, ex, h, E => by
    have E : En K B G H σ ρ ((v, .val d) :: (vs.zip (ds.map Slot.val) ++ ex)) := E
    obtain ⟨h1, h2⟩ := En.topAll (vs := vs) (ds := ds) (by simpa using h) E.pop
    exact ⟨.cons E.top h1, h2⟩
theorem flatX_zip : ∀ {vs : List V} {ds : List D}, FlatL ds → FlatX (vs.zip (ds.map Slot.val) ++ [])
  | [], _, _ => trivial
  | _ :: _, [], _ => trivial
  | v :: vs, d :: ds, h => by
    rw [FlatL] at h
    exact ⟨h.1, flatX_zip h.2⟩
theorem ArOk.rp {K : PySem.W.Frag} {G : Hp} {σ : L2.St} : ∀ {vs : List V} {ds : List D}, ArOk K G σ vs (ds.map Ar.val) → RpAll K G vs ds
  | [], [], _ => .nil
  | [], _ :: _, h => by cases h
  | _ :: _, [], h => by cases h
  | v :: vs, d :: ds, h => by
    cases h with
    | val h r => exact .cons h (ArOk.rp r)
/-- a method that changes a list of data in an owned tree -/
theorem je_mth (i : Nat) {ι β γ : Type} {l : Nat} {o : OT} {d : D} {name : Str} {ap : Pos} {id : String} {r : V → List V → Hp → VK → Prop} {m0 : R ι} {path : ι → List Nat} {m : ι → R β} {as : ι → β → List D} {m2 : ι → β → R γ} {ds : ι → List D} {res : ι → β → γ → D} {ds' : ι → β → γ → List D} {ρ1 ρ2 : ι → β → List Slot} {ρ' : ι × β × γ → List Slot}
    (slot : PySem.Slot "list" name id) (hty : typeOf (.builtin id) = pure (.type "method_descriptor")) (hm : MtR X id r) (ho : JL X B ρ obj i m0 path) (h : ρ[i]? = some (.own l o)) (hd : o.toD = d)
    (hsub : ∀ (φ : ι → Prop) (ψ : Exn → Prop), m0.post φ ψ → m0.post (fun j => φ j ∧ o.subL (path j) = some (.lst ((ds j).map OT.dat))) ψ)
    (ha : ∀ (B' : Base), B'.rs = B.rs → ∀ j, JA X B' (ρ.set i (.val d)) (e :: es) (m j) (fun b => (as j b).map Ar.val) (ρ1 j)) (hfl : ∀ j b, FlatL (as j b)) (hmd : ∀ j b, MtD X.K r (ds j) (as j b) (m2 j b) (res j b) (ds' j b))
    (hb : ∀ j b, Bor (ρ.set i .non) (ρ1 j b) (ρ2 j b)) (hr : ∀ j b c, o.subL (path j) = some (.lst ((ds j).map OT.dat)) → (ρ2 j b).set i (.own l (o.putL (path j) (.lst ((ds' j b c).map OT.dat)))) = ρ' (j, b, c))
    (hal : noAlis ρ = true := by rfl) (h2 : ∀ j b, (ρ2 j b)[i]? = some .non := by intro _ _; rfl) (ha2 : ∀ j b, noAlis (ρ2 j b) = true := by intro _ _; rfl) (ha3 : ∀ j b, noAlis ((ρ2 j b).set i (.own l o)) = true := by intro _ _; rfl)
    (hst : starEach (e :: es) X.env = (false, eval e X.env) :: starEach es X.env := by rfl) (hbase : attributeBase obj name X.env (eval obj X.env) = eval obj X.env := by rfl)
    (hone : ((backTo pos (starEach (e :: es) X.env)).all (fun x => !x.1) && (backToKw pos (keywordEach [] X.env)).all (fun x => x.1.isSome) && decide ((e :: es).length + ([] : List Keyword).length + (if ([] : List Keyword).isEmpty then 0 else 1) < 30)) = true := by rfl)
    (hline : (ap.endLine == pos.line) = true := by rfl) (hnil : (backTo pos (starEach es X.env)).any (·.1) = false := by rfl) :
    JE X B ρ (.Call (.Attribute obj name ap) (e :: es) [] pos) (m0.bind fun j => (m j).bind fun b => (m2 j b).bind fun c => .ok (j, b, c)) (fun p => .val (res p.1 p.2.1 p.2.2)) ρ' := by
  have ha' : PA X (e :: es) (fun σ H Q => ∃ B' j, B'.rs = B.rs ∧ tJA X.K B' (ρ.set i (.val d)) (m j) (fun b => (as j b).map Ar.val) (ρ1 j) σ H Q) := ⟨fun ps pins s σ H Q I ⟨B', j, hB, q⟩ => (ha B' hB j).run ps pins s σ H Q I q⟩
  refine PE_imp (pe_bm PySem.F.plainAttrs_list slot hty hm ho ha' hbase hone hline hst hnil) fun σ H Q ⟨G, E, q⟩ => ⟨G, E, R.post_mono (hsub _ _ (R.post_bind.mp q)) fun j ⟨q1, hs⟩ G' H' x' E' v a e1 hat => ?_⟩
  obtain ⟨v2, a2, ws, f1, f2, f3, f4, _⟩ := E'.putAt h hal hs
  have ev : v2 = v := by
    rw [e1] at f1
    injection f1 with f1
    injection f1 with f1
    exact f1.symm
  subst ev
  have ea : a2 = a := by
    have := At.fun_ f2 hat
    injection this
  subst ea
  obtain ⟨B', hB, G'', x'', E'', keepAt, back⟩ := E'.lendAt h hal
  rw [hd] at E''
  refine ⟨.inl ⟨rfl, _, .inl (.inl f3)⟩, B', j, hB, G'', E'', ?_⟩
  rw [hB]
  refine R.post_mono (R.post_bind.mp q1) fun b q2 vs G1 H1 x1 E1 ok => ?_
  have hargs := ok.rp
  obtain ⟨ex', E1', e'⟩ := E1.pushAll hargs
  subst e'
  obtain ⟨G2, x2, E2⟩ := back G1 H1 (ρ1 j b) (ρ2 j b) _ x1 E1' (hb j b) (h2 j b) (flatX_zip (hfl j b)) (ha2 j b)
  obtain ⟨hargs2, E3⟩ := En.topAll hargs.len E2
  have h3 : ((ρ2 j b).set i (.own l o))[i]? = some (.own l o) := by
    rw [List.getElem?_set_self (List.getElem?_eq_some_iff.mp (h2 j b)).1]
  obtain ⟨v3, a3, ws3, g1, g2, g3, g4, g5⟩ := E3.putAt h3 (ha3 j b) hs
  have ev : v3 = v2 := by
    rw [e1] at g1
    injection g1 with g1
    injection g1 with g1
    exact g1.symm
  subst ev
  have hat1 : At H1 v3 (path j) (.ref a2) := (keepAt v3 (path j) _ _ e1 hs hat).ex (x1.trans E1.sub)
  have ea : a3 = a2 := by
    have := At.fun_ g2 hat1
    injection this
  subst ea
  refine hmd j b G2 H1 a3 ws3 vs Q B.rs E3.sub g3 g4 hargs2 (R.post_mono (R.post_bind.mp q2) fun c q3 w ws' hw hws' => ?_)
  have E4 := g5 ws' (ds' j b c) hws'
  rw [List.set_set, hr j b c hs] at E4
  exact q3 w G2 _ (x'.trans x2) (E4.push hw)
end
end DL

/-! DL14: the methods of lists and tuples -/
namespace DL
open PySem PySem.Spec L2

/-- the first place of a thing -/
def ixOf {α : Type} [DecidableEq α] (x : α) : List α → Option Nat
  | [] => none
  | y :: ys => if y = x then some 0 else (ixOf x ys).map (· + 1)
theorem ixOf_some {α : Type} [DecidableEq α] {x : α} : ∀ {l : List α} {j : Nat}, ixOf x l = some j → l[j]? = some x ∧ ∀ m, m < j → l[m]? ≠ some x
  | y :: ys, j, h => by
    rw [ixOf] at h
    by_cases e : y = x
    · rw [if_pos e] at h
      injection h with h
      subst h
      exact ⟨by simp [e], fun m z => absurd z (Nat.not_lt_zero _)⟩
    · rw [if_neg e] at h
      obtain ⟨k, h1, h2⟩ := Option.map_eq_some_iff.mp h
      subst h2
      obtain ⟨g1, g2⟩ := ixOf_some h1
      refine ⟨by simpa using g1, fun m z => ?_⟩
      cases m with
      | zero =>
        intro q
        simp at q
        exact e q
      | succ m =>
        intro q
        exact g2 m (by omega) (by simpa using q)
theorem RpAll.eraseIdx {K : PySem.W.Frag} {G : Hp} : ∀ {vs : List V} {ds : List D} (n : Nat), RpAll K G vs ds → RpAll K G (vs.eraseIdx n) (ds.eraseIdx n)
  | _, _, _, .nil => .nil
  | _, _, 0, .cons _ r => r
  | _, _, n + 1, .cons h r => .cons h (RpAll.eraseIdx n r)
section
variable {K : PySem.W.Frag}
theorem rp2 {G : Hp} {vs : List V} {a b : D} (h : RpAll K G vs [a, b]) : ∃ v w, vs = [v, w] ∧ Rp K G v a ∧ Rp K G w b := by
  cases h with
  | cons h r =>
    cases r with
    | cons h2 r =>
      cases r
      exact ⟨_, _, rfl, h, h2⟩
theorem rp1 {G : Hp} {vs : List V} {a : D} (h : RpAll K G vs [a]) : ∃ v, vs = [v] ∧ Rp K G v a := by
  cases h with
  | cons h r =>
    cases r
    exact ⟨_, rfl, h⟩
theorem md_insert {α : Type} {f : α → D} {xs : List α} {i : Int} {y : α} : MtD K (fun x vs H Q => ∃ (l : Addr) (xs : List V) (i : Int) (y : V), x = .ref l ∧ vs = [.int i, y] ∧ H l = some (.lst xs) ∧ xs.length < sizeLine ∧ 0 ≤ i ∧ i < 2 ^ 63 ∧ Q .non (upd H l (.lst (xs.take i.toNat ++ [y] ++ xs.drop i.toNat))))
    (xs.map f) [.int i, f y] (R.guard (xs.length < sizeLine ∧ 0 ≤ i ∧ i < 2 ^ 63)) (fun _ => .none) (fun _ => (xs.take i.toNat ++ [y] ++ xs.drop i.toNat).map f) := fun G H a vs args Q rs e hH hr ha q => by
  obtain ⟨v, w, rfl, h1, h2⟩ := rp2 ha
  have h1 := h1.int_inv
  subst h1
  obtain ⟨⟨c1, c2, c3⟩, q⟩ := R.post_guard q
  refine ⟨a, vs, i, w, rfl, rfl, hH, by rw [hr.len, List.length_map]; exact c1, c2, c3, q _ _ .non ?_⟩
  rw [List.map_append, List.map_append, List.map_take, List.map_drop]
  exact ((hr.take _).append (.cons h2 .nil)).append (hr.drop _)
theorem md_append {α : Type} {f : α → D} {xs : List α} {y : α} : MtD K rAppend (xs.map f) [f y] (R.guard (xs.length < sizeLine)) (fun _ => .none) (fun _ => (xs ++ [y]).map f) := fun G H a vs args Q rs e hH hr ha q => by
  obtain ⟨w, rfl, h2⟩ := rp1 ha
  obtain ⟨c1, q⟩ := R.post_guard q
  refine ⟨a, vs, w, rfl, rfl, hH, by rw [hr.len, List.length_map]; exact c1, q _ _ .non ?_⟩
  rw [List.map_append]
  exact hr.append (.cons h2 .nil)
theorem md_removeI {xs : List Int} {k : Int} : MtD K rRemI (xs.map D.int) [.int k] (R.some (ixOf k xs)) (fun _ => .none) (fun j => (xs.eraseIdx j).map D.int) := fun G H a vs args Q rs e hH hr ha q => by
  obtain ⟨w, rfl, h2⟩ := rp1 ha
  have h2 := h2.int_inv
  subst h2
  have hv := hr.ints
  subst hv
  obtain ⟨j, hj, q⟩ := R.post_some q
  obtain ⟨g1, g2⟩ := ixOf_some hj
  exact ⟨a, xs, k, j, rfl, rfl, hH, g1, g2, q _ _ .non (RpAll.of_ints _)⟩
theorem md_extend {α : Type} {f : α → D} {xs ys : List α} : MtD K (fun x vs H Q => ∃ l b xs zs, x = .ref l ∧ vs = [.ref b] ∧ H l = some (.lst xs) ∧ SqL K H b zs ∧ xs.length + zs.length ≤ sizeLine ∧ Q .non (upd H l (.lst (xs ++ zs))))
    (xs.map f) [eL f ys] (R.guard (xs.length + ys.length ≤ sizeLine)) (fun _ => .none) (fun _ => (xs ++ ys).map f) := fun G H a vs args Q rs e hH hr ha q => by
  obtain ⟨w, rfl, h2⟩ := rp1 ha
  obtain ⟨b, zs, rfl, hS, hr2⟩ := h2.lst_inv
  obtain ⟨c1, q⟩ := R.post_guard q
  refine ⟨a, b, vs, zs, rfl, rfl, hH, .inl (e.rd hS), by rw [hr.len, hr2.len, List.length_map, List.length_map]; exact c1, q _ _ .non ?_⟩
  rw [List.map_append]
  exact hr.append hr2
theorem putL0 (o n : OT) : o.putL [] n = n := by
  rw [OT.putL]
theorem sub0 {α : Type} {f : α → D} {xs : List α} (φ : Unit → Prop) (ψ : Exn → Prop) (h : (R.ok () : R Unit).post φ ψ) : (R.ok () : R Unit).post (fun _ => φ () ∧ (oL f xs).subL [] = some (.lst ((xs.map f).map OT.dat))) ψ := ⟨h, by rw [OT.subL]⟩
theorem sub1 {α : Type} {f : α → D} {rows : List (List α)} {k : Int} (φ : Nat × List α → Prop) (ψ : Exn → Prop) (h : (R.some (rowAt rows k)).post φ ψ) : (R.some (rowAt rows k)).post (fun p => φ p ∧ (oLL f rows).subL [p.1] = some (.lst ((p.2.map f).map OT.dat))) ψ := by
  obtain ⟨p, hp, q⟩ := R.post_some h
  rw [hp]
  exact ⟨q, subL1 (rowAt_get hp).2⟩
theorem putS0 {ρ : List Slot} {i l : Nat} {o n : OT} : ρ.set i (.own l (o.putL [] n)) = ρ.set i (.own l n) := by
  rw [putL0]
theorem putS1 {α : Type} {f : α → D} {rows : List (List α)} {ρ : List Slot} {i l j : Nat} {xs : List α} {o' : OT} (h : (oLL f rows).subL [j] = some o') : ρ.set i (.own l ((oLL f rows).putL [j] (.lst ((xs.map f).map OT.dat)))) = ρ.set i (.own l (oLL f (rows.set j xs))) := by
  cases e : rows[j]? with
  | none =>
    rw [oLL, OT.subL, List.getElem?_map, e] at h
    cases h
  | some r => rw [putL1 e]
theorem toDs_LL {α : Type} {f : α → D} : ∀ rows : List (List α), OT.toDs (rows.map (oL f)) = rows.map (eL f)
  | [] => by rw [List.map_nil, List.map_nil, OT.toDs]
  | r :: rows => by rw [List.map_cons, List.map_cons, OT.toDs, toD_oL, toDs_LL rows]
theorem toD_oLL {α : Type} (f : α → D) (rows : List (List α)) : (oLL f rows).toD = eL (eL f) rows := by
  rw [oLL, OT.toD, toDs_LL]
end
/-- t.index(k) of whole numbers -/
def rTix (K : PySem.W.Frag) : V → List V → Hp → VK → Prop := fun x args H Q => ∃ (p : Addr) (ns : List Int) (k : Int) (j : Nat), x = .ref p ∧ args = [.int k] ∧ SqT K H p (ns.map V.int) ∧ ns[j]? = some k ∧ (∀ m, m < j → ns[m]? ≠ some k) ∧ Q (.int (j : Nat)) H
theorem mt_tix {X : Cx} : MtR X "tuple.index" (rTix X.K) := by
  intro pins s σ H x xs v us Q I rx rs h
  obtain ⟨p, ns, k, j, rfl, rfl, hq, hy, hno, q⟩ := h
  cases rx
  obtain ⟨u, rfl, t, rfl⟩ := vals1 rs
  obtain ⟨its, r, ⟨⟨cls, dd, dt, sl⟩, ho, hc, n, hd⟩, hz⟩ := I.tuple hq
  simp only at hc hd
  subst hc hd
  have size : its.toArray.size = ns.length := by rw [List.size_toArray, ← r.length, List.length_map]
  have hj : j < its.toArray.size := size ▸ (List.getElem?_eq_some_iff.mp hy).1
  have item : ∀ (m : Nat) (hm : m < its.toArray.size), ∃ (y : Int) (w : Tok), ns[m]? = some y ∧ its.toArray[m] = Value.int y w := fun m hm => by
    have hm' : m < ns.length := size ▸ hm
    obtain ⟨w, hw, w', e'⟩ := r.get (i := m) (x := .int ns[m]) (by simp [hm'])
    have e := (List.getElem?_eq_some_iff.mp hw).2
    exact ⟨ns[m], w', List.getElem?_eq_getElem hm', by rw [← e', ← e]; simp⟩
  have fl : (ns.map V.int).all flatV = true := by
    rw [List.all_map]
    exact List.all_eq_true.mpr fun _ _ => rfl
  refine call_meets PySem.F.slot_tuple_index ⟨_, ho, rfl⟩ PySem.F.entry_tuple_index (PySem.F.args_tuple_index_2 _ _) (TI.tuple_indexAt p its.toArray n dd sl (.int k t) (eqU (.int k)) j hj ?_ ?_)
    ⟨ho, fun w hw => mem_eqAt (x := .int k) ⟨t, rfl⟩ rfl r fl w (by simpa using hw), ⟨.int (j : Nat), H, I.tok _, ⟨_, rfl⟩, q⟩⟩
  · obtain ⟨y, w, h1, h2⟩ := item j hj
    rw [hy] at h1
    cases h1
    rw [h2]
    simp [eqU, eqV]
  · intro m hm hmj
    obtain ⟨y, w, h1, h2⟩ := item m hm
    rw [h2]
    have : y ≠ k := fun e => hno m hmj (e ▸ h1)
    simp [eqU, eqV, this]
end DL

/-! DL15: owned things set aside; lists whose items are owned lists -/
namespace DL
open PySem PySem.Spec L2
section
variable {K : PySem.W.Frag} {B B' : Base} {G G' H H' G1 G2 H1 : Hp} {σ σ1 : L2.St} {ρ ρ1 : List Slot}
def Base.aside (B : Base) (H : Hp) (A : List Addr) : Base := { B with H0 := fun a => if a ∈ A then H a else B.H0 a, Mo := fun l => (B.Mo l).filter (fun a => decide (a ∉ A)), m0 := by rw [B.m0]; rfl }
/-- an owned temp set aside -/
theorem En.aside {v : V} {o : OT} {ex : List (V × Slot)} (E : En K B G H σ ρ ((v, .own 0 o) :: ex)) : ∃ B' : Base, B'.rs = B.rs ∧ En K B' G H σ ρ ex ∧
    ∀ G1 H1 σ1 ρ1 ex1, Ex G G1 → En K B' G1 H1 σ1 ρ1 ex1 → noAlis ρ1 = true → En K B G1 H1 σ1 ρ1 ((v, .own 0 o) :: ex1) := by
  obtain ⟨A0, c, n, g⟩ := E.own
  cases c with
  | @cons _ _ A _ _ A2 c1 cr =>
    cases c1 with
    | own hO hl hp =>
      have n1 := List.nodup_append.mp n
      have hA : ∀ a ∈ A, G a = none := fun a m => g a (List.mem_append_left _ m)
      have h0 : ∀ a ∈ A, B.H0 a = none := fun a m => (hl a m).resolve_left (by rw [B.m0]; exact fun z => nomatch z)
      have hT : ∀ a ∈ A, ∃ vs, H a = some vs := hO.there
      have disj : ∀ a ∈ A2, a ∉ A := fun a m z => n1.2.2 a z a m rfl
      refine ⟨B.aside H A, rfl, ⟨⟨fun a o hm e => ?_, fun a l hm => E.anc.there a l (List.mem_filter.mp hm).1, E.anc.gsub, fun a e1 e2 => ?_, E.anc.sub⟩, ⟨A2, ?_, n1.2.1, fun a m => g a (List.mem_append_right _ m)⟩, E.len, E.ali⟩, fun G1 H1 σ1 ρ1 ex1 x E1 ha => ?_⟩
      · have e : (if a ∈ A then H a else B.H0 a) = some o := e
        by_cases ha : a ∈ A
        · rw [if_pos ha] at e
          exact e
        · rw [if_neg ha] at e
          exact E.anc.keep a o (fun l m => hm l (List.mem_filter.mpr ⟨m, decide_eq_true ha⟩)) e
      · by_cases ha : a ∈ A
        · exact hA a ha
        · have e1 : (if a ∈ A then H a else B.H0 a) ≠ none := e1
          rw [if_neg ha] at e1
          exact E.anc.gnew a e1 e2
      · refine Cells.reb (B := B) cr (fun l a m k => ?_) rfl
        have ha := disj a m
        rcases k with k | k
        · exact .inl (List.mem_filter.mpr ⟨k, decide_eq_true ha⟩)
        · refine .inr ?_
          show (if a ∈ A then H a else B.H0 a) = _
          rw [if_neg ha, k]
      · obtain ⟨A5, c5, n5, g5⟩ := E1.own
        have hH1 : ∀ a ∈ A, H1 a = H a := fun a m => by
          obtain ⟨vs, e⟩ := hT a m
          rw [e]
          refine E1.anc.keep a _ (fun l z => of_decide_eq_true (List.mem_filter.mp z).2 m) ?_
          show (if a ∈ A then H a else B.H0 a) = _
          rw [if_pos m, e]
        have hG1 : ∀ a ∈ A, G1 a = none := fun a m => E1.anc.gnew a (by
          show (if a ∈ A then H a else B.H0 a) ≠ none
          rw [if_pos m]
          obtain ⟨vs, e⟩ := hT a m
          rw [e]
          exact fun z => nomatch z) (by
          show B.G0 a = none
          exact E.anc.gsub.back (hA a m))
        have disj5 : ∀ a ∈ A5, a ∉ A := fun a m ha => by
          rcases Cells.region c5 a m with ⟨l, z⟩ | z
          · exact of_decide_eq_true (List.mem_filter.mp z).2 ha
          · have z : (if a ∈ A then H a else B.H0 a) = none := z
            rw [if_pos ha] at z
            obtain ⟨vs, e⟩ := hT a ha
            rw [e] at z
            cases z
        refine ⟨⟨fun a o hm e => ?_, fun a l hm => ?_, E1.anc.gsub, fun a e1 e2 => ?_, E1.anc.sub⟩, ⟨A ++ A5, .cons (.own (hO.ex x fun a m u e => by rw [hH1 a m, e]) hl hp) ?_, List.nodup_append.mpr ⟨n1.1, n5, fun a m b mb e => ?_⟩, fun a m => ?_⟩, E1.len, fun i j q e => absurd e (noAlis_get ha)⟩
        · have ha : a ∉ A := fun z => by
            rw [h0 a z] at e
            cases e
          refine E1.anc.keep a o (fun l m => hm l (List.mem_filter.mp m).1) ?_
          show (if a ∈ A then H a else B.H0 a) = _
          rw [if_neg ha]
          exact e
        · by_cases ha : a ∈ A
          · rw [hH1 a ha]
            obtain ⟨vs, e⟩ := hT a ha
            rw [e]
            exact fun z => nomatch z
          · exact E1.anc.there a l (List.mem_filter.mpr ⟨hm, decide_eq_true ha⟩)
        · have ha : a ∉ A := fun z => e1 (h0 a z)
          refine E1.anc.gnew a ?_ e2
          show (if a ∈ A then H a else B.H0 a) ≠ none
          rw [if_neg ha]
          exact e1
        · refine Cells.reb (B := B.aside H A) c5 (fun l a m k => ?_) rfl
          have ha := disj5 a m
          rcases k with k | k
          · exact .inl (List.mem_filter.mp k).1
          · refine .inr ?_
            have k : (if a ∈ A then H a else B.H0 a) = none := k
            rw [if_neg ha] at k
            exact k
        · subst e
          exact disj5 a mb m
        · rcases List.mem_append.mp m with m | m
          · exact hG1 a m
          · exact g5 a m
theorem OwnAll.append {A A' : List Addr} : ∀ {vs ws : List V} {os us : List OT}, OwnAll K G H vs os A → OwnAll K G H ws us A' → OwnAll K G H (vs ++ ws) (os ++ us) (A ++ A')
  | _, _, _, _, .nil, s => s
  | _, _, _, _, .cons h r, s => by
    rw [List.append_assoc]
    exact .cons h (OwnAll.append r s)
/-- an owned thing put behind an owned list's items -/
theorem En.appO {p : Addr} {os : List OT} {w : V} {u : OT} {ex : List (V × Slot)} (E : En K B G H σ ρ ((.ref p, .own 0 (.lst os)) :: (w, .own 0 u) :: ex)) (hal : noAlis ρ = true) : ∃ vs, H p = some (.lst vs) ∧ vs.length = os.length ∧ En K B G (upd H p (.lst (vs ++ [w]))) σ ρ ((.ref p, .own 0 (.lst (os ++ [u]))) :: ex) := by
  obtain ⟨A0, c, n, g⟩ := E.own
  cases c with
  | @cons _ _ A1 _ _ A2 c1 cr =>
    cases cr with
    | @cons _ _ A3 _ _ A4 c2 c3 =>
      cases c1 with
      | own hO hl hp =>
        cases c2 with
        | own hU hl2 hp2 =>
          cases hO with
          | @lst _ vs _ A5 hH hall =>
            have n1 := List.nodup_cons.mp n
            have n2 := List.nodup_append.mp n1.2
            have n3 := List.nodup_append.mp n2.2.1
            have hn : ∀ (A : List Addr), (∀ a ∈ A, a ∈ A5 ++ (A3 ++ A4)) → ∀ a ∈ A, ∀ u, H a = some u → upd H p (.lst (vs ++ [w])) a = some u := fun A s a m u e => by
              rw [upd_ne (fun z => n1.1 (by rw [← z]; exact s a m))]
              exact e
            refine ⟨vs, hH, hall.len, ⟨E.anc.put (g p (by simp)) (.inr ((hl p (by simp)).resolve_left (by rw [B.m0]; exact fun z => nomatch z))) _, ⟨(p :: (A5 ++ (A3 ++ []))) ++ A4, .cons (.own (.lst upd_same ?_) (fun a m => ?_) (.inl rfl)) (c3.ex (Ex.refl G) (hn A4 fun a m => by simp [m])), ?_, fun a m => g a ?_⟩, E.len, fun i j q e => ?_⟩⟩
            · exact OwnAll.append (hall.ex (Ex.refl G) (hn A5 fun a m => by simp [m])) (.cons (hU.ex (Ex.refl G) (hn A3 fun a m => by simp [m])) .nil)
            · rcases List.mem_cons.mp m with rfl | m
              · exact hl _ (by simp)
              · rcases List.mem_append.mp m with m | m
                · exact hl a (by simp [m])
                · exact hl2 a (by simpa using m)
            · simpa using n
            · simpa using m
            · exact absurd e (noAlis_get hal)
end
/-- a comprehension whose items are owned lists -/
theorem tlc_ofO {K : PySem.W.Frag} {B : Base} {ρ : List Slot} {α S γ δ ε β0 : Type} {m : R β0} {xs : β0 → List α} {ea : α → D} {eo : γ → OT} {ρ1 : β0 → List Slot} {vs ts : List Nat} {ρS : S → List Slot} {s0 : β0 → S} {ρB : α → S → List Slot} {c : α → S → R δ} {bn : δ → Bool} {me : α → S → R ε} {v : ε → γ} {st : ε → S}
    (hw : ∀ b, ρ1 b = ρS (s0 b)) (hpl : ∀ s, plainAt 0 vs (ρS s) = true) (hna : ∀ s, noAlis (ρS s) = true) (hts : ∀ i ∈ ts, i ∈ vs) (hplB : ∀ x s, plainAt 0 vs (ρB x s) = true) (hnaB : ∀ x s, noAlis (ρB x s) = true) (hun : ∀ x s s', unblot 0 vs (ρS s) (ρB x s') = ρS s')
    {σ : L2.St} {H : Hp} {Q : VK}
    (q : tJ K B ρ (m.bind fun b => (R.guard ((xs b).length ≤ sizeLine)).bind fun _ => compR (compF c bn me v st) (xs b) [] (s0 b)) (fun p => .own 0 (.lst (p.1.map eo))) (fun p => ρS p.2) σ H Q) :
    tLc (tJI K B ρ m (fun b => (xs b).map ea) ρ1) (fun w σ H Q => ∃ B' x s, B'.rs = B.rs ∧ tJN K B' (blot 0 vs (ρS s)) (ea x) ts (ρB x s) w σ H Q) (fun σ H Q => ∃ B' x s, B'.rs = B.rs ∧ tJT K B' (ρB x s) (c x s) bn (fun _ => ρB x s) σ H Q)
      (fun σ H Q => ∃ B' x s, B'.rs = B.rs ∧ tJ K B' (ρB x s) (me x s) (fun y => .own 0 (eo (v y))) (fun y => ρB x (st y)) σ H Q) vs σ H Q := by
  obtain ⟨G, E, q⟩ := q
  refine ⟨G, E, R.post_mono (R.post_bind.mp q) fun b q1 J G' H' xG E' Y p hp => ?_⟩
  obtain ⟨hsz, q2⟩ := R.post_guard (R.post_bind.mp q1)
  have hlen : ((xs b).map ea).length = (xs b).length := List.length_map _
  let W : Nat → Hp → Prop := fun i H1 => ∃ G1 s acc, Ex G' G1 ∧ En K B G1 H1 σ (ρS s) [(.ref p, .own 0 (.lst (acc.map eo)))] ∧ acc.length ≤ i ∧
    (compR (compF c bn me v st) ((xs b).drop i) acc s).post (fun r => ∀ w G2 H2, Ex G1 G2 → En K B G2 H2 σ (ρS r.2) [(w, .own 0 (.lst (r.1.map eo)))] → Q w H2) B.rs
  refine ⟨fun i mm H1 => mm = (xs b).length - i ∧ i ≤ (xs b).length ∧ W i H1, ⟨_, rfl, Nat.zero_le _, G', s0 b, [], Ex.refl _, ?_, Nat.le_refl _, R.post_mono q2 fun r h w G2 H2 x2 E2 => h w G2 H2 (xG.trans x2) E2⟩, ?_⟩
  · rw [hw b] at E'
    exact E'.newL (ds := []) hp .nil
  · rintro i mm H1 ⟨rfl, hi1, G1, s, acc, x1, E1, hacc, q3⟩
    by_cases hlt : i < (xs b).length
    · refine .inr ⟨Y.go i H1 (by rw [hlen]; exact hlt) (x1.trans E1.sub), fun H' => W (i + 1) H', fun H' w => ⟨_, ?_, rfl, hlt, w⟩, fun w H2 hy => ?_⟩
      · omega
      · obtain ⟨B', hB, Eh, back⟩ := E1.aside
        have hd : ((xs b).map ea)[i]? = some (ea (xs b)[i]) := by rw [List.getElem?_map, List.getElem?_eq_getElem hlt]; rfl
        obtain ⟨G2, x2, E2, r2⟩ := Y.yld _ i G1 H1 σ (ρS s) w H2 x1 Eh hy _ hd
        rw [List.drop_eq_getElem_cons hlt, compR] at q3
        generalize hx : (xs b)[i] = x at q3 r2
        have Eb : En K B' G2 H2 (wipe σ vs) (blot 0 vs (ρS s)) [] := E2.inB vs (hpl s) (hna s) (wipe_length σ vs) fun j hj => wipe_out hj
        refine ⟨B', x, s, hB, G2, Eb, r2, fun σ2 h2 l2 E3 => ?_⟩
        have l2' : σ2.length = σ.length := l2.trans (wipe_length σ vs)
        have k2 : ∀ j, j ∉ vs → σ2[j]? = σ[j]? := fun j hj => by
          rw [h2 j fun z => hj (hts j z), wipe_out hj]
        refine ⟨wipe_eq l2' k2, B', x, s, hB, G2, E3, ?_⟩
        unfold compF at q3
        have q4 := R.post_bind.mp (R.post_bind.mp q3)
        rw [hB]
        refine R.post_mono q4 fun d q5 G3 H3 x3 E3' => ?_
        cases hbn : bn d with
        | false =>
          rw [if_neg (by decide)]
          rw [hbn, if_neg (by decide)] at q5
          have Eo := E2.outB E3' x3 vs (hpl s) (hplB x s) (hna s) (hnaB x s) k2 l2'
          rw [hun x s s] at Eo
          have x13 := x2.trans x3
          have Ef := back G3 H3 σ _ [] x13 Eo (hna s)
          exact ⟨G3, s, acc, x1.trans x13, Ef, by omega, R.post_mono q5 fun r h w G4 H4 x4 E4 => h w G4 H4 (x13.trans x4) E4⟩
        | true =>
          rw [if_pos rfl]
          rw [hbn, if_pos rfl] at q5
          refine ⟨B', x, s, hB, G3, E3', ?_⟩
          rw [hB]
          refine R.post_mono (R.post_bind.mp q5) fun y q6 w2 G4 H4 x4 E4 => ?_
          obtain ⟨B2, hB2, E5, back2⟩ := E4.aside
          have Eo := E2.outB E5 (x3.trans x4) vs (hpl s) (hplB x _) (hna s) (hnaB x _) k2 l2'
          rw [hun x s (st y)] at Eo
          have x14 := x2.trans (x3.trans x4)
          have Ep := back2 G4 H4 σ _ [] (Ex.refl _) Eo (hna _)
          have Ef := back G4 H4 σ _ _ x14 Ep (hna _)
          obtain ⟨us, g1, g2, g3⟩ := Ef.appO (hna _)
          have hl : us.length = acc.length := by rw [g2, List.length_map]
          refine ⟨us, g1, by omega, G4, st y, acc ++ [v y], x1.trans x14, ?_, by rw [List.length_append]; simp; omega, R.post_mono q6 fun r h w G5 H5 x5 E5 => h w G5 H5 (x14.trans x5) E5⟩
          rw [List.map_append]
          exact g3
    · refine .inl ⟨Y.stop i H1 (by rw [hlen]; omega) (x1.trans E1.sub), ?_⟩
      rw [List.drop_eq_nil_of_le (by omega)] at q3
      exact q3 _ G1 H1 (Ex.refl _) E1
section
variable {X : Cx} {B : Base} {ρ : List Slot} {pos : Pos} {e a b tg it elt : Expr}
/-- such a comprehension, its items owned -/
theorem je_lcO {α S γ δ ε β0 : Type} {ifs : List Expr} {sc : Scope} {m : R β0} {xs : β0 → List α} {ea : α → D} {ρ1 : β0 → List Slot} (own : List (Str × Nat)) {ts : List Nat} (eo : γ → OT) (ρS : S → List Slot) (s0 : β0 → S) (ρB : α → S → List Slot) {c : α → S → R δ} {bn : δ → Bool} {me : α → S → R ε} (v : ε → γ) (st : ε → S)
    (hc : X.calm = true) (hN : X.N.Nodup) (hi : JI X B ρ tg it m (fun b => (xs b).map ea) ρ1) (ok : BlkOk X.N X.env.scope sc own) (hw : ∀ b, ρ1 b = ρS (s0 b))
    (hg : Blk X sc fun X' => ∀ B' : Base, B'.rs = B.rs → ∀ x s, JN X' B' (blot 0 (own.map (·.2)) (ρS s)) tg (ea x) ts (ρB x s))
    (ht : Blk X sc fun X' => ∀ B' : Base, B'.rs = B.rs → ∀ x s, JTs X' B' (ρB x s) ifs (c x s) bn)
    (he : Blk X sc fun X' => ∀ B' : Base, B'.rs = B.rs → ∀ x s, JE X' B' (ρB x s) elt (me x s) (fun y => .own 0 (eo (v y))) (fun y => ρB x (st y)))
    (hpl : ∀ s, plainAt 0 (own.map (·.2)) (ρS s) = true := by intro _; rfl) (hna : ∀ s, noAlis (ρS s) = true := by intro _; rfl) (hts : ∀ i ∈ ts, i ∈ own.map (·.2) := by decide) (hplB : ∀ x s, plainAt 0 (own.map (·.2)) (ρB x s) = true := by intro _ _; rfl)
    (hnaB : ∀ x s, noAlis (ρB x s) = true := by intro _ _; rfl) (hun : ∀ x s s', unblot 0 (own.map (·.2)) (ρS s) (ρB x s') = ρS s' := by intro _ _ _; rfl) (hs : ∀ x, foldedSetIterable it X.env x = pure x := by intro _; rfl) :
    JE X B ρ (.ListComp elt [⟨tg, it, ifs, 0⟩] sc pos) (m.bind fun b => (R.guard ((xs b).length ≤ sizeLine)).bind fun _ => compR (compF c bn me v st) (xs b) [] (s0 b)) (fun p => .own 0 (.lst (p.1.map eo))) (fun p => ρS p.2) := by
  refine PE_imp (pe_lc (own := own) hc hN hi ok (fun s H C cl fp => ?_) (fun s H C cl fp => ?_) (fun s H C cl fp => ?_) hs) fun σ H Q q => tlc_ofO (ts := ts) (ρB := ρB) (c := c) (bn := bn) (me := me) (v := v) (st := st) hw hpl hna hts hplB hnaB hun q
  · exact ⟨fun pins s σ H v u Q I r ⟨B', x, s', h, q⟩ => (hg _ _ _ _ _ B' h x s').run pins s σ H v u Q I r q⟩
  · exact ⟨fun pins s σ H Q I ⟨B', x, s', h, q⟩ => (ht _ _ _ _ _ B' h x s').run pins s σ H Q I q⟩
  · exact ⟨fun pins s σ H Q I ⟨B', x, s', h, q⟩ => (he _ _ _ _ _ B' h x s').run pins s σ H Q I q⟩
/-- and stored -/
theorem j1_setLcO (i : Nat) {y : Str} {py spos : Pos} {α S γ δ ε β0 : Type} {ifs : List Expr} {sc : Scope} {m : R β0} {xs : β0 → List α} {ea : α → D} {ρ1 : β0 → List Slot} (own : List (Str × Nat)) {ts : List Nat} (eo : γ → OT) (ρS : S → List Slot) (s0 : β0 → S) (ρB : α → S → List Slot) {c : α → S → R δ} {bn : δ → Bool} {me : α → S → R ε} (v : ε → γ) (st : ε → S)
    (hc : X.calm = true) (hN : X.N.Nodup) (hi : JI X B ρ tg it m (fun b => (xs b).map ea) ρ1) (ok : BlkOk X.N X.env.scope sc own) (hw : ∀ b, ρ1 b = ρS (s0 b))
    (hg : Blk X sc fun X' => ∀ B' : Base, B'.rs = B.rs → ∀ x s, JN X' B' (blot 0 (own.map (·.2)) (ρS s)) tg (ea x) ts (ρB x s))
    (ht : Blk X sc fun X' => ∀ B' : Base, B'.rs = B.rs → ∀ x s, JTs X' B' (ρB x s) ifs (c x s) bn)
    (he : Blk X sc fun X' => ∀ B' : Base, B'.rs = B.rs → ∀ x s, JE X' B' (ρB x s) elt (me x s) (fun y => .own 0 (eo (v y))) (fun y => ρB x (st y)))
    (hy : X.N[i]? = some y := by rfl) (hyl : X.env.scope.names.lookup y = some .local := by rfl) (hsw : swapsWith (.ListComp elt [⟨tg, it, ifs, 0⟩] sc pos) (some (.Name y py)) spos.line X.env = pure true := by exact sw_true rfl rfl rfl (by decide +kernel))
    (hpl : ∀ s, plainAt 0 (own.map (·.2)) (ρS s) = true := by intro _; rfl) (hna : ∀ s, noAlis (ρS s) = true := by intro _; rfl) (hts : ∀ i ∈ ts, i ∈ own.map (·.2) := by decide) (hplB : ∀ x s, plainAt 0 (own.map (·.2)) (ρB x s) = true := by intro _ _; rfl)
    (hnaB : ∀ x s, noAlis (ρB x s) = true := by intro _ _; rfl) (hun : ∀ x s s', unblot 0 (own.map (·.2)) (ρS s) (ρB x s') = ρS s' := by intro _ _ _; rfl) (hs : ∀ x, foldedSetIterable it X.env x = pure x := by intro _; rfl)
    (hlt : ∀ s, i < (ρS s).length := by intro _; exact of_decide_eq_true rfl) (hal : ∀ s, noAli i (ρS s) = true := by intro _; rfl) :
    J1 X B ρ (.Assign [.Name y py] (.ListComp elt [⟨tg, it, ifs, 0⟩] sc pos) spos) (m.bind fun b => (R.guard ((xs b).length ≤ sizeLine)).bind fun _ => compR (compF c bn me v st) (xs b) [] (s0 b)) (fun p => (ρS p.2).set i (.own 0 (.lst (p.1.map eo)))) := by
  have h1 := ps_setLc (X := X) (i := i) (own := own) (spos := spos) (py := py) (y := y) (elt := elt) (pos := pos) (g := fun w σ H Q => ∃ B' x s, B'.rs = B.rs ∧ tJN X.K B' (blot 0 (own.map (·.2)) (ρS s)) (ea x) ts (ρB x s) w σ H Q) (tt := fun σ H Q => ∃ B' x s, B'.rs = B.rs ∧ tJT X.K B' (ρB x s) (c x s) bn (fun _ => ρB x s) σ H Q)
    (te := fun σ H Q => ∃ B' x s, B'.rs = B.rs ∧ tJ X.K B' (ρB x s) (me x s) (fun y => .own 0 (eo (v y))) (fun y => ρB x (st y)) σ H Q) hc hN hy hyl hsw hi ok
    (fun s H C cl fp => ⟨fun pins s σ H v u Q I r ⟨B', x, s', h, q⟩ => (hg _ _ _ _ _ B' h x s').run pins s σ H v u Q I r q⟩)
    (fun s H C cl fp => ⟨fun pins s σ H Q I ⟨B', x, s', h, q⟩ => (ht _ _ _ _ _ B' h x s').run pins s σ H Q I q⟩)
    (fun s H C cl fp => ⟨fun pins s σ H Q I ⟨B', x, s', h, q⟩ => (he _ _ _ _ _ B' h x s').run pins s σ H Q I q⟩) hs
  refine PS_imp h1 fun D σ H ⟨G, E, q⟩ => ?_
  show tLc _ _ _ _ _ σ H (fun x H1 => D.nx (σ.set i (some x)) H1)
  refine tlc_ofO (ts := ts) (ρB := ρB) (c := c) (bn := bn) (me := me) (v := v) (st := st) (eo := eo) (ρS := ρS) (s0 := s0) hw hpl hna hts hplB hnaB hun ⟨G, E, R.post_mono q fun p q1 w G' H' x E' => q1 _ G' H' x (E'.set (hlt _) (fun _ _ z => nomatch z) (hal _))⟩
end
section
variable {K : PySem.W.Frag} {B B' : Base} {G G' H H' G1 G2 H1 : Hp} {σ σ1 : L2.St} {ρ ρ1 : List Slot}
/-- an owned thing put behind the items of a slot's list -/
theorem En.appS {i l : Nat} {os : List OT} {w : V} {u : OT} (E : En K B G H σ ρ [(w, .own 0 u)]) (h : ρ[i]? = some (.own l (.lst os))) (hal : noAlis ρ = true) : ∃ p vs, σ[i]? = some (some (.ref p)) ∧ H p = some (.lst vs) ∧ vs.length = os.length ∧ En K B G (upd H p (.lst (vs ++ [w]))) σ (ρ.set i (.own l (.lst (os ++ [u])))) [] := by
  obtain ⟨A0, c, n, g⟩ := E.own
  cases c with
  | @cons _ _ A1 _ _ A2 c1 cr =>
    cases c1 with
    | own hU hl2 hp2 =>
      obtain ⟨v, A, A3, e1, hO, ⟨hl, hp⟩, c2, pm⟩ := Cells.take1 (show Cells K B G H σ ρ A2 from cr) h
      cases hO with
      | @lst p vs _ A5 hH hall =>
        have n1 := List.nodup_append.mp n
        have n2 := List.nodup_append.mp (pm.nodup_iff.mp n1.2.1)
        have np : ∀ a, a ∈ A1 → a ≠ p := fun a m z => n1.2.2 a m p (pm.mem_iff.mpr (by simp)) z
        have np5 : ∀ a, a ∈ A5 → a ≠ p := fun a m z => (List.nodup_cons.mp n2.1).1 (by rw [← z]; exact m)
        have np3 : ∀ a, a ∈ A3 → a ≠ p := fun a m z => n2.2.2 p (by simp) a m z.symm
        have hG : G p = none := g p (List.mem_append_right _ (pm.mem_iff.mpr (by simp)))
        have c3 : Cells K B G (upd H p (.lst (vs ++ [w]))) σ (ρ.set i .non) A3 := c2.ex (Ex.refl G) fun a m u e => by
          rw [upd_ne (np3 a m)]
          exact e
        have hO2 : Own K G (upd H p (.lst (vs ++ [w]))) (.ref p) (.lst (os ++ [u])) (p :: (A5 ++ (A1 ++ []))) := .lst upd_same (OwnAll.append (hall.ex (Ex.refl G) fun a m u e => by
          rw [upd_ne (np5 a m)]
          exact e) (.cons (hU.ex (Ex.refl G) fun a m u e => by
          rw [upd_ne (np a m)]
          exact e) .nil))
        have hi : i < ρ.length := (List.getElem?_eq_some_iff.mp h).1
        obtain ⟨A8, c8, p8⟩ := c3.put1 (i := i) (l := l) (o := .lst (os ++ [u])) (v := .ref p) (A1 := p :: (A5 ++ (A1 ++ []))) (by rw [List.getElem?_set_self hi]) e1 hO2 ⟨fun a m => by
          rcases List.mem_cons.mp m with rfl | m
          · exact hl _ (by simp)
          · rcases List.mem_append.mp m with m | m
            · exact hl a (by simp [m])
            · exact .inr ((hl2 a (by simpa using m)).resolve_left (by rw [B.m0]; exact fun z => nomatch z)), hp⟩
        rw [List.set_set] at c8
        have perm : (p :: (A5 ++ (A1 ++ [])) ++ A3).Perm (A1 ++ A2) := by
          have q1 : (A1 ++ A2).Perm (A1 ++ ((p :: A5) ++ A3)) := pm.append_left A1
          have q2 : (A1 ++ ((p :: A5) ++ A3)).Perm (p :: (A5 ++ (A1 ++ [])) ++ A3) := by
            rw [← List.append_assoc]
            refine List.Perm.append_right A3 ?_
            rw [List.append_nil]
            exact List.perm_append_comm (l₁ := A1) (l₂ := p :: A5)
          exact (q1.trans q2).symm
        refine ⟨p, vs, e1, hH, hall.len, ⟨E.anc.put hG ((hl p (by simp)).elim (fun z => .inl ⟨l, z⟩) .inr) _, ⟨A8, c8, p8.nodup_iff.mpr (perm.nodup_iff.mpr n), fun a m => g a (perm.mem_iff.mp (p8.mem_iff.mp m))⟩, by rw [List.length_set]; exact E.len, fun k j q e => ?_⟩⟩
        by_cases hk : i = k
        · subst hk
          rw [List.getElem?_set_self hi] at e
          cases e
        · rw [List.getElem?_set_ne hk] at e
          exact absurd e (noAlis_get hal)
end
section
variable {X : Cx} {B : Base} {ρ : List Slot} {pos : Pos} {e : Expr} {es : List Expr}
/-- xs.append(an owned thing) -/
theorem je_appO (i : Nat) {x : Str} {px ap : Pos} {l l0 : Nat} {os0 : List OT} {β : Type} (os : β → List OT) {m : R β} {y : β → OT} {ρ' : β → List Slot} (he : JE X B ρ e m (fun b => .own 0 (y b)) ρ') (h : ∀ b, (ρ' b)[i]? = some (.own l (.lst (os b))) := by intro _; rfl) (hal : ∀ b, noAlis (ρ' b) = true := by intro _; rfl)
    (h0 : ρ[i]? = some (.own l0 (.lst os0)) := by rfl) (hN : X.N[i]? = some x := by rfl) (hv : Vis X.env.scope x := by first | exact Or.inl rfl | exact Or.inr (Or.inl rfl) | exact Or.inr (Or.inr rfl))
    (hd : (x == ("__debug__" : Str)) = false := by decide) (hcd : (x == ("__classdict__" : Str)) = false := by decide) (hst : starEach [e] X.env = (false, eval e X.env) :: starEach [] X.env := by rfl)
    (hbase : attributeBase (.Name x px) "append" X.env (eval (.Name x px) X.env) = eval (.Name x px) X.env := by rfl)
    (hone : ((backTo pos (starEach [e] X.env)).all (fun x => !x.1) && (backToKw pos (keywordEach [] X.env)).all (fun x => x.1.isSome) && decide ([e].length + ([] : List Keyword).length + (if ([] : List Keyword).isEmpty then 0 else 1) < 30)) = true := by rfl)
    (hline : (ap.endLine == pos.line) = true := by rfl) (hnil : (backTo pos (starEach [] X.env)).any (·.1) = false := by rfl) :
    JE X B ρ (.Call (.Attribute (.Name x px) "append" ap) [e] [] pos) (m.bind fun b => (R.guard ((os b).length < sizeLine)).bind fun _ => .ok b) (fun _ => .val .none) (fun b => (ρ' b).set i (.own l (.lst (os b ++ [y b])))) :=
  PE_imp (pe_bm PySem.F.plainAttrs_list PySem.F.slot_list_append PySem.F.type_list_append mt_append (pv (X := X) (pos := px) i hN hv hd hcd) (pa_cons he pa_nil hst) hbase hone hline hst hnil) fun σ H Q ⟨G, E, q⟩ => by
    obtain ⟨A, c, n, g⟩ := E.own
    obtain ⟨w, A1, A2, e1, hO, hl, c2, pm⟩ := Cells.take1 (show Cells X.K B G H σ ρ A from c) h0
    cases hO with
    | @lst a vs _ A3 ha hall =>
      refine ⟨.ref a, e1, .inl ⟨rfl, _, .inl (.inl ha)⟩, G, E, R.post_mono (R.post_bind.mp q) (fun b hb => ?_)⟩
      intro v G1 H1 x1 E1
      obtain ⟨p, vs1, g1, g2, g3, g4⟩ := E1.appS (h b) (hal b)
      have ep : p = a := by
        have z := g1.symm.trans e1
        injection z with z
        injection z with z
        injection z
      subst ep
      obtain ⟨hz, q⟩ := R.post_guard (R.post_bind.mp hb)
      exact ⟨p, vs1, v, rfl, rfl, g2, by omega, q _ G1 _ x1 (g4.push .non)⟩
/-- items that are owned things -/
def tJAo (K : PySem.W.Frag) (B : Base) (ρ : List Slot) {β : Type} (m : R β) (os : β → List OT) (ρ' : β → List Slot) : TA := fun σ H Q =>
  ∃ G, En K B G H σ ρ [] ∧ m.post (fun b => ∀ vs G' H', Ex G G' → vs.length = (os b).length → En K B G' H' σ (ρ' b) (vs.zip ((os b).map (Slot.own 0))) → Q vs H') B.rs
def JAo (X : Cx) (B : Base) (ρ : List Slot) (es : List Expr) {β : Type} (m : R β) (os : β → List OT) (ρ' : β → List Slot) : Prop := PA X es (tJAo X.K B ρ m os ρ')
theorem jao_nil : JAo X B ρ [] (.ok ()) (fun _ => []) (fun _ => ρ) := PA_imp pa_nil fun σ H Q ⟨G, E, q⟩ => q [] G H (Ex.refl G) rfl E
theorem jao_cons {α β : Type} {ma : R α} {xo : α → OT} {ρa : α → List Slot} {mb : α → R β} {os : α → β → List OT} {ρ' : α → β → List Slot} (h : JE X B ρ e ma (fun x => .own 0 (xo x)) ρa) (t : ∀ B' : Base, B'.rs = B.rs → ∀ x, JAo X B' (ρa x) es (mb x) (os x) (ρ' x)) (ha : ∀ x y, noAlis (ρ' x y) = true := by intro _ _; rfl)
    (hst : starEach (e :: es) X.env = (false, eval e X.env) :: starEach es X.env := by rfl) : JAo X B ρ (e :: es) (ma.bind fun x => (mb x).bind fun y => .ok (x, y)) (fun p => xo p.1 :: os p.1 p.2) (fun p => ρ' p.1 p.2) := by
  have t' : PA X es (fun σ H Q => ∃ B' x, B'.rs = B.rs ∧ tJAo X.K B' (ρa x) (mb x) (os x) (ρ' x) σ H Q) := ⟨fun ps pins s σ H Q I ⟨B', x, hB, q⟩ => (t B' hB x).run ps pins s σ H Q I q⟩
  exact PA_imp (pa_cons h t' hst) fun σ H Q ⟨G, E, q⟩ => ⟨G, E, R.post_mono (R.post_bind.mp q) fun x k v G1 H1 x1 E1 => by
    obtain ⟨B', hB, E2, back⟩ := E1.aside
    refine ⟨B', x, hB, G1, E2, ?_⟩
    rw [hB]
    exact R.post_mono (R.post_bind.mp k) fun y k vs G2 H2 x2 hl E3 => k (v :: vs) G2 H2 (x1.trans x2) (by simpa using hl) (back G2 H2 σ _ _ x2 E3 (ha x y))⟩
theorem cells_zip {K : PySem.W.Frag} {G H : Hp} {σ : L2.St} {ρ : List Slot} : ∀ {vs : List V} {os : List OT} {A : List Addr}, vs.length = os.length → Cells K B G H ((vs.zip (os.map (Slot.own 0))).map (fun p => some p.1) ++ σ) ((vs.zip (os.map (Slot.own 0))).map (·.2) ++ ρ) A →
    ∃ A1 A2, OwnAll K G H vs os A1 ∧ Cells K B G H σ ρ A2 ∧ A = A1 ++ A2 ∧ ∀ a ∈ A1, B.H0 a = none
  | [], [], A, _, c => ⟨[], A, .nil, c, rfl, fun _ m => nomatch m⟩
  | v :: vs, o :: os, _, h, .cons c r => by
    obtain ⟨A1, A2, h1, h2, h3, h4⟩ := cells_zip (vs := vs) (os := os) (by simpa using h) r
    cases c with
    | own hO hl hp =>
      subst h3
      refine ⟨_ ++ A1, A2, .cons hO h1, h2, by rw [List.append_assoc], fun a m => ?_⟩
      rcases List.mem_append.mp m with m | m
      · exact (hl a m).resolve_left (by rw [B.m0]; exact fun z => nomatch z)
      · exact h4 a m
theorem En.newO {K : PySem.W.Frag} {G H : Hp} {σ : L2.St} {ρ : List Slot} {vs : List V} {os : List OT} (hl : vs.length = os.length) (E : En K B G H σ ρ (vs.zip (os.map (Slot.own 0)))) {p : Addr} (hp : H p = none) (hal : noAlis ρ = true) : En K B G (upd H p (.lst vs)) σ ρ [(.ref p, .own 0 (.lst os))] := by
  obtain ⟨A, c, n, g⟩ := E.own
  obtain ⟨A1, A2, h1, h2, h3, h4⟩ := cells_zip hl c
  subst h3
  have hn : ∀ a u, H a = some u → upd H p (.lst vs) a = some u := fun a u e => by
    rw [upd_ne (ne_of_none e hp)]
    exact e
  have hpA : p ∉ A1 ++ A2 := fun m => by
    obtain ⟨u, e⟩ := c.there p m
    rw [hp] at e
    cases e
  have h0 := E.fresh hp
  refine ⟨E.anc.put (E.sub.back hp) (.inr h0) _, ⟨(p :: A1) ++ A2, .cons (.own (.lst upd_same (h1.ex (Ex.refl G) fun a _ u e => hn a u e)) (fun a m => ?_) (.inl rfl)) (h2.ex (Ex.refl G) fun a _ u e => hn a u e), List.nodup_cons.mpr ⟨hpA, n⟩, fun a m => ?_⟩, E.len, fun i j q e => absurd e (noAlis_get hal)⟩
  · rcases List.mem_cons.mp m with rfl | m
    · exact .inr h0
    · exact .inr (h4 a m)
  · rcases List.mem_cons.mp m with rfl | m
    · exact E.sub.back hp
    · exact g a m
/-- a list of owned things -/
theorem je_lstO {β : Type} {m : R β} {os : β → List OT} {ρ' : β → List Slot} (h : JAo X B ρ es m os ρ') (hl : ∀ b, (os b).length ≤ 1000 := by intro _; exact of_decide_eq_true rfl) (ha : ∀ b, noAlis (ρ' b) = true := by intro _; rfl) : JE X B ρ (.List es pos) m (fun b => .own 0 (.lst (os b))) ρ' :=
  PE_imp (pe_lst h) fun σ H Q ⟨G, E, q⟩ => ⟨G, E, R.post_mono q fun b k vs G1 H1 x1 hlen E1 => by
    refine ⟨?_, fun p hp => k _ G1 _ x1 (E1.newO hlen hp (ha b))⟩
    rw [hlen]
    exact Nat.le_of_lt (small1000 (hl b))⟩
end
end DL

/-! DL16: more that is walked -/
namespace DL
open PySem PySem.Spec L2
def enumL {α : Type} (xs : List α) : List (Int × α) := xs.zipIdx.map fun p => ((p.2 : Int), p.1)
theorem enumL_len {α : Type} (xs : List α) : (enumL xs).length = xs.length := by
  rw [enumL, List.length_map, List.length_zipIdx]
theorem enumL_get {α : Type} {xs : List α} {i : Nat} : (enumL xs)[i]? = (xs[i]?).map fun x => ((i : Int), x) := by
  rw [enumL, List.getElem?_map, List.getElem?_zipIdx]
  cases xs[i]? with
  | none => rfl
  | some x => simp
section
variable {X : Cx} {B : Base} {ρ : List Slot} {pos : Pos} {e tg it : Expr}
theorem ji_enum {α β : Type} {m : R β} {xs : β → List α} {f : α → D} {ρ' : β → List Slot} {p tpos : Pos} {elts : List Expr} {kk : Nat} (hg : Gl X "enumerate") (hm : X.mg "enumerate" = none) (h : JE X B ρ e m (fun b => .val (eL f (xs b))) ρ') (hst : starEach [e] X.env = (false, eval e X.env) :: starEach [] X.env := by rfl) (hs : starEach [e] X.env = [(false, eval e X.env)] := by rfl) :
    JI X B ρ (.Tuple elts kk tpos) (.Call (.Name "enumerate" p) [e] [] pos) m (fun b => (enumL (xs b)).map (eP2 D.int f)) ρ' :=
  PI_imp (pi_enum hg hm (pa_cons h pa_nil hst) hs) fun σ H Q ⟨G, E, q⟩ => ⟨G, E, R.post_mono q fun b q1 v G' H' x E' => by
    obtain ⟨a, vs, rfl, hS, hr⟩ := E'.top.lst_inv
    have hS' : SqL X.K G' a vs := .inl hS
    have hl : vs.length = (xs b).length := by rw [hr.len, List.length_map]
    have hl2 : ((enumL (xs b)).map (eP2 D.int f)).length = vs.length := by rw [List.length_map, enumL_len, hl]
    refine ⟨a, vs, rfl, E'.sub.l hS', q1 _ G' H' x E'.pop ⟨fun i H hi e => ⟨vs, vs[i]'(by rw [← hl2]; exact hi), e.l hS', List.getElem?_eq_getElem _⟩, fun i H hi e => ⟨vs, e.l hS', by rw [← hl2]; exact hi⟩, fun B i G1 H1 σ ρ w H' e E hy d hd => ?_⟩⟩
    obtain ⟨T, y, rfl, hT, rfl, hy⟩ := hy
    have hyi := hy vs ((e.trans E.sub).l hS')
    obtain ⟨d2, h1, h2⟩ := hr.getV hyi
    rw [List.getElem?_map, enumL_get] at hd
    rw [List.getElem?_map] at h1
    cases hx : (xs b)[i]? with
    | none =>
      rw [hx] at h1
      cases h1
    | some z =>
      rw [hx] at h1 hd
      injection h1 with h1
      injection hd with hd
      subst h1
      subst hd
      have e1 := Ex.new (o := HO.tup [.int (i : Nat), y]) (E.sub.back hT)
      exact ⟨_, e1, E.new hT _, .tup (.inl (.inl upd_same)) (.cons (.int _) (.cons (h2.ex (e.trans e1)) .nil))⟩⟩
end
end DL

/-! DL17: enumerate of a tuple -/
namespace DL
open PySem PySem.Spec L2
open Sem (wp)
section
variable {prog : Program} {w : World} {A : Around} {E : Value → Shared → Prop} {s : Shared}
theorem nextOf_tup_item {it t : Addr} {i : Nat} {items : Array Value} {x : Value} {Q : Value → Shared → Prop} (ti : s.heap.IsTupleIter it t i) (tt : s.heap.IsTuple t items) (tx : items[i]? = some x)
    (k : ∀ h', h'.IsTupleIter it t (i + 1) → Heap.SameBut it s.heap h' → Q x { s with heap := h' }) : wpAny (model prog w) A (Builtin.SmallTypes.nextOf (.ref it)) Q E s := by
  obtain ⟨o, go, gc, gd⟩ := id ti
  obtain ⟨ol, gl, _, nl, gdl⟩ := tt
  unfold Builtin.SmallTypes.nextOf
  refine wpAny_bind (wpAny_callSpecial?_slot (name := Str.ofString "__next__") ti.typeIs F.slot_tuple_iterator_next (wpAny_call_entry F.slot_tuple_iterator_next ti.typeIs F.entry_tuple_iterator_next ?_ (F.args_tuple_iterator_next_1 _)))
  show wpAny _ _ (field (.ref it) 0 >>= _) _ _ _
  refine wpAny_bind (wpAny_field go gd (x := .ref t) rfl ?_)
  show wpAny _ _ (if (Value.ref t == Value.none) = true then _ else _) _ E _
  rw [if_neg (show ¬ ((Value.ref t == Value.none) = true) by exact Bool.false_ne_true)]
  show wpAny _ _ (field (.ref it) 1 >>= _) _ _ _
  refine wpAny_bind (wpAny_field go gd (x := .int i 0) rfl ?_)
  show wpAny _ _ (seqItems? (.ref t) >>= _) _ E _
  refine wpAny_bind (wpAny_seqItems gl gdl ?_)
  simp only [Int.toNat_natCast, tx]
  refine wpAny_bind (wpAny_setField go gd (by simp) (wpAny_pure ⟨x, rfl, wpAny_pure (k _ ?_ (Heap.SameBut.update ..))⟩))
  exact ⟨_, Heap.get?_update_self _ go (Obj.isFreed_of_fields (Obj.data_mapFields gd _)), (Obj.cls_mapFields ..).trans gc, by rw [Obj.data_mapFields gd]; simp [rawInt]⟩
theorem nextOf_tup_end {it t : Addr} {i : Nat} {items : Array Value} {Q : Value → Shared → Prop} (hh : A.handled = none) (ti : s.heap.IsTupleIter it t i) (tt : s.heap.IsTuple t items) (tx : items[i]? = none)
    (k : ∀ h' e, Heap.ExtBut it s.heap h' → (∃ o, h'.get? e = some o ∧ o.cls = .type "StopIteration") → E (.ref e) { s with heap := h' }) : wpAny (model prog w) A (Builtin.SmallTypes.nextOf (.ref it)) Q E s := by
  obtain ⟨o, go, gc, gd⟩ := id ti
  obtain ⟨ol, gl, _, nl, gdl⟩ := tt
  unfold Builtin.SmallTypes.nextOf
  refine wpAny_bind (wpAny_callSpecial?_slot (name := Str.ofString "__next__") ti.typeIs F.slot_tuple_iterator_next (wpAny_call_entry F.slot_tuple_iterator_next ti.typeIs F.entry_tuple_iterator_next ?_ (F.args_tuple_iterator_next_1 _)))
  show wpAny _ _ (field (.ref it) 0 >>= _) _ _ _
  refine wpAny_bind (wpAny_field go gd (x := .ref t) rfl ?_)
  show wpAny _ _ (if (Value.ref t == Value.none) = true then _ else _) _ E _
  rw [if_neg (show ¬ ((Value.ref t == Value.none) = true) by exact Bool.false_ne_true)]
  show wpAny _ _ (field (.ref it) 1 >>= _) _ _ _
  refine wpAny_bind (wpAny_field go gd (x := .int i 0) rfl ?_)
  show wpAny _ _ (seqItems? (.ref t) >>= _) _ E _
  refine wpAny_bind (wpAny_seqItems gl gdl ?_)
  simp only [Int.toNat_natCast, tx]
  refine wpAny_bind (wpAny_rule (wpAny_bind (wpAny_setField go gd (by simp) ?_)))
  show wpAny _ _ (newExc (.type "StopIteration") [] >>= _) _ E _
  refine wpAny_bind ?_
  simp only [newExc, newTuple]
  refine wpAny_bind (wpAny_newObj_type ?_ (by size_fits))
  refine wpAny_bind (m := firstArgMember _ _) (wpAny_of_eq (a := Value.none) (by first | exact rfl | (simp only [firstArgMember]; rfl)) ?_)
  refine wpAny_newObj_type ?_ (by size_fits)
  simp only [raiseNew]
  refine wpAny_bind (wpAny_handled ?_)
  first | rw [show A.in1.handled = none by exact hh] | rw [hh]
  refine wpAny_bind (wpAny_pure (wpAny_throw ?_))
  exact k _ _ (((Heap.SameBut.update ..).extBut.push _).push _) ⟨_, by exact Heap.get?_push_size _ rfl, rfl⟩
end
theorem drawsT {prog : Program} {w : World} {A : Around} (hh : A.handled = none) (it t : Addr) (hne : t ≠ it) (items : Array Value) :
    Draws prog w A it [it, t] items.size (fun i v => items[i]? = some v) (fun i h => h.IsTupleIter it t i ∧ h.IsTuple t items) where
  live := fun _ _ st => let ⟨o, go, _⟩ := st.1; ⟨o, go⟩
  frame := fun _ _ _ st hk => ⟨let ⟨o, go, r⟩ := st.1; ⟨o, hk it (by simp) o go, r⟩, let ⟨o, go, r⟩ := st.2; ⟨o, hk t (by simp) o go, r⟩⟩
  item := fun i s Q E hi st hQ => nextOf_tup_item st.1 st.2 (x := items[i]) (by simp [hi]) fun h' ti hs => hQ _ h' s.toks (by simp [hi]) ⟨ti, st.2.extBut hs.extBut hne⟩ hs
  done := fun s Q E st hE => nextOf_tup_end hh st.1 st.2 (by simp) hE
theorem meets_enumT (l : Addr) (items : Array Value) (n : Nat) (dct : Option Addr) (sl : Array (Option Value)) : Meets (Builtin.«enumerate.__new__» ⟨[.type "enumerate", .ref l], []⟩)
    (fun _ R s => s.heap.get? l = some { cls := .type "tuple", dict := dct, data := .seq items n, slots := sl } ∧
      R (.ok (.ret (.ref (s.heap.push { cls := .type "tuple_iterator", data := .fields #[.ref l, .int 0 0] }).objs.size))) { s with heap := (s.heap.push { cls := .type "tuple_iterator", data := .fields #[.ref l, .int 0 0] }).push { cls := .type "enumerate", data := .fields #[.none, .bool false, .ref s.heap.objs.size, rawInt 0, .none, .none] } }) :=
  .of_wp fun prog w A R s h => by
    obtain ⟨hp, g, d, tk, os⟩ := s
    obtain ⟨gl, h⟩ := h
    have subE := sub_enumerate
    have tup : Heap.IsTuple (Shared.heap ⟨hp, g, d, tk, os⟩) l items := ⟨_, gl, rfl, n, rfl⟩
    wp_walk using AutoSeq1.wpAny_loadPart' gl
    refine wpAny_stack_any fun st => wpAny_pure ?_
    split
    · rename_i c _ _ _ _ _
      cases (c == Value.type "enumerate")
      · wp_walk using AutoSeq1.wpAny_loadPart' gl, wpAny_pyIter_tuple tup
        exact ⟨_, rfl, h⟩
      · wp_walk using AutoSeq1.wpAny_loadPart' gl, wpAny_pyIter_tuple tup
        exact ⟨_, rfl, h⟩
    · wp_walk using AutoSeq1.wpAny_loadPart' gl, wpAny_pyIter_tuple tup
      exact ⟨_, rfl, h⟩
section
variable {prog : Program} {w : World} {A : Around} {E : Value → Shared → Prop} {s : Shared}
theorem call_enumT {l : Addr} {items : Array Value} {Q : Value → Shared → Prop} (tt : s.heap.IsTuple l items)
    (k : ∀ h', IsEnum h' (s.heap.objs.size + 1) s.heap.objs.size 0 .none → h'.IsTupleIter s.heap.objs.size l 0 → (∀ b o, s.heap.get? b = some o → h'.get? b = some o) → Q (.ref (s.heap.objs.size + 1)) { s with heap := h' }) :
    wpAny (model prog w) A (call (.type "enumerate") [.ref l]) Q E s := by
  obtain ⟨⟨c, dct, dt, sl⟩, gl, gc, n, gd⟩ := tt
  replace gc : c = .type "tuple" := gc
  replace gd : dt = .seq items n := gd
  subst gc gd
  refine callType_new F.called_enumerate (by decide) (F.typeCall_enumerate_1 _) (F.newCall_enumerate_1 _) (fun obj => F.args_object_init_2 obj _) F.entry_enumerate_new (meets_enumT l items n dct sl) ⟨gl, ?_⟩
  have sz : (s.heap.push { cls := .type "tuple_iterator", data := .fields #[.ref l, .int 0 0] }).objs.size = s.heap.objs.size + 1 := Heap.size_push ..
  show _ ∧ _
  rw [sz]
  have ge : IsEnum ((s.heap.push { cls := .type "tuple_iterator", data := .fields #[.ref l, .int 0 0] }).push { cls := .type "enumerate", data := .fields #[.none, .bool false, .ref s.heap.objs.size, rawInt 0, .none, .none] }) (s.heap.objs.size + 1) s.heap.objs.size 0 .none := by
    have q := Heap.get?_push_size (s.heap.push { cls := .type "tuple_iterator", data := .fields #[.ref l, .int 0 0] }) (o := { cls := .type "enumerate", data := .fields #[.none, .bool false, .ref s.heap.objs.size, rawInt 0, .none, .none] }) rfl
    rw [sz] at q
    exact q
  exact ⟨⟨_, ge, rfl⟩, k _ ge ⟨_, Heap.get?_push_of_some _ (Heap.get?_push_size _ rfl), rfl, rfl⟩ fun b o x => Heap.get?_push_of_some _ (Heap.get?_push_of_some _ x)⟩
end
/-- a tuple's items in new pairs -/
def IteT (K : PySem.W.Frag) (a : Addr) (n : Nat) : It :=
  ⟨fun i H => ∃ (xs : List V) (x : V), SqT K H a xs ∧ xs.length = n ∧ xs[i]? = some x, fun i H v H' => ∃ T x, v = .ref T ∧ H T = none ∧ H' = upd H T (.tup [.int (i : Nat), x]) ∧ ∀ xs, SqT K H a xs → xs[i]? = some x, fun i H => ∃ xs : List V, SqT K H a xs ∧ xs.length = n ∧ n ≤ i⟩
theorem turn_enumT {P : Program} {w : World} {K : PySem.W.Frag} {elts : List Expr} {kk : Nat} {tpos : Pos} (a e it : Addr) (n : Nat) :
    Turn P w K (.Tuple elts kk tpos) (IteT K a n) [e, it] e (fun i h => (∃ old, IsEnum h e it ((i : Nat) : Int) old) ∧ h.IsTupleIter it a i ∧ e ≠ it ∧ i ≤ n) where
  mem := by simp
  obj := fun i h st b hb => by
    obtain ⟨⟨old, ge⟩, ⟨o, go, gc, gd⟩, _⟩ := st
    rcases (show b = e ∨ b = it by simpa using hb) with z | z
    · subst z
      exact ⟨_, ge, fun v q => nomatch q⟩
    · subst z
      exact ⟨o, go, fun v q => by
        rw [gd] at q
        cases q⟩
  keep := fun i h h' st k => by
    obtain ⟨⟨old, ge⟩, ⟨o, go, gr⟩, hne, hi⟩ := st
    exact ⟨⟨old, k e (by simp) _ ge⟩, ⟨o, k it (by simp) o go, gr⟩, hne, hi⟩
  item := by
    intro X hP hw hK hc i pins s σ H E I hf st hg
    subst hP hw hK
    obtain ⟨⟨old, ge⟩, ti, hne, _⟩ := st
    obtain ⟨xs, x, hq, hn, hx⟩ := hg
    obtain ⟨its, rv, tt, _⟩ := I.tuple hq
    have tt : s.heap.IsTuple a its.toArray := tt
    obtain ⟨u, hu, ru⟩ := rv.get hx
    have hel : e < s.heap.objs.size := Heap.lt_size ge
    have hil : it < s.heap.objs.size := by
      obtain ⟨_, q, _⟩ := ti
      exact Heap.lt_size q
    have ait : a ≠ it := fun z => by
      obtain ⟨o, go, gc, _⟩ := tt
      obtain ⟨o2, go2, gc2, _⟩ := ti
      subst z
      rw [go] at go2
      injection go2 with go2
      subst go2
      rw [gc] at gc2
      injection gc2 with q
      exact absurd q (by decide)
    have ae : e ≠ a := fun z => by
      obtain ⟨o, go, gc, _⟩ := tt
      subst z
      rw [show s.heap.get? e = _ from ge] at go
      injection go with go
      subst go
      injection gc with q
      exact absurd q (by decide)
    have hlen : xs.length = its.length := rv.length
    have hi : i < its.toArray.size := by
      have := (List.getElem?_eq_some_iff.mp hx).1
      simpa [← hlen] using this
    refine wpAny_pyNext_enum_itemD (drawsT (A := X.A.in1) (by exact I.ok.hd hc) it a ait its.toArray) ge ⟨ti, tt⟩ hi hne (by simp [hne, ae]) fun y h' tk hy ho hst' hT hsz hk => ?_
    have ey : y = u := by
      have h1 : its.toArray[i]? = some y := hy
      have h2 : its[i]? = some y := by simpa using h1
      rw [hu] at h2
      injection h2 with h2
      exact h2.symm
    subst ey
    refine ⟨_, rfl, wpAny_letOwnedTupleGo_enum (s := { s with heap := h', toks := tk + 1 }) ho fun h'' he' sb => ?_⟩
    have hT2 : h''.get? s.heap.objs.size = some { cls := .type "tuple", data := .seq #[.int i tk, y] } := (sb.2 _ (Nat.ne_of_gt hel)).trans hT
    have fresh : ObjOk X.prog X.w (upd H s.heap.objs.size (.tup [.int (i : Nat), x])) h'' s.heap.objs.size (.tup [.int (i : Nat), x]) := ⟨show 2 ≤ sizeLine by decide, [.int i tk, y], .cons ⟨_, rfl⟩ (.cons ru .nil), ⟨_, hT2, rfl, _, rfl⟩⟩
    have J : Inv X pins σ (upd H s.heap.objs.size (.tup [.int (i : Nat), x])) { s with heap := h'', toks := tk + 1 } :=
      I.turnedNew (ch := [e, it]) (fun b ob hb q => (sb.2 b fun z => hb (by simp [z])).trans (hk b ob (fun z => hb (by simp [z])) (fun z => hb (by simp [z])) q)) hf (Nat.le_refl _) fresh
    refine ⟨.ref s.heap.objs.size, _, J, rfl, ⟨_, x, rfl, I.hok.fresh (Nat.le_refl _), rfl, fun ys hy => by rw [I.tuple_inj hy hq]; exact hx⟩, ⟨⟨y, ?_⟩, ?_, hne, ?_⟩, fun b hb => ?_⟩
    · rw [show ((i + 1 : Nat) : Int) = (i : Int) + 1 by omega]
      exact he'
    · obtain ⟨o, go, gr⟩ := hst'.1
      exact ⟨o, (sb.2 it (Ne.symm hne)).trans go, gr⟩
    · have := (List.getElem?_eq_some_iff.mp hx).1
      omega
    · have hb' : b < s.heap.objs.size := by
        rcases (show b = e ∨ b = it by simpa using hb) with z | z <;> (rw [z]; assumption)
      rw [upd_ne (Nat.ne_of_lt hb')]
      exact (hf b hb).1
  done := by
    intro X hP hw hK hc i pins s σ H E I hf st hg
    subst hP hw hK
    obtain ⟨⟨old, ge⟩, ti, hne, hin⟩ := st
    obtain ⟨xs, hq, hn, hx⟩ := hg
    obtain ⟨its, rv, tt, _⟩ := I.tuple hq
    have tt : s.heap.IsTuple a its.toArray := tt
    have ait : a ≠ it := fun z => by
      obtain ⟨o, go, gc, _⟩ := tt
      obtain ⟨o2, go2, gc2, _⟩ := ti
      subst z
      rw [go] at go2
      injection go2 with go2
      subst go2
      rw [gc] at gc2
      injection gc2 with q
      exact absurd q (by decide)
    have hlen : xs.length = its.length := rv.length
    have ei : i = its.toArray.size := by
      rw [List.size_toArray]
      omega
    subst ei
    obtain ⟨f0, f1, f2, f3, f4, f5⟩ := hf it (by simp)
    exact wpAny_pyNext_enum_endD (drawsT (A := X.A.in1) (by exact I.ok.hd hc) it a ait its.toArray) ge ⟨ti, tt⟩ fun h' eb => ⟨rfl, I.turned (t' := s.toks) (fun b o hb q => eb b o hb q) f0 f1 f3 f4 f5⟩
  self := fun A i s Q E st h => by
    obtain ⟨⟨_, ge⟩, _⟩ := st
    exact wpAny_pyIter_enum ge h
end DL

/-! DL18: walks over enumerate of tuples -/
namespace DL
open PySem PySem.Spec PyProof.Rows L2
def iEnumT (K : PySem.W.Frag) (ta : TA) : TI := fun σ H R => ta σ H fun vs H1 => ∃ a xs, vs = [.ref a] ∧ SqT K H1 a xs ∧ R (IteT K a xs.length) H1
theorem pi_enumT {X : Cx} {e : Expr} {ta : TA} {p pos tpos : Pos} {elts : List Expr} {kk : Nat} (gl : Gl X "enumerate") (nm : X.mg "enumerate" = none) (ha : PA X [e] ta) (hs : starEach [e] X.env = [(false, eval e X.env)] := by rfl) :
    PI X (.Tuple elts kk tpos) (.Call (.Name "enumerate" p) [e] [] pos) (iEnumT X.K ta) := by
  refine ⟨fun pins s σ H R I h => Call_ (ld_blt I gl nm boot_enumerate (PyProof.Rows.callWith_type1 (thn (ha.run pos pins s σ H _ I h) fun us s1 ⟨vs, H1, I1, r1, q1⟩ => ?_) hs rfl))⟩
  obtain ⟨a, xs, rfl, hq, q⟩ := q1
  cases r1 with
  | cons r rr =>
    cases rr
    cases r
    obtain ⟨its, rv, tt, _⟩ := I1.tuple hq
    refine call_enumT (show s1.heap.IsTuple a its.toArray from tt) fun h' ge ti hk => wpAny_pyIter_enum ge ?_
    have I2 : Inv X pins σ H1 { s1 with heap := h' } := I1.kept (t' := s1.toks) hk
    refine ⟨s1.heap.objs.size + 1, [s1.heap.objs.size + 1, s1.heap.objs.size], _, _, H1, rfl, I2, turn_enumT a (s1.heap.objs.size + 1) s1.heap.objs.size xs.length, ⟨⟨.none, ge⟩, ti, Nat.succ_ne_self _, Nat.zero_le _⟩, fun b hb => ?_, q⟩
    have le : s1.heap.objs.size ≤ b := by
      rcases (show b = s1.heap.objs.size + 1 ∨ b = s1.heap.objs.size by simpa using hb) with z | z
      · exact z ▸ Nat.le_succ _
      · exact z ▸ Nat.le_refl _
    exact I1.fpOk le (I1.hok.fresh le)
section
variable {X : Cx} {B : Base} {ρ : List Slot} {pos : Pos} {e tg it : Expr}
theorem ji_enumT {α β : Type} {m : R β} {xs : β → List α} {f : α → D} {ρ' : β → List Slot} {p tpos : Pos} {elts : List Expr} {kk : Nat} (hg : Gl X "enumerate") (hm : X.mg "enumerate" = none) (h : JE X B ρ e m (fun b => .val (eT f (xs b))) ρ') (hst : starEach [e] X.env = (false, eval e X.env) :: starEach [] X.env := by rfl) (hs : starEach [e] X.env = [(false, eval e X.env)] := by rfl) :
    JI X B ρ (.Tuple elts kk tpos) (.Call (.Name "enumerate" p) [e] [] pos) m (fun b => (enumL (xs b)).map (eP2 D.int f)) ρ' :=
  PI_imp (pi_enumT hg hm (pa_cons h pa_nil hst) hs) fun σ H Q ⟨G, E, q⟩ => ⟨G, E, R.post_mono q fun b q1 v G' H' x E' => by
    obtain ⟨a, vs, rfl, hS, hr⟩ := E'.top.tup_inv
    have hl : vs.length = (xs b).length := by rw [hr.len, List.length_map]
    have hl2 : ((enumL (xs b)).map (eP2 D.int f)).length = vs.length := by rw [List.length_map, enumL_len, hl]
    refine ⟨a, vs, rfl, E'.sub.t hS, q1 _ G' H' x E'.pop ⟨fun i H hi e => ⟨vs, vs[i]'(by rw [← hl2]; exact hi), e.t hS, rfl, List.getElem?_eq_getElem _⟩, fun i H hi e => ⟨vs, e.t hS, rfl, by rw [← hl2]; exact hi⟩, fun B i G1 H1 σ ρ w H' e E hy d hd => ?_⟩⟩
    obtain ⟨T, y, rfl, hT, rfl, hy⟩ := hy
    have hyi := hy vs ((e.trans E.sub).t hS)
    obtain ⟨d2, h1, h2⟩ := hr.getV hyi
    rw [List.getElem?_map, enumL_get] at hd
    rw [List.getElem?_map] at h1
    cases hx : (xs b)[i]? with
    | none =>
      rw [hx] at h1
      cases h1
    | some z =>
      rw [hx] at h1 hd
      injection h1 with h1
      injection hd with hd
      subst h1
      subst hd
      have e1 := Ex.new (o := HO.tup [.int (i : Nat), y]) (E.sub.back hT)
      exact ⟨_, e1, E.new hT _, .tup (.inl (.inl upd_same)) (.cons (.int _) (.cons (h2.ex (e.trans e1)) .nil))⟩⟩
end
end DL

/-! DL19: list * n, a if c else b, is None -/
namespace DL
open PySem PySem.Spec L2
def repL {α : Type} (xs : List α) (k : Int) : List α := (List.replicate k.toNat xs).flatten
theorem rp_rep {K : PySem.W.Frag} {G : Hp} {vs : List V} {ds : List D} (h : RpAll K G vs ds) : ∀ n : Nat, RpAll K G (List.replicate n vs).flatten (List.replicate n ds).flatten
  | 0 => .nil
  | n + 1 => by
    rw [List.replicate_succ, List.replicate_succ, List.flatten_cons, List.flatten_cons]
    exact h.append (rp_rep h n)
theorem map_rep {α β : Type} (f : α → β) (xs : List α) (k : Int) : (repL xs k).map f = repL (xs.map f) k := by
  unfold repL
  rw [List.map_flatten, List.map_replicate]
section
variable {X : Cx} {B : Base} {ρ : List Slot} {pos : Pos} {a b c : Expr}
theorem je_rep {α β γ : Type} {f : γ → D} {ma : R α} {xs : α → List γ} {ρa : α → List Slot} {mb : α → R β} {k : α → β → Int} {ρ' : α → β → List Slot} (ha : JE X B ρ a ma (fun x => .own 0 (oL f (xs x))) ρa) (hb : ∀ B' : Base, B'.rs = B.rs → ∀ x, JE X B' (ρa x) b (mb x) (fun y => .val (.int (k x y))) (ρ' x)) (hna : ∀ x y, noAlis (ρ' x y) = true := by intro _ _; rfl) :
    JE X B ρ (.BinOp a .Mult b pos) (ma.bind fun x => (mb x).bind fun y => (R.guard (-(2 ^ 63) ≤ k x y ∧ k x y < 2 ^ 63 ∧ (xs x).length * (k x y).toNat ≤ sizeLine)).bind fun _ => .ok (x, y)) (fun p => .own 0 (oL f (repL (xs p.1) (k p.1 p.2)))) (fun p => ρ' p.1 p.2) := by
  have hb' : PE X b (fun σ H Q => ∃ B' x, B'.rs = B.rs ∧ tJ X.K B' (ρa x) (mb x) (fun y => .val (.int (k x y))) (ρ' x) σ H Q) := ⟨fun pins s σ H Q I ⟨B', x, hB, q⟩ => (hb B' hB x).run pins s σ H Q I q⟩
  refine PE_imp (pe_op op_rep ha hb') fun σ H Q ⟨G, E, q⟩ => ⟨G, E, R.post_mono (R.post_bind.mp q) fun x q1 vx G1 H1 x1 E1 => ?_⟩
  obtain ⟨B', hB, E2, back⟩ := E1.aside
  refine ⟨B', x, hB, G1, E2, ?_⟩
  rw [hB]
  refine R.post_mono (R.post_bind.mp q1) fun y q2 vy G2 H2 x2 E3 => ?_
  have hv := E3.top.int_inv
  subst hv
  obtain ⟨⟨c1, c2, c3⟩, q3⟩ := R.post_guard (R.post_bind.mp q2)
  have E4 := back G2 H2 σ _ _ x2 E3 (hna x y)
  obtain ⟨A, cs, n, g⟩ := E4.own
  cases cs with
  | cons c0 cr =>
    cases c0 with
    | own hO hl hp =>
      cases hO with
      | @lst l vs _ A3 hH hall =>
        obtain ⟨e3, r⟩ := own_dats_inv hall
        have hlen : vs.length = (xs x).length := by rw [r.len, List.length_map]
        refine ⟨l, k x y, vs, rfl, rfl, hH, c1, c2, by rw [hlen]; exact c3, fun p hp => q3 _ G2 _ (x1.trans x2) ?_⟩
        have hr := rp_rep r (k x y).toNat
        have E5 := E4.pop.pop.newL hp hr
        have e : (List.replicate (k x y).toNat ((xs x).map f)).flatten = (repL (xs x) (k x y)).map f := by rw [map_rep]; rfl
        rw [e] at E5
        exact E5
/-- a if c else b, both of them data of one kind -/
theorem je_if {α β γ δ : Type} {mc : R α} {bn : α → Bool} {ρc : α → List Slot} {ma mb : α → R β} {s : β → Slot} {ρ' : β → List Slot} (hc : JT X B ρ c mc bn ρc) (ha : ∀ x, JE X B (ρc x) a (ma x) s ρ') (hb : ∀ x, JE X B (ρc x) b (mb x) s ρ') :
    JE X B ρ (.IfExp c a b pos) (mc.bind fun x => if bn x = true then ma x else mb x) s ρ' := by
  have ha' : PE X a (fun σ H Q => ∃ x, tJ X.K B (ρc x) (ma x) s ρ' σ H Q) := ⟨fun pins s σ H Q I ⟨x, q⟩ => (ha x).run pins s σ H Q I q⟩
  have hb' : PE X b (fun σ H Q => ∃ x, tJ X.K B (ρc x) (mb x) s ρ' σ H Q) := ⟨fun pins s σ H Q I ⟨x, q⟩ => (hb x).run pins s σ H Q I q⟩
  refine PE_imp (pe_ifExp hc ha' hb') fun σ H Q ⟨G, E, q⟩ => ⟨G, E, R.post_mono (R.post_bind.mp q) fun x q1 G1 H1 x1 E1 => ?_⟩
  cases hx : bn x with
  | true =>
    rw [hx, if_pos rfl] at q1
    rw [if_pos rfl]
    exact ⟨x, G1, E1, R.post_mono q1 fun y k v G2 H2 x2 E2 => k v G2 H2 (x1.trans x2) E2⟩
  | false =>
    rw [hx, if_neg (by decide)] at q1
    rw [if_neg (by decide)]
    exact ⟨x, G1, E1, R.post_mono q1 fun y k v G2 H2 x2 E2 => k v G2 H2 (x1.trans x2) E2⟩
end
def isNon : D → Bool
  | .none => true
  | _ => false
section
variable {K : PySem.W.Frag} {B : Base}
theorem Rp.isNon {G : Hp} {v : V} {d : D} (h : Rp K G v d) : decide (v = .non) = DL.isNon d := by
  cases h <;> first | rfl | simp [DL.isNon]
theorem od_isN {d : D} : OpD K B (fun x y H Q => y = .non ∧ Q (.bl (decide (x = .non))) H) d .none (.ok ()) (fun _ => .val (.bool (isNon d))) := fun G H σ ρ vx vy Q E hx hy q => ⟨hy.non_inv, by
  rw [hx.isNon]
  exact q _ G H (Ex.refl G) (E.push (.bl _))⟩
theorem od_notN {d : D} : OpD K B (fun x y H Q => y = .non ∧ Q (.bl (!decide (x = .non))) H) d .none (.ok ()) (fun _ => .val (.bool (!isNon d))) := fun G H σ ρ vx vy Q E hx hy q => ⟨hy.non_inv, by
  rw [hx.isNon]
  exact q _ G H (Ex.refl G) (E.push (.bl _))⟩
end
end DL

/-! DL20: plain rows (tuples that are known to have no dict) -/
namespace DL
open PySem PySem.Spec PyProof.Rows L2
@[reducible] def eR {α : Type} (f : α → D) (l : List α) : D := .row (l.map f)
/-- whatever is d is d' too -/
def Wk (d d' : D) : Prop := ∀ (K : PySem.W.Frag) (G : Hp) (v : V), Rp K G v d → Rp K G v d'
theorem wk_refl (d : D) : Wk d d := fun _ _ _ h => h
theorem wk_R {α : Type} (f : α → D) (xs : List α) : Wk (eR f xs) (eT f xs) := fun K G v h => by
  cases h with
  | row h d r => exact .tup (.inl (.inr ⟨_, h⟩)) r
theorem wkAll {α : Type} {f g : α → D} (h : ∀ x, Wk (f x) (g x)) : ∀ (xs : List α) {K : PySem.W.Frag} {G : Hp} {vs : List V}, RpAll K G vs (xs.map f) → RpAll K G vs (xs.map g)
  | [], _, _, _, .nil => .nil
  | x :: xs, _, _, _, .cons a r => .cons (h x _ _ _ a) (wkAll h xs r)
theorem wk_T {α : Type} {f g : α → D} (h : ∀ x, Wk (f x) (g x)) (xs : List α) : Wk (eT f xs) (eT g xs) := fun K G v a => by
  cases a with
  | tup s r => exact .tup s (wkAll h xs r)
theorem wk_L {α : Type} {f g : α → D} (h : ∀ x, Wk (f x) (g x)) (xs : List α) : Wk (eL f xs) (eL g xs) := fun K G v a => by
  cases a with
  | lst s r => exact .lst s (wkAll h xs r)
theorem wk_P2 {α β : Type} {f f' : α → D} {g g' : β → D} (h : ∀ x, Wk (f x) (f' x)) (k : ∀ x, Wk (g x) (g' x)) (p : α × β) : Wk (eP2 f g p) (eP2 f' g' p) := fun K G v a => by
  cases a with
  | tup s r =>
    cases r with
    | cons a r =>
      cases r with
      | cons b r => exact .tup s (.cons (h _ _ _ _ a) (.cons (k _ _ _ _ b) r))
theorem Cells.wk {K : PySem.W.Frag} {B : Base} {G H : Hp} {v : V} {d d' : D} {σ : L2.St} {ρ : List Slot} {A : List Addr} (w : Wk d d') (h : Cells K B G H (some v :: σ) (.val d :: ρ) A) : Cells K B G H (some v :: σ) (.val d' :: ρ) A := by
  cases h with
  | cons c r =>
    cases c with
    | val h => exact .cons (.val (w _ _ _ h)) r
theorem En.wk {K : PySem.W.Frag} {B : Base} {G H : Hp} {v : V} {d d' : D} {σ : L2.St} {ρ : List Slot} {ex : List (V × Slot)} (w : Wk d d') (E : En K B G H σ ρ ((v, .val d) :: ex)) : En K B G H σ ρ ((v, .val d') :: ex) := by
  obtain ⟨A, c, n, g⟩ := E.own
  exact ⟨E.anc, ⟨A, Cells.wk w c, n, g⟩, E.len, E.ali⟩
section
variable {X : Cx} {B : Base} {ρ : List Slot} {pos : Pos} {e obj : Expr} {es : List Expr}
theorem je_wk {β : Type} {m : R β} {d d' : β → D} {ρ' : β → List Slot} (w : ∀ b, Wk (d b) (d' b)) (h : JE X B ρ e m (fun b => .val (d b)) ρ') : JE X B ρ e m (fun b => .val (d' b)) ρ' :=
  PE_imp h fun σ H Q ⟨G, E, q⟩ => ⟨G, E, R.post_mono q fun b k v G1 H1 x1 E1 => k v G1 H1 x1 (E1.wk (w b))⟩
/-- tuple(a list): a plain row -/
def rTupF (K : PySem.W.Frag) : List V → Hp → VK → Prop := fun xs H Q => ∃ p ys, xs = [.ref p] ∧ SqL K H p ys ∧ ∀ l ob, H l = none → ob.dict = none → Q (.ref l) (upd H l (.frz ob (.tup ys)))
theorem cr_tupF : CallR X (.type "tuple") (rTupF X.K) := by
  intro pins s σ H xs us Q I r h
  obtain ⟨p, ys, rfl, hq, q⟩ := h
  obtain ⟨u, rfl, rx⟩ := vals1 r
  cases rx
  obtain ⟨its, rv, pl, hz⟩ := I.list hq
  have hlen := rv.length
  refine call_tuple_list pl.isList (fun h' kp => ?_) (by simp only [List.size_toArray] <;> omega)
  have J : Inv X pins σ H { s with heap := h' } := I.kept (t' := s.toks) kp
  have at' : (h'.push { cls := .type "tuple", data := .seq its.toArray }).get? h'.objs.size = some { cls := .type "tuple", data := .seq its.toArray } := Heap.get?_push_size _ rfl
  have J2 : Inv X pins σ (upd H h'.objs.size (.frz { cls := .type "tuple", data := .seq its.toArray } (.tup ys))) { s with heap := h'.push { cls := .type "tuple", data := .seq its.toArray } } :=
    J.laid (t' := s.toks) (fun b o e => Heap.get?_push_of_some _ e) (Nat.le_refl _) (show ObjOk X.prog X.w _ _ _ (.frz _ (.tup ys)) from ⟨at', hz, its, rv, IsTup.new _ _⟩)
  exact ⟨.ref h'.objs.size, _, J2, rfl, q _ _ (J.hok.fresh (Nat.le_refl _)) rfl⟩
theorem cb_tupF {K : PySem.W.Frag} {α : Type} {f : α → D} {xs : List α} : CbD K B ρ (rTupF K) [.val (eL f xs)] (.ok ()) (fun _ => .val (eR f xs)) := fun G H σ vs Q E ok q => by
  obtain ⟨v, rfl, r⟩ := ok.one
  obtain ⟨a, ys, rfl, hS, hr⟩ := r.lst_inv
  refine ⟨a, ys, rfl, .inl (E.sub.rd hS), fun p ob hp ho => ?_⟩
  have e := Ex.new (o := HO.frz ob (.tup ys)) (E.sub.back hp)
  exact q _ _ _ e ((E.new hp _).push (.row upd_same ho (RpAll.ex e hr)))
/-- a method of a plain row -/
def tBMR (r : V → List V → Hp → VK → Prop) (to : TE) (t : TA) : TE := fun σ H Q => to σ H fun x H1 => (∃ a ob xs, x = .ref a ∧ H1 a = some (.frz ob (.tup xs)) ∧ ob.dict = none) ∧ t σ H1 fun xs H2 => r x xs H2 Q
theorem pe_bmR {o : Expr} {to : TE} {t : TA} {name : Str} {ap : Pos} {id : String} {r : V → List V → Hp → VK → Prop} (pa : PlainAttrs "tuple") (slot : PySem.Slot "tuple" name id) (hty : typeOf (.builtin id) = pure (.type "method_descriptor")) (hm : MtR X id r) (ho : PE X o to) (ha : PA X (e :: es) t)
    (base : attributeBase o name X.env (eval o X.env) = eval o X.env := by rfl)
    (few : ((backTo pos (starEach (e :: es) X.env)).all (fun x => !x.1) && (backToKw pos (keywordEach [] X.env)).all (fun x => x.1.isSome) && decide ((e :: es).length + ([] : List Keyword).length + (if ([] : List Keyword).isEmpty then 0 else 1) < 30)) = true := by rfl)
    (line : (ap.endLine == pos.line) = true := by rfl) (hs : starEach (e :: es) X.env = (false, eval e X.env) :: starEach es X.env := by rfl) (pl : (backTo pos (starEach es X.env)).any (·.1) = false := by rfl) :
    PE X (.Call (.Attribute o name ap) (e :: es) [] pos) (tBMR r to t) := by
  refine ⟨fun pins s σ H Q I h => wpAny_Call_method_late base few line rfl (thn (ho.run pins s σ H _ I h) fun v s1 ⟨x, H1, I1, r1, ⟨a, ob, xs, ex, hH, hd⟩, q1⟩ => ?_)⟩
  subst ex
  cases r1
  obtain ⟨g1, g2⟩ := I1.hok a _ hH
  obtain ⟨_, its, _, o2, g3, g4, _⟩ := g2
  rw [g1] at g3
  injection g3 with g3
  subst g3
  refine ⟨"tuple", id, pa, slot, hty, ⟨_, g1, g4⟩, fun b eb => by injection eb with eb; subst eb; exact ⟨_, g1, hd⟩, ?_⟩
  have hA := ha.run pos pins s1 σ H1 _ I1 q1
  rw [hs] at hA ⊢
  refine Calls.callWith_builtin (show (false || (backTo pos (starEach es X.env)).any (·.1)) = false by rw [pl] <;> rfl) (Calls.evalArgs_plain ?_)
  exact thn hA fun us s2 ⟨vs, H2, I2, r2, q2⟩ => hm pins s2 σ H2 (.ref a) vs (.ref a) us Q I2 rfl r2 q2
/-- row.index(k) -/
theorem je_rix {ap : Pos} {ns : List Int} {β : Type} {m : R β} {k : β → Int} {ρ' : β → List Slot} (ho : JP X B ρ obj (eR D.int ns)) (he : JE X B ρ e m (fun b => .val (.int (k b))) ρ') (hst : starEach [e] X.env = (false, eval e X.env) :: starEach [] X.env := by rfl)
    (base : attributeBase obj "index" X.env (eval obj X.env) = eval obj X.env := by rfl)
    (few : ((backTo pos (starEach [e] X.env)).all (fun x => !x.1) && (backToKw pos (keywordEach [] X.env)).all (fun x => x.1.isSome) && decide ([e].length + ([] : List Keyword).length + (if ([] : List Keyword).isEmpty then 0 else 1) < 30)) = true := by rfl)
    (line : (ap.endLine == pos.line) = true := by rfl) (pl : (backTo pos (starEach [] X.env)).any (·.1) = false := by rfl) :
    JE X B ρ (.Call (.Attribute obj "index" ap) [e] [] pos) (m.bind fun b => (R.some (ixOf (k b) ns)).bind fun j => .ok (b, j)) (fun p => .val (.int ((p.2 : Nat) : Int))) (fun p => ρ' p.1) := by
  refine PE_imp (pe_bmR PySem.F.plainAttrs_tuple PySem.F.slot_tuple_index PySem.F.type_tuple_index mt_tix ho (pa_cons he pa_nil hst) base few line hst pl) fun σ H Q ⟨G, E, q⟩ => ⟨G, E, fun v G1 H1 x1 E1 => ?_⟩
  have ht := E1.top
  obtain ⟨a, rfl⟩ : ∃ a, v = .ref a := by
    cases ht with
    | row => exact ⟨_, rfl⟩
  cases ht with
  | @row _ ob xs _ hH hd hr =>
    refine ⟨⟨a, ob, xs, rfl, E1.sub _ _ hH, hd⟩, G1, E1.pop, R.post_mono (R.post_bind.mp q) fun b q1 w G2 H2 x2 E2 => ?_⟩
    have hw := E2.top.int_inv
    subst hw
    obtain ⟨j, hj, q2⟩ := R.post_some (R.post_bind.mp q1)
    obtain ⟨g1, g2⟩ := ixOf_some hj
    have hx := hr.ints
    subst hx
    exact ⟨a, ns, k b, j, rfl, rfl, .inl (.inr ⟨ob, E2.sub _ _ (x2 _ _ hH)⟩), g1, g2, q2 _ G2 _ (x1.trans x2) (E2.pop.push (.int _))⟩
end
end DL

/-! DL21: list.index, more of rows -/
namespace DL
open PySem PySem.Spec PyProof.Rows L2
theorem toPys_get {α : Type} {f : α → D} : ∀ {xs : List α} {j : Nat}, (toPy.toPys (xs.map f))[j]? = (xs[j]?).map fun x => toPy (f x)
  | [], j => by simp [toPy.toPys]
  | x :: xs, 0 => by simp [toPy.toPys]
  | x :: xs, j + 1 => by
    rw [List.map_cons, toPy.toPys]
    simpa using toPys_get (xs := xs) (j := j)
section
variable {X : Cx} {B : Base} {ρ : List Slot} {pos : Pos} {e obj : Expr}
/-- xs.index(y) -/
theorem je_lix {ap : Pos} {α : Type} [DecidableEq α] {n : Nat} {f : α → D} {xs : List α} {β : Type} {m : R β} {y : β → α} {ρ' : β → List Slot} (hu : X.A.units + 65 < cLine) (hq : EqE n f) (ho : JP X B ρ obj (eL f xs)) (he : JE X B ρ e m (fun b => .val (f (y b))) ρ') (hn : n + 1 ≤ 64 := by decide) (hst : starEach [e] X.env = (false, eval e X.env) :: starEach [] X.env := by rfl)
    (base : attributeBase obj "index" X.env (eval obj X.env) = eval obj X.env := by rfl)
    (few : ((backTo pos (starEach [e] X.env)).all (fun x => !x.1) && (backToKw pos (keywordEach [] X.env)).all (fun x => x.1.isSome) && decide ([e].length + ([] : List Keyword).length + (if ([] : List Keyword).isEmpty then 0 else 1) < 30)) = true := by rfl)
    (line : (ap.endLine == pos.line) = true := by rfl) (pl : (backTo pos (starEach [] X.env)).any (·.1) = false := by rfl) :
    JE X B ρ (.Call (.Attribute obj "index" ap) [e] [] pos) (m.bind fun b => (R.some (ixOf (y b) xs)).bind fun j => .ok (b, j)) (fun p => .val (.int ((p.2 : Nat) : Int))) (fun p => ρ' p.1) := by
  refine PE_imp (pe_bm PySem.F.plainAttrs_list PySem.F.slot_list_index PySem.F.type_list_index (mt_indexD hu) ho (pa_cons he pa_nil hst) base few line hst pl) fun σ H Q ⟨G, E, q⟩ => ⟨G, E, fun v G1 H1 x1 E1 => ?_⟩
  have ht := E1.top
  obtain ⟨a, vs, rfl, hS, hr⟩ := ht.lst_inv
  refine ⟨.inl ⟨rfl, vs, .inl (E1.sub.rd hS)⟩, G1, E1.pop, R.post_mono (R.post_bind.mp q) fun b q1 w G2 H2 x2 E2 => ?_⟩
  obtain ⟨j, hj, q2⟩ := R.post_some (R.post_bind.mp q1)
  obtain ⟨g1, g2⟩ := ixOf_some hj
  have hL := ee_L hq
  have d1 := (ht.ex x2).dp E2.sub (hL.lay xs)
  have d2 := E2.top.dp E2.sub (hq.lay (y b))
  have e1 : toPy (eL f xs) = .list (toPy.toPys (xs.map f)) := by rw [toPy]
  have s1 := hL.shaped hn xs
  rw [e1] at d1 s1
  refine ⟨a, w, toPy (f (y b)), toPy.toPys (xs.map f), j, toPy (f (y b)), rfl, rfl, d1, d2, s1, hq.shaped (by omega) _, by rw [toPys_get, g1]; rfl, by rw [hq.eqv]; simp, fun i z' hi hz' => ?_, q2 _ G2 _ (x1.trans x2) (E2.pop.push (.int _))⟩
  rw [toPys_get] at hz'
  cases hx : xs[i]? with
  | none =>
    rw [hx] at hz'
    cases hz'
  | some x0 =>
    rw [hx] at hz'
    injection hz' with hz'
    subst hz'
    rw [hq.eqv]
    exact decide_eq_false fun z => g2 i hi (by rw [hx, z])
end
theorem wk_trans {a b c : D} (h : Wk a b) (k : Wk b c) : Wk a c := fun K G v r => k K G v (h K G v r)
end DL

/-! DL22: flatness of rows and of owned lists of lists -/
namespace DL
open PySem PySem.Spec L2
theorem fl_R {α : Type} {f : α → D} (h : ∀ x, Flat (f x)) (xs : List α) : Flat (eR f xs) := by
  rw [eR, Flat]
  exact FlatL.of h xs
theorem flatOL_LL {α : Type} {f : α → D} (h : ∀ x, Flat (f x)) : ∀ rows : List (List α), FlatOL (rows.map (oL f))
  | [] => by
    rw [List.map_nil, FlatOL]
    trivial
  | r :: rows => by
    rw [List.map_cons, FlatOL]
    exact ⟨fl_oL h r, flatOL_LL h rows⟩
theorem fl_oLL {α : Type} {f : α → D} (h : ∀ x, Flat (f x)) (rows : List (List α)) : FlatO (oLL f rows) := fl_lst (flatOL_LL h rows)
end DL

/-! DL23: repr of data -/
namespace DL
open PySem PySem.Spec L2 PyProof.Rows
mutual
def pdOf : D → PyData
  | .none => .none
  | .bool b => .bool b
  | .int i => .int i
  | .str x => .str x
  | .list ds => .list (pdOfs ds)
  | .tuple ds => .tuple (pdOfs ds)
  | .row ds => .tuple (pdOfs ds)
  | .scr ns => .list (ns.map PyData.int)
  | .key ns => .tuple (ns.map PyData.int)
  | .dict _ => .none
def pdOfs : List D → List PyData
  | [] => []
  | d :: ds => pdOf d :: pdOfs ds
end
mutual
def plainD : D → Bool
  | .dict _ => false
  | .list ds => plainDs ds
  | .tuple ds => plainDs ds
  | .row ds => plainDs ds
  | .none => true
  | .bool _ => true
  | .int _ => true
  | .str _ => true
  | .scr _ => true
  | .key _ => true
def plainDs : List D → Bool
  | [] => true
  | d :: ds => plainD d && plainDs ds
end
def isRefD : D → Bool
  | .list _ => true
  | .tuple _ => true
  | .row _ => true
  | .key _ => true
  | _ => false
mutual
theorem plain_noDict : ∀ d : D, plainD d = true → (pdOf d).hasDict = false
  | .none, _ => by rw [pdOf, PyData.hasDict]
  | .bool _, _ => by rw [pdOf, PyData.hasDict]
  | .int _, _ => by rw [pdOf, PyData.hasDict]
  | .str _, _ => by rw [pdOf, PyData.hasDict]
  | .list ds, h => by
    rw [pdOf, PyData.hasDict]
    exact plains_noDict ds (by rw [plainD] at h; exact h)
  | .tuple ds, h => by
    rw [pdOf, PyData.hasDict]
    exact plains_noDict ds (by rw [plainD] at h; exact h)
  | .row ds, h => by
    rw [pdOf, PyData.hasDict]
    exact plains_noDict ds (by rw [plainD] at h; exact h)
  | .scr ns, _ => by
    rw [pdOf, PyData.hasDict]
    induction ns with
    | nil => rw [List.map_nil, PyData.hasDictAll]
    | cons n ns ih => rw [List.map_cons, PyData.hasDictAll, PyData.hasDict, ih (by rw [plainD])]; rfl
  | .key ns, _ => by
    rw [pdOf, PyData.hasDict]
    induction ns with
    | nil => rw [List.map_nil, PyData.hasDictAll]
    | cons n ns ih => rw [List.map_cons, PyData.hasDictAll, PyData.hasDict, ih (by rw [plainD])]; rfl
  | .dict _, h => by
    rw [plainD] at h
    cases h
theorem plains_noDict : ∀ ds : List D, plainDs ds = true → PyData.hasDictAll (pdOfs ds) = false
  | [], _ => by rw [pdOfs, PyData.hasDictAll]
  | d :: ds, h => by
    rw [plainDs, Bool.and_eq_true] at h
    rw [pdOfs, PyData.hasDictAll, plain_noDict d h.1, plains_noDict ds h.2]
    rfl
end
section
variable {X : Cx} {pins : List (Addr × Obj)} {σ : L2.St} {G H : Hp} {s : Shared}
theorem reads_ints (h : Heap) : ∀ (ns : List Int) (us : List Value), Vals (ns.map V.int) us → ∃ as, ReadsAll h us (ns.map PyData.int) as
  | [], _, .nil => ⟨[], .nil⟩
  | n :: ns, _, .cons r t => by
    obtain ⟨tk, rfl⟩ := r
    obtain ⟨as, q⟩ := reads_ints h ns _ t
    exact ⟨_, .cons (.int n tk) q⟩
mutual
theorem Rp.reads (I : Inv X pins σ H s) (e : Ex G H) : ∀ {v : V} {d : D}, Rp X.K G v d → ∀ {u : Value}, RelV v u → plainD d = true → ∃ as, Reads s.heap u (pdOf d) as
  | _, _, .non, u, r, _ => by
    cases r
    rw [pdOf]
    exact ⟨_, .none⟩
  | _, _, .bl b, u, r, _ => by
    cases r
    rw [pdOf]
    exact ⟨_, .bool b⟩
  | _, _, .int i, u, r, _ => by
    obtain ⟨t, rfl⟩ := r
    rw [pdOf]
    exact ⟨_, .int i t⟩
  | _, _, .str x, u, r, _ => by
    obtain ⟨t, rfl⟩ := r
    rw [pdOf]
    exact ⟨_, .str x t⟩
  | _, _, .lst h q, u, r, p => by
    cases r
    rw [pdOf]
    rw [plainD] at p
    obtain ⟨its, vs, pl, _⟩ := I.list (.inl (e.rd h))
    obtain ⟨o, n, g1, g2, g3, g4⟩ := pl
    obtain ⟨as, ra⟩ := RpAll.reads I e q vs p
    exact ⟨_, .list g1 g2 g4 (by simpa using ra)⟩
  | _, _, .tup h q, u, r, p => by
    cases r
    rw [pdOf]
    rw [plainD] at p
    obtain ⟨its, vs, ⟨o, g1, g2, n, g4⟩, _⟩ := I.tuple (e.t h)
    obtain ⟨as, ra⟩ := RpAll.reads I e q vs p
    exact ⟨_, .tuple g1 g2 g4 (by simpa using ra)⟩
  | _, _, .row h d q, u, r, p => by
    cases r
    rw [pdOf]
    rw [plainD] at p
    obtain ⟨its, vs, ⟨o, g1, g2, n, g4⟩, _⟩ := I.tuple (.inl (.inr ⟨_, e _ _ h⟩))
    obtain ⟨as, ra⟩ := RpAll.reads I e q vs p
    exact ⟨_, .tuple g1 g2 g4 (by simpa using ra)⟩
  | _, _, .scr h, u, r, _ => by
    cases r
    rw [pdOf]
    obtain ⟨its, vs, pl, _⟩ := I.list (e.l h)
    obtain ⟨o, n, g1, g2, g3, g4⟩ := pl
    obtain ⟨as, ra⟩ := reads_ints s.heap _ _ vs
    exact ⟨_, .list g1 g2 g4 (by simpa using ra)⟩
  | _, _, .key h, u, r, _ => by
    cases r
    rw [pdOf]
    obtain ⟨its, vs, ⟨o, g1, g2, n, g4⟩, _⟩ := I.tuple (.inl (.inl (e _ _ h)))
    obtain ⟨as, ra⟩ := reads_ints s.heap _ _ vs
    exact ⟨_, .tuple g1 g2 g4 (by simpa using ra)⟩
  | _, _, .dK h q, u, r, p => by
    rw [plainD] at p
    cases p
  | _, _, .dT h q, u, r, p => by
    rw [plainD] at p
    cases p
theorem RpAll.reads (I : Inv X pins σ H s) (e : Ex G H) : ∀ {vs : List V} {ds : List D}, RpAll X.K G vs ds → ∀ {us : List Value}, Vals vs us → plainDs ds = true → ∃ as, ReadsAll s.heap us (pdOfs ds) as
  | _, _, .nil, _, .nil, _ => by
    rw [pdOfs]
    exact ⟨_, .nil⟩
  | _, _, .cons h q, _, .cons r t, p => by
    rw [plainDs, Bool.and_eq_true] at p
    rw [pdOfs]
    obtain ⟨as, a⟩ := Rp.reads I e h r p.1
    obtain ⟨bs, b⟩ := RpAll.reads I e q t p.2
    exact ⟨_, .cons a b⟩
end
/-- it can be shown -/
def repOk (d : D) : Prop := plainD d = true ∧ isRefD d = true ∧ (pdOf d).showable = true ∧ (pdOf d).shown.length ≤ sizeLine ∧ (pdOf d).depth ≤ 60
instance (d : D) : Decidable (repOk d) := by unfold repOk; exact inferInstance
def reprD (d : D) : Str := (pdOf d).shown
def rRep (K : PySem.W.Frag) : List V → Hp → VK → Prop := fun xs H Q => ∃ v G d, xs = [v] ∧ Ex G H ∧ Rp K G v d ∧ repOk d ∧ Q (.str (reprD d)) H
theorem call_reprD (hg : X.A.guards = some []) (hu : X.A.units + 64 < cLine) : CallR X (.builtin "repr") (rRep X.K) := by
  intro pins s σ H xs us Q I r h
  obtain ⟨v, G, d, rfl, e, q, ⟨p1, p2, p3, p4, p5⟩, hq⟩ := h
  cases r with
  | cons r t =>
    cases t
    obtain ⟨as, rd⟩ := q.reads I e r p1
    have hsm : (pdOf d).hasDict = true → sysModules ∉ as := fun z => by
      rw [plain_noDict d p1] at z
      cases z
    have isr : ∃ a, v = .ref a := by
      cases q <;> first | exact ⟨_, rfl⟩ | (simp [isRefD] at p2)
    obtain ⟨a, rfl⟩ := isr
    cases r
    exact repr_of_reads' rd p3 hsm hg (by omega) (fun _ _ z => z) (fun h' u tk hk => ⟨.str _, H, I.kept hk, ⟨u, rfl⟩, hq⟩) p4
theorem cb_repr {K : PySem.W.Frag} {B : Base} {ρ : List Slot} {d : D} : CbD K B ρ (rRep K) [.val d] (R.guard (repOk d)) (fun _ => .val (.str (reprD d))) := fun G H σ vs Q E ok q => by
  obtain ⟨hc, q⟩ := R.post_guard q
  obtain ⟨v, rfl, r⟩ := ok.one
  exact ⟨v, G, d, rfl, E.sub, r, hc, q _ G H (Ex.refl G) (E.push (.str _))⟩
end
/-! ### tuples of one thing -/
@[reducible] def eP1 {α : Type} (f : α → D) (p : α) : D := .tuple [f p]
theorem fl_P1 {α : Type} {f : α → D} (h : ∀ x, Flat (f x)) (p : α) : Flat (eP1 f p) := by
  rw [eP1, Flat, FlatL, FlatL]
  exact ⟨h p, trivial⟩
/-! ### how long it is -/
mutual
/-- no texts, all ints of less than B signs -/
def shortD (B : Nat) : D → Prop
  | .none => True
  | .bool _ => True
  | .int i => i.natAbs < 10 ^ B
  | .list ds => shortDs B ds
  | .tuple ds => shortDs B ds
  | .row ds => shortDs B ds
  | .str _ => False
  | .scr _ => False
  | .key _ => False
  | .dict _ => False
def shortDs (B : Nat) : List D → Prop
  | [] => True
  | d :: ds => shortD B d ∧ shortDs B ds
end
mutual
def wide (B : Nat) : D → Nat
  | .list ds => 3 + wides B ds
  | .tuple ds => 3 + wides B ds
  | .row ds => 3 + wides B ds
  | .none => B + 5
  | .bool _ => B + 5
  | .int _ => B + 5
  | .str _ => B + 5
  | .scr _ => B + 5
  | .key _ => B + 5
  | .dict _ => B + 5
def wides (B : Nat) : List D → Nat
  | [] => 0
  | d :: ds => (wide B d + 2) + wides B ds
end
mutual
def deepD : D → Nat
  | .list ds => deepDs ds + 1
  | .tuple ds => deepDs ds + 1
  | .row ds => deepDs ds + 1
  | .none => 0
  | .bool _ => 0
  | .int _ => 0
  | .str _ => 0
  | .scr _ => 0
  | .key _ => 0
  | .dict _ => 0
def deepDs : List D → Nat
  | [] => 0
  | d :: ds => max (deepD d) (deepDs ds)
end
theorem shown_int_len {B : Nat} (hB : 0 < B) {i : Int} (h : i.natAbs < 10 ^ B) : (PyData.shown (.int i)).length ≤ B + 1 := by
  rw [PyData.shown_int]
  show (Str.ofString (toString i)).length ≤ B + 1
  rw [PySem.ofString_length]
  exact int_text_length_le10 hB h
theorem log2_lt10 {B : Nat} (hB : B < 570) {i : Int} (h : i.natAbs < 10 ^ B) : i.natAbs.log2 < 1920 := by
  by_cases h0 : i.natAbs = 0
  · rw [h0]
    decide
  · refine (Nat.log2_lt h0).mpr (Nat.lt_of_lt_of_le h ?_)
    exact Nat.le_trans (Nat.pow_le_pow_right (by decide) (show B ≤ 570 by omega)) (by decide +kernel)
mutual
theorem shortD_ok {B : Nat} (h0 : 0 < B) (hB : B < 570) : ∀ d : D, shortD B d → plainD d = true ∧ (pdOf d).showable = true ∧ (pdOf d).depth = deepD d ∧ (pdOf d).shown.length ≤ wide B d
  | .none, h => by
    rw [plainD, pdOf, PyData.showable, PyData.depth, deepD, wide, PyData.shown_none]
    exact ⟨rfl, rfl, rfl, Nat.le_trans (show _ ≤ 5 by decide) (by omega)⟩
  | .bool b, h => by
    rw [plainD, pdOf, PyData.showable, PyData.depth, deepD, wide, PyData.shown_bool]
    refine ⟨rfl, rfl, rfl, Nat.le_trans (show _ ≤ 5 from ?_) (by omega)⟩
    cases b <;> decide
  | .int i, h => by
    rw [shortD] at h
    rw [plainD, pdOf, PyData.showable, PyData.depth, deepD, wide]
    exact ⟨rfl, decide_eq_true (log2_lt10 hB h), rfl, Nat.le_trans (shown_int_len h0 h) (by omega)⟩
  | .str _, h => by
    rw [shortD] at h
    exact h.elim
  | .scr _, h => by
    rw [shortD] at h
    exact h.elim
  | .key _, h => by
    rw [shortD] at h
    exact h.elim
  | .dict _, h => by
    rw [shortD] at h
    exact h.elim
  | .list ds, h => by
    rw [shortD] at h
    obtain ⟨a, b, c, d⟩ := shortDs_ok h0 hB ds h
    rw [plainD, pdOf, PyData.showable, PyData.depth, deepD, wide, PyData.shown, a, b, c]
    refine ⟨rfl, rfl, rfl, Nat.le_trans (listText_len_le _) ?_⟩
    rw [PyData.shownAll_length]
    omega
  | .tuple ds, h => by
    rw [shortD] at h
    obtain ⟨a, b, c, d⟩ := shortDs_ok h0 hB ds h
    rw [plainD, pdOf, PyData.showable, PyData.depth, deepD, wide, PyData.shown, a, b, c]
    refine ⟨rfl, rfl, rfl, Nat.le_trans (tupleText_len_le _) ?_⟩
    rw [PyData.shownAll_length]
    omega
  | .row ds, h => by
    rw [shortD] at h
    obtain ⟨a, b, c, d⟩ := shortDs_ok h0 hB ds h
    rw [plainD, pdOf, PyData.showable, PyData.depth, deepD, wide, PyData.shown, a, b, c]
    refine ⟨rfl, rfl, rfl, Nat.le_trans (tupleText_len_le _) ?_⟩
    rw [PyData.shownAll_length]
    omega
theorem shortDs_ok {B : Nat} (h0 : 0 < B) (hB : B < 570) : ∀ ds : List D, shortDs B ds → plainDs ds = true ∧ PyData.showableAll (pdOfs ds) = true ∧ PyData.depthAll (pdOfs ds) = deepDs ds ∧ ((PyData.shownAll (pdOfs ds)).map (·.length)).sum + 2 * (pdOfs ds).length ≤ wides B ds
  | [], _ => by
    rw [plainDs, pdOfs, PyData.showableAll, PyData.depthAll, deepDs, wides, PyData.shownAll]
    exact ⟨rfl, rfl, rfl, Nat.le_refl _⟩
  | d :: ds, h => by
    rw [shortDs] at h
    obtain ⟨a, b, c, e⟩ := shortD_ok h0 hB d h.1
    obtain ⟨a2, b2, c2, e2⟩ := shortDs_ok h0 hB ds h.2
    rw [plainDs, pdOfs, PyData.showableAll, PyData.depthAll, deepDs, wides, PyData.shownAll, a, b, c, a2, b2, c2]
    refine ⟨rfl, rfl, rfl, ?_⟩
    rw [List.map_cons, List.sum_cons, List.length_cons]
    omega
end
theorem repOk_of {B : Nat} {d : D} (h0 : 0 < B) (hB : B < 570) (h : shortD B d) (hr : isRefD d = true) (hd : deepD d ≤ 60) (hw : wide B d ≤ 1000000) : repOk d := by
  obtain ⟨a, b, c, e⟩ := shortD_ok h0 hB d h
  exact ⟨a, hr, b, Nat.le_trans e (Nat.le_trans hw (by decide)), by rw [c]; exact hd⟩
/-- lists of things alike -/
theorem shortDs_map {α : Type} {B : Nat} {f : α → D} : ∀ {xs : List α}, (∀ x ∈ xs, shortD B (f x)) → shortDs B (xs.map f)
  | [], _ => by rw [List.map_nil, shortDs]; trivial
  | x :: xs, h => by
    rw [List.map_cons, shortDs]
    exact ⟨h x List.mem_cons_self, shortDs_map fun y m => h y (List.mem_cons_of_mem _ m)⟩
theorem wides_map {α : Type} {B c : Nat} {f : α → D} : ∀ {xs : List α}, (∀ x ∈ xs, wide B (f x) ≤ c) → wides B (xs.map f) ≤ xs.length * (c + 2)
  | [], _ => by rw [List.map_nil, wides]; exact Nat.zero_le _
  | x :: xs, h => by
    rw [List.map_cons, wides, List.length_cons, Nat.succ_mul]
    have h1 := h x List.mem_cons_self
    have h2 := wides_map (B := B) (c := c) (f := f) (xs := xs) fun y m => h y (List.mem_cons_of_mem _ m)
    omega
theorem deepDs_map {α : Type} {c : Nat} {f : α → D} : ∀ {xs : List α}, (∀ x ∈ xs, deepD (f x) ≤ c) → deepDs (xs.map f) ≤ c
  | [], _ => by rw [List.map_nil, deepDs]; exact Nat.zero_le _
  | x :: xs, h => by
    rw [List.map_cons, deepDs]
    exact Nat.max_le.mpr ⟨h x List.mem_cons_self, deepDs_map fun y m => h y (List.mem_cons_of_mem _ m)⟩
end DL

/-! DL24: more of equality -/
namespace DL
open PySem PySem.Spec L2
theorem EqE.up {α : Type} [DecidableEq α] {n : Nat} {f : α → D} (h : EqE n f) : EqE (n + 1) f := ⟨h.lay, fun x => Nat.le_succ_of_le (h.dep x), h.eqv⟩
theorem od_eqS {K : PySem.W.Frag} {B : Base} {i j : Str} : OpD K B rEq (.str i) (.str j) (.ok ()) (fun _ => .val (.bool (decide (i = j)))) := od_val0 (w := .bl (decide (i = j))) (fun G H vx vy Q _ hx hy q => by
  rw [hx.str_inv, hy.str_inv]
  refine ⟨rfl, ?_⟩
  have : decide (V.str i = V.str j) = decide (i = j) := decide_eq_decide.mpr ⟨fun h => by injection h, fun h => by rw [h]⟩
  rw [this]
  exact q) fun _ => .bl _
theorem od_neS {K : PySem.W.Frag} {B : Base} {i j : Str} : OpD K B rNe (.str i) (.str j) (.ok ()) (fun _ => .val (.bool (!decide (i = j)))) := od_val0 (w := .bl (!decide (i = j))) (fun G H vx vy Q _ hx hy q => by
  rw [hx.str_inv, hy.str_inv]
  refine ⟨rfl, ?_⟩
  have : decide (V.str i = V.str j) = decide (i = j) := decide_eq_decide.mpr ⟨fun h => by injection h, fun h => by rw [h]⟩
  rw [this]
  exact q) fun _ => .bl _
theorem ee_U : EqE 0 eU := ⟨fun _ => by simp [toPy, PyData.canLay0], fun _ => by simp [toPy, PyData.depth], fun x y => by
  simp [toPy, PyData.eqv]⟩
theorem ee_p1 {α : Type} [DecidableEq α] {n : Nat} {f : α → D} (hf : EqE n f) : EqE (n + 1) (eP1 f) := by
  refine ⟨fun x => ?_, fun x => ?_, fun x y => ?_⟩
  · simp [toPy, toPy.toPys, PyData.canLay0, PyData.canLayAll0, hf.lay]
  · have h1 := hf.dep x
    simp [toPy, toPy.toPys, PyData.depth, PyData.depthAll]
    omega
  · simp only [toPy, toPy.toPys, PyData.eqv, PyData.eqvAll, hf.eqv, Bool.and_true]
theorem ee_p4 {α β γ δ : Type} [DecidableEq α] [DecidableEq β] [DecidableEq γ] [DecidableEq δ] {n : Nat} {f : α → D} {g : β → D} {h : γ → D} {k : δ → D} (hf : EqE n f) (hg : EqE n g) (hh : EqE n h) (hk : EqE n k) : EqE (n + 1) (eP4 f g h k) := by
  refine ⟨fun x => ?_, fun x => ?_, fun x y => ?_⟩
  · simp [toPy, toPy.toPys, PyData.canLay0, PyData.canLayAll0, hf.lay, hg.lay, hh.lay, hk.lay]
  · have h1 := hf.dep x.1
    have h2 := hg.dep x.2.1
    have h3 := hh.dep x.2.2.1
    have h4 := hk.dep x.2.2.2
    simp [toPy, toPy.toPys, PyData.depth, PyData.depthAll]
    omega
  · obtain ⟨a, b, c, d⟩ := x
    obtain ⟨a', b', c', d'⟩ := y
    simp only [toPy, toPy.toPys, PyData.eqv, PyData.eqvAll, hf.eqv, hg.eqv, hh.eqv, hk.eqv, Bool.and_true]
    rw [← Bool.decide_and, ← Bool.decide_and, ← Bool.decide_and]
    exact decide_eq_decide.mpr ⟨fun h => by rw [h.1, h.2.1, h.2.2.1, h.2.2.2], fun h => by
      injection h with h1 h2
      injection h2 with h2 h3
      injection h3 with h3 h4
      exact ⟨h1, h2, h3, h4⟩⟩
/-! ### what may be None -/
@[reducible] def eO {α : Type} (f : α → D) : Option α → D
  | .none => .none
  | .some x => f x
/-- never None -/
def NotN {α : Type} (f : α → D) : Prop := ∀ x, PyData.eqv .none (toPy (f x)) = false ∧ PyData.eqv (toPy (f x)) .none = false
theorem ee_O {α : Type} [DecidableEq α] {n : Nat} {f : α → D} (hf : EqE n f) (nn : NotN f) : EqE n (eO f) := by
  refine ⟨fun x => ?_, fun x => ?_, fun x y => ?_⟩
  · cases x with
    | none => simp [toPy, PyData.canLay0]
    | some x => exact hf.lay x
  · cases x with
    | none => simp [toPy, PyData.depth]
    | some x => exact hf.dep x
  · cases x with
    | none =>
      cases y with
      | none => simp [toPy, PyData.eqv]
      | some y =>
        show PyData.eqv (toPy .none) (toPy (f y)) = _
        rw [toPy, (nn y).1]
        simp
    | some x =>
      cases y with
      | none =>
        show PyData.eqv (toPy (f x)) (toPy .none) = _
        rw [toPy, (nn x).2]
        simp
      | some y =>
        show PyData.eqv (toPy (f x)) (toPy (f y)) = _
        rw [hf.eqv]
        simp
theorem nn_int : NotN D.int := fun x => by simp [toPy, PyData.eqv]
theorem nn_str : NotN D.str := fun x => by simp [toPy, PyData.eqv]
theorem nn_bool : NotN D.bool := fun x => by simp [toPy, PyData.eqv]
theorem nn_T {α : Type} {f : α → D} : NotN (eT f) := fun x => by simp [toPy, PyData.eqv]
theorem nn_L {α : Type} {f : α → D} : NotN (eL f) := fun x => by simp [toPy, PyData.eqv]
theorem nn_P1 {α : Type} {f : α → D} : NotN (eP1 f) := fun x => by simp [toPy, PyData.eqv]
theorem nn_P2 {α β : Type} {f : α → D} {g : β → D} : NotN (eP2 f g) := fun x => by simp [toPy, PyData.eqv]
theorem nn_P3 {α β γ : Type} {f : α → D} {g : β → D} {h : γ → D} : NotN (eP3 f g h) := fun x => by simp [toPy, PyData.eqv]
theorem nn_P4 {α β γ δ : Type} {f : α → D} {g : β → D} {h : γ → D} {k : δ → D} : NotN (eP4 f g h k) := fun x => by simp [toPy, PyData.eqv]
end DL

/-! DL25: environments told outright -/
namespace DL
open PySem PySem.Spec L2
section
variable {X : Cx} {B : Base} {ρ : List Slot} {e a b : Expr} {es : List Expr} {rest : List Stmt} {pos : Pos} {N L T α : Type} {F : Fin N L T}
variable {CX : CXT} {k : Nat} {f : Addr} {fd : FuncData} {ps : List Str} {EE : XK} {x : Str} {p : Pos}
theorem je_callQE {α β γ : Type} {ins : α → List Slot} {mf : α → R β} {sl : β → Slot} {outs : β → List Slot} (F : FnG X.prog X.w X.K X.mg X.base CX k f fd ps (spM X.K ins mf sl outs)) (hr : RoomG k X.A) (hg : Gl X x) (hm : X.mg x = some (.ref f)) (hk : PySem.W.keepIn X.K (.ref f) = true)
    (hb : Binds X.K fd ps []) (hx : Passes CX X EE) {ma : R γ} {as : γ → List Ar} {ρa : γ → List Slot} (arg : γ → α) (ρ' : γ × β → List Slot) (ha : JA X B ρ (e :: es) ma as ρa) (hne : ∀ e, ¬ B.rs e) (hi : ∀ c, goodIn (ρa c) (as c) = true := by intro _; rfl) (hins : ∀ c, insAt 0 (ρa c) (as c) = ins (arg c) := by intro _; rfl)
    (ho : ∀ c b, goodOut 0 (as c) (outs b) = true := by intro _ _; rfl) (hal : ∀ c, aliOk (ρa c) (as c) = true := by intro _; rfl) (hres : ∀ b, resOk (sl b) = true := by intro _; rfl) (hρ : ∀ c b, backAt (ρa c) (movedAt (ρa c) (as c)) (as c) (outs b) = ρ' (c, b) := by intro _ _; rfl)
    (hdb : (x == ("__debug__" : Str)) = false := by decide) (he : starEach (e :: es) X.env = (false, eval e X.env) :: starEach es X.env := by rfl) (hpl : (backTo pos (starEach es X.env)).any (·.1) = false := by rfl) :
    JE X B ρ (.Call (.Name x p) (e :: es) [] pos) (ma.bind fun c => (mf (arg c)).bind fun b => .ok (c, b)) (fun y => sl y.2) ρ' := by
  have h := je_call (pos := pos) (p := p) F hr hg hm hk hb hx arg ha hne hi hins ho hal hres hdb he hpl
  have e1 : (fun y : γ × β => backAt (ρa y.1) (movedAt (ρa y.1) (as y.1)) (as y.1) (outs y.2)) = ρ' := funext fun y => hρ y.1 y.2
  rw [e1] at h
  exact h
theorem je_callQ {α β : Type} {ins : α → List Slot} {mf : α → R β} {sl : β → Slot} {outs : β → List Slot} (F : FnG X.prog X.w X.K X.mg X.base CX k f fd ps (spM X.K ins mf sl outs)) (hr : RoomG k X.A) (hg : Gl X x) (hm : X.mg x = some (.ref f)) (hk : PySem.W.keepIn X.K (.ref f) = true)
    (hb : Binds X.K fd ps []) (hx : Passes CX X EE) {as : List Ar} (arg : α) (ρ' : β → List Slot) (ha : JA X B ρ (e :: es) (.ok ()) (fun _ => as) (fun _ => ρ)) (hne : ∀ e, ¬ B.rs e) (hi : goodIn ρ as = true := by rfl) (hins : insAt 0 ρ as = ins arg := by rfl)
    (ho : ∀ b, goodOut 0 as (outs b) = true := by intro _; rfl) (hal : aliOk ρ as = true := by rfl) (hres : ∀ b, resOk (sl b) = true := by intro _; rfl) (hρ : ∀ b, backAt ρ (movedAt ρ as) as (outs b) = ρ' b := by intro _; rfl)
    (hdb : (x == ("__debug__" : Str)) = false := by decide) (he : starEach (e :: es) X.env = (false, eval e X.env) :: starEach es X.env := by rfl) (hpl : (backTo pos (starEach es X.env)).any (·.1) = false := by rfl) :
    JE X B ρ (.Call (.Name x p) (e :: es) [] pos) (mf arg) sl ρ' := by
  have h := je_callP (pos := pos) (p := p) F hr hg hm hk hb hx arg ha hne hi hins ho hal hres hdb he hpl
  have e1 : (fun y => backAt ρ (movedAt ρ as) as (outs y)) = ρ' := funext hρ
  rw [e1] at h
  exact h
theorem js_setPQ (i : Nat) {x : Str} {pos' : Pos} (en : α → D) (v : α) (ρ2 : α → List Slot) {k : α → R (Fl N L T)} (hN : X.N.Nodup) (h : JP X B ρ e (en v)) (r : ∀ x, JSs X B (ρ2 x) rest (k x) F) (hq : ∀ x, ρ.set i (.val (en x)) = ρ2 x := by intro _; rfl) (hi : X.N[i]? = some x := by rfl) (hx : Loc X.env.scope x := by first | exact Or.inl rfl | exact Or.inr rfl)
    (hlt : i < ρ.length := by exact of_decide_eq_true rfl) (hal : noAli i ρ = true := by rfl) (hs : swapsWith e (some (.Name x pos')) pos.line X.env = pure false := by rfl) (hf : X.fn x = true ∨ X.env.scope.names.lookup x = some .local := by first | exact .inl rfl | exact .inr rfl) :
    JSs X B ρ (.Assign [.Name x pos'] e pos :: rest) (lt v k) F :=
  js_setP i en v hN h (fun x => by rw [hq x]; exact r x) hi hx hlt hal hs hf
theorem js_setEQ (i : Nat) {x : Str} {pos' : Pos} (en : α → D) {β : Type} {m : R β} (v : β → α) {ρ' : β → List Slot} (ρ2 : β → α → List Slot) {k : β → α → R (Fl N L T)} (hN : X.N.Nodup) (h : JE X B ρ e m (fun b => .val (en (v b))) ρ') (r : ∀ b x, JSs X B (ρ2 b x) rest (k b x) F) (hq : ∀ b x, (ρ' b).set i (.val (en x)) = ρ2 b x := by intro _ _; rfl) (hi : X.N[i]? = some x := by rfl) (hx : Loc X.env.scope x := by first | exact Or.inl rfl | exact Or.inr rfl)
    (hlt : ∀ b, i < (ρ' b).length := by intro _; exact of_decide_eq_true rfl) (hal : ∀ b, noAli i (ρ' b) = true := by intro _; rfl) (hs : swapsWith e (some (.Name x pos')) pos.line X.env = pure false := by rfl) (hf : X.fn x = true ∨ X.env.scope.names.lookup x = some .local := by first | exact .inl rfl | exact .inr rfl) :
    JSs X B ρ (.Assign [.Name x pos'] e pos :: rest) (m.bind fun b => lt (v b) (k b)) F :=
  js_setE i en v hN h (fun b x => by rw [hq b x]; exact r b x) hi hx hlt hal hs hf
theorem js_setOQ (i : Nat) {x : Str} {pos' : Pos} (on : α → OT) {β : Type} {m : R β} (v : β → α) {ρ' : β → List Slot} (ρ2 : β → α → List Slot) {k : β → α → R (Fl N L T)} (hN : X.N.Nodup) (h : JE X B ρ e m (fun b => .own 0 (on (v b))) ρ') (r : ∀ b x, JSs X B (ρ2 b x) rest (k b x) F) (hq : ∀ b x, (ρ' b).set i (.own 0 (on x)) = ρ2 b x := by intro _ _; rfl) (hi : X.N[i]? = some x := by rfl) (hx : Loc X.env.scope x := by first | exact Or.inl rfl | exact Or.inr rfl)
    (hlt : ∀ b, i < (ρ' b).length := by intro _; exact of_decide_eq_true rfl) (hal : ∀ b, noAli i (ρ' b) = true := by intro _; rfl) (hs : swapsWith e (some (.Name x pos')) pos.line X.env = pure false := by rfl) (hf : X.fn x = true ∨ X.env.scope.names.lookup x = some .local := by first | exact .inl rfl | exact .inr rfl) :
    JSs X B ρ (.Assign [.Name x pos'] e pos :: rest) (m.bind fun b => lt (v b) (k b)) F :=
  js_setO i on v hN h (fun b x => by rw [hq b x]; exact r b x) hi hx hlt hal hs hf
theorem js_consQ1 {st : Stmt} {β : Type} {m : R β} {ρ' : β → List Slot} (ρ2 : β → List Slot) {k : β → R (Fl N L T)} (h : J1 X B ρ st m ρ') (r : ∀ b, JSs X B (ρ2 b) rest (k b) F) (hq : ∀ b, ρ' b = ρ2 b := by intro _; rfl) : JSs X B ρ (st :: rest) (m.bind k) F :=
  js_cons1 h fun b => by rw [hq b]; exact r b
theorem js_consQP {st : Stmt} {ρ' : List Slot} (ρ2 : List Slot) {k : R (Fl N L T)} (h : J1 X B ρ st (.ok ()) (fun _ => ρ')) (r : JSs X B ρ2 rest k F) (hq : ρ' = ρ2 := by rfl) : JSs X B ρ (st :: rest) k F :=
  js_consP h (by rw [hq]; exact r)
end
end DL

/-! DL26: a row of rows, changed by another name -/
namespace DL
open PySem PySem.Spec L2
section
variable {X : Cx} {B : Base} {ρ : List Slot} {N L T : Type}
theorem dint_rp {K : PySem.W.Frag} {G : Hp} {vs : List V} {ns : List Int} (h : RpAll K G vs (ns.map D.int)) : vs = ns.map V.int := h.ints
theorem ints_flat : ∀ ns : List Int, (ns.map V.int).all flatV = true
  | [] => rfl
  | n :: ns => by
    rw [List.map_cons, List.all_cons, ints_flat ns]
    rfl
theorem js_behind {rows : List (List Int)} {kp kv kw : Int} {l : Nat} (i j ip iv iw : Nat) {nr nx np nv nw : Str} {q1 q2 q3 q4 q5 q6 q7 q8 q9 q10 q11 q12 q13 q14 ap ap2 : Pos} {k1 : Nat} {F : Fin N L T} (bs : List Bool) (fN : List (List Int) → N)
    (hN : X.N.Nodup) (hj : ρ[j]? = some (.own l (oLL D.int rows)) := by rfl) (hp : ρ[ip]? = some (.val (.int kp)) := by rfl) (hv : ρ[iv]? = some (.val (.int kv)) := by rfl) (hw : ρ[iw]? = some (.val (.int kw)) := by rfl) (hi : i < ρ.length := by exact of_decide_eq_true rfl) (hal : noAlis ρ = true := by rfl)
    (hal2 : noAlis (ρ.set i .non) = true := by rfl)
    (ni : X.N[i]? = some nx := by rfl) (nj : X.N[j]? = some nr := by rfl) (np' : X.N[ip]? = some np := by rfl) (nv' : X.N[iv]? = some nv := by rfl) (nw' : X.N[iw]? = some nw := by rfl)
    (vi : Vis X.env.scope nx := by first | exact Or.inl rfl | exact Or.inr (Or.inl rfl) | exact Or.inr (Or.inr rfl)) (vj : Vis X.env.scope nr := by first | exact Or.inl rfl | exact Or.inr (Or.inl rfl) | exact Or.inr (Or.inr rfl)) (vp : Vis X.env.scope np := by first | exact Or.inl rfl | exact Or.inr (Or.inl rfl) | exact Or.inr (Or.inr rfl))
    (vv : Vis X.env.scope nv := by first | exact Or.inl rfl | exact Or.inr (Or.inl rfl) | exact Or.inr (Or.inr rfl)) (vw : Vis X.env.scope nw := by first | exact Or.inl rfl | exact Or.inr (Or.inl rfl) | exact Or.inr (Or.inr rfl))
    (d1 : (nx == ("__debug__" : Str)) = false ∧ (nr == ("__debug__" : Str)) = false ∧ (np == ("__debug__" : Str)) = false ∧ (nv == ("__debug__" : Str)) = false ∧ (nw == ("__debug__" : Str)) = false := by decide)
    (d2 : (nx == ("__classdict__" : Str)) = false ∧ (nr == ("__classdict__" : Str)) = false ∧ (np == ("__classdict__" : Str)) = false ∧ (nv == ("__classdict__" : Str)) = false ∧ (nw == ("__classdict__" : Str)) = false := by decide)
    (dd : i ≠ j ∧ i ≠ ip ∧ i ≠ iv ∧ i ≠ iw := by decide) (hx : Loc X.env.scope nx := by first | exact Or.inl rfl | exact Or.inr rfl) (hf : X.fn nx = true ∨ X.env.scope.names.lookup nx = some .local := by first | exact .inl rfl | exact .inr rfl)
    (hF : ∀ rs, forgot ((ρ.set i .non).set j (.own l (oLL D.int rs))) bs = F.n (fN rs) := by intro _; rfl)
    (sw : swapsWith (.Subscript (.Name nr q2) (.Name np q3) q4) (some (.Name nx q1)) q5.line X.env = pure false := by rfl) (hs : PlainIx (.Name np q3) := by exact fun _ _ => rfl)
    (sw2 : swapsWith (.Call (.Attribute (.Name nx q6) "insert" ap) [.BinOp (.Call (.Attribute (.Name nx q7) "index" ap2) [.Name nv q8] [] q9) .Add (.Constant (.int 1) k1 q10) q11, .Name nw q12] [] q13) none q14.line X.env = pure false := by rfl)
    (st1 : starEach [.Name nv q8] X.env = (false, eval (.Name nv q8) X.env) :: starEach [] X.env := by rfl)
    (ba1 : attributeBase (.Name nx q7) "index" X.env (eval (.Name nx q7) X.env) = eval (.Name nx q7) X.env := by rfl)
    (fe1 : ((backTo q9 (starEach [.Name nv q8] X.env)).all (fun x => !x.1) && (backToKw q9 (keywordEach [] X.env)).all (fun x => x.1.isSome) && decide ([Expr.Name nv q8].length + ([] : List Keyword).length + (if ([] : List Keyword).isEmpty then 0 else 1) < 30)) = true := by rfl)
    (li1 : (ap2.endLine == q9.line) = true := by rfl) (pl1 : (backTo q9 (starEach [] X.env)).any (·.1) = false := by rfl)
    (st2 : starEach [.BinOp (.Call (.Attribute (.Name nx q7) "index" ap2) [.Name nv q8] [] q9) .Add (.Constant (.int 1) k1 q10) q11, .Name nw q12] X.env = (false, eval (.BinOp (.Call (.Attribute (.Name nx q7) "index" ap2) [.Name nv q8] [] q9) .Add (.Constant (.int 1) k1 q10) q11) X.env) :: starEach [.Name nw q12] X.env := by rfl)
    (st3 : starEach [.Name nw q12] X.env = (false, eval (.Name nw q12) X.env) :: starEach [] X.env := by rfl)
    (ba2 : attributeBase (.Name nx q6) "insert" X.env (eval (.Name nx q6) X.env) = eval (.Name nx q6) X.env := by rfl)
    (fe2 : ((backTo q13 (starEach [.BinOp (.Call (.Attribute (.Name nx q7) "index" ap2) [.Name nv q8] [] q9) .Add (.Constant (.int 1) k1 q10) q11, .Name nw q12] X.env)).all (fun x => !x.1) && (backToKw q13 (keywordEach [] X.env)).all (fun x => x.1.isSome) && decide ([Expr.BinOp (.Call (.Attribute (.Name nx q7) "index" ap2) [.Name nv q8] [] q9) .Add (.Constant (.int 1) k1 q10) q11, .Name nw q12].length + ([] : List Keyword).length + (if ([] : List Keyword).isEmpty then 0 else 1) < 30)) = true := by rfl)
    (li2 : (ap.endLine == q13.line) = true := by rfl) (pl2 : (backTo q13 (starEach [.Name nw q12] X.env)).any (·.1) = false := by rfl) :
    JSs X B ρ [.Assign [.Name nx q1] (.Subscript (.Name nr q2) (.Name np q3) q4) q5, .Expr (.Call (.Attribute (.Name nx q6) "insert" ap) [.BinOp (.Call (.Attribute (.Name nx q7) "index" ap2) [.Name nv q8] [] q9) .Add (.Constant (.int 1) k1 q10) q11, .Name nw q12] [] q13) q14]
      ((R.some (rowAt rows kp)).bind fun r => (R.some (ixOf kv r.2)).bind fun z => (R.guard (r.2.length < sizeLine)).bind fun _ => .ok (.nx (fN (rows.set r.1 (r.2.take (z + 1) ++ [kw] ++ r.2.drop (z + 1)))))) F := by
  have e1 : PE X (.Subscript (.Name nr q2) (.Name np q3) q4) _ := pe_ix ix_list (pv j nj vj d1.2.1 d2.2.1) (pv ip np' vp d1.2.2.1 d2.2.2.1) hs
  have s1 := ps_set (i := i) (pos := q5) (pos' := q1) hN ni hx e1 (hs := sw) (hf := hf)
  have eix := pe_bm (apos := ap2) (cpos := q9) PySem.F.plainAttrs_list PySem.F.slot_list_index PySem.F.type_list_index mt_index (pv (pos := q7) i ni vi d1.1 d2.1) (pa_cons (pv (pos := q8) iv nv' vv d1.2.2.2.1 d2.2.2.2.1) pa_nil st1) ba1 fe1 li1 st1 pl1
  have eadd := pe_op (pos := q11) op_add eix (pe_int (X := X) (i := 1) (j := k1) (pos := q10))
  have e2 := pe_bm (apos := ap) (cpos := q13) PySem.F.plainAttrs_list PySem.F.slot_list_insert PySem.F.type_list_insert mt_insert (pv (pos := q6) i ni vi d1.1 d2.1) (pa_cons eadd (pa_cons (pv (pos := q12) iw nw' vw d1.2.2.2.2 d2.2.2.2.2) pa_nil st3) st2) ba2 fe2 li2 st2 pl2
  have s2 := ps_expr (pos := q14) e2 sw2
  refine PSs_imp (pss_cons s1 (pss_one s2)) fun Dn σ H ⟨G, E, q⟩ => ?_
  obtain ⟨vp0, g1, g2⟩ := E.get hp
  obtain ⟨vv0, g3, g4⟩ := E.get hv
  obtain ⟨vw0, g5, g6⟩ := E.get hw
  have g2 := g2.int_inv
  have g4 := g4.int_inv
  have g6 := g6.int_inv
  subst g2 g4 g6
  obtain ⟨r, hr, q⟩ := R.post_some (R.post_bind.mp q)
  obtain ⟨r1, r2⟩ := rowAt_get hr
  obtain ⟨z, hz, q⟩ := R.post_some (R.post_bind.mp q)
  obtain ⟨z1, z2⟩ := ixOf_some hz
  obtain ⟨hg, q⟩ := R.post_guard (R.post_bind.mp q)
  have sub := subL1 (f := D.int) r2
  obtain ⟨v, a, vs, f1, f2, f3, f4, _⟩ := E.putAt hj hal sub
  have f4' := f4.ints
  subst f4'
  obtain ⟨b, ws, u, rfl, f5, f6, f7⟩ := f2
  have f7 : u = .ref a := f7
  subst f7
  have lws : ws.length = rows.length := by
    obtain ⟨A, c, n, g⟩ := E.own
    obtain ⟨v', A1, A2, e1, hO, hl, c2, pm⟩ := Cells.take1 (show Cells X.K B G H σ ρ A from c) hj
    rw [f1] at e1
    injection e1 with e1
    injection e1 with e1
    subst e1
    cases hO with
    | lst ha hall =>
      rw [f5] at ha
      injection ha with ha
      injection ha with ha
      rw [ha, hall.len, List.length_map]
  refine ⟨.ref b, f1, .int kp, g1, b, ws, kp, .ref a, rfl, rfl, .inl (.inl f5), ?_, ?_⟩
  · unfold atI
    rw [lws, r1]
    exact f6
  have E2 : En X.K B G H (σ.set i (some (.ref a))) (ρ.set i .non) [] := by
    obtain ⟨A, c, n, g⟩ := E.own
    obtain ⟨A', C, c', p1, p2⟩ := (show Cells X.K B G H σ ρ A from c).set (x := some (.ref a)) (s := .non) .non hi
    rw [List.nil_append] at p1
    refine ⟨E.anc, ⟨A', c', p1.nodup_iff.mpr (p2.nodup n), fun x m => g x (p2.subset (p1.mem_iff.mp m))⟩, by rw [List.length_set, List.length_set]; exact E.len, fun k' j' p e => ?_⟩
    exact absurd e (noAlis_get hal2)
  have hσ : i < σ.length := by
    have := E.len
    omega
  have si : (σ.set i (some (.ref a)))[i]? = some (some (.ref a)) := List.getElem?_set_self hσ
  have so : ∀ {k : Nat} {v : V}, i ≠ k → σ[k]? = some (some v) → (σ.set i (some (.ref a)))[k]? = some (some v) := fun h e => by
    rw [List.getElem?_set_ne h]
    exact e
  have hz' := (List.getElem?_eq_some_iff.mp z1).1
  have ty : tyV X.K "list" (.ref a) H := .inl ⟨rfl, _, .inl (.inl f3)⟩
  refine ⟨.ref a, si, ty, .ref a, si, ty, .int kv, so dd.2.2.1 g3, a, _, .int kv, z, .int kv, rfl, rfl, .inl (.inl f3), rfl, ints_flat _, by rw [List.getElem?_map, z1]; rfl, by simp [eqV], fun m z' hm hz2 => ?_, (z : Int), 1, rfl, rfl, .int kw, so dd.2.2.2 g5, a, _, (z : Int) + 1, .int kw, rfl, rfl, f3, by rw [List.length_map]; exact hg, by omega, ?_, ?_⟩
  · rw [List.getElem?_map] at hz2
    cases hy : r.2[m]? with
    | none =>
      rw [hy] at hz2
      cases hz2
    | some y =>
      rw [hy] at hz2
      injection hz2 with hz2
      subst hz2
      have : y ≠ kv := fun e => z2 m hm (by rw [hy, e])
      simp [eqV, this]
  · have : sizeLine < 2 ^ 62 := by decide
    omega
  · have hj2 : (ρ.set i .non)[j]? = some (.own l (oLL D.int rows)) := by
      rw [List.getElem?_set_ne dd.1]
      exact hj
    obtain ⟨v, a', vs', k1, k2, k3, k4, k5⟩ := E2.putAt hj2 hal2 sub
    have ev : v = .ref b := by
      rw [so dd.1 f1] at k1
      injection k1 with k1
      injection k1 with k1
      exact k1.symm
    subst ev
    have ea : V.ref a' = V.ref a := At.fun_ k2 ⟨b, ws, .ref a, rfl, f5, f6, rfl⟩
    injection ea with ea
    subst ea
    have E3 := k5 (((r.2.take (z + 1) ++ [kw] ++ r.2.drop (z + 1))).map V.int) ((r.2.take (z + 1) ++ [kw] ++ r.2.drop (z + 1)).map D.int) (RpAll.of_ints _)
    rw [putS1 sub] at E3
    have E4 := E3.forgot bs
    rw [hF] at E4
    have en : ((z : Int) + 1).toNat = z + 1 := by omega
    have em : (List.take ((z : Int) + 1).toNat (r.2.map V.int) ++ [V.int kw] ++ List.drop ((z : Int) + 1).toNat (r.2.map V.int)) = ((r.2.take (z + 1) ++ [kw] ++ r.2.drop (z + 1))).map V.int := by
      rw [en, List.map_append, List.map_append, List.map_take, List.map_drop]
      rfl
    rw [em]
    exact q _ G _ (Ex.refl G) E4
end
end DL

/-! DL27: dicts of one's own, by whole numbers; list(range(..)); sorted -/
namespace DL
open PySem PySem.Spec L2
instance (a b : Int) : Decidable (RgOk a b) := by unfold RgOk; infer_instance
section
variable {β : Type}
@[reducible] def odK (f : β → D) (kvs : List (Int × β)) : OT := .dk (kvs.map fun p => (Sum.inl p.1, f p.2))
def hasK (k : Int) (kvs : List (Int × β)) : Bool := kvs.any fun p => decide (p.1 = k)
def putI (kvs : List (Int × β)) (k : Int) (v : β) : List (Int × β) := if hasK k kvs = true then kvs.map (fun p => if p.1 = k then (p.1, v) else p) else kvs ++ [(k, v)]
def mergeI (kvs more : List (Int × β)) : List (Int × β) := more.foldl (fun acc p => putI acc p.1 p.2) kvs
end
section
variable {K : PySem.W.Frag} {G : Hp} {β : Type} {f : β → D}
theorem inl_dec (a k : Int) : decide ((Sum.inl a : Key) = Sum.inl k) = decide (a = k) := decide_eq_decide.mpr ⟨fun h => Sum.inl.inj h, fun h => by rw [h]⟩
theorem rpe_any {kvs : List (Key × V)} {ds : List (Int × β)} (h : RpE K G kvs (ds.map fun p => (Sum.inl p.1, f p.2))) (k : Int) : (kvs.any fun kv => decide (kv.1 = Sum.inl k)) = hasK k ds := by
  induction ds generalizing kvs with
  | nil =>
    cases h
    rfl
  | cons d ds ih =>
    cases h with
    | cons h1 h2 =>
      rw [List.any_cons, ih h2]
      show (decide ((Sum.inl d.1 : Key) = Sum.inl k) || hasK k ds) = _
      rw [inl_dec]
      rfl
theorem rpe_len {kvs : List (Key × V)} {ds : List (Key × D)} (h : RpE K G kvs ds) : kvs.length = ds.length := by
  induction h with
  | nil => rfl
  | cons _ _ ih => rw [List.length_cons, List.length_cons, ih]
theorem rpe_append {kvs kws : List (Key × V)} {ds es : List (Key × D)} (h : RpE K G kvs ds) (h2 : RpE K G kws es) : RpE K G (kvs ++ kws) (ds ++ es) := by
  induction h with
  | nil => exact h2
  | cons h _ ih => exact .cons h ih
theorem rpe_put {kvs : List (Key × V)} {ds : List (Int × β)} (h : RpE K G kvs (ds.map fun p => (Sum.inl p.1, f p.2))) {k : Int} {v : V} {d : β} (r : Rp K G v (f d)) : RpE K G (putK kvs (Sum.inl k) v) ((putI ds k d).map fun p => (Sum.inl p.1, f p.2)) := by
  unfold putK putI
  rw [rpe_any h k]
  by_cases e : hasK k ds = true
  · rw [if_pos e, if_pos e]
    clear e
    induction ds generalizing kvs with
    | nil =>
      cases h
      exact .nil
    | cons x ds ih =>
      cases h with
      | @cons _ w _ _ _ h1 h2 =>
        rw [List.map_cons, List.map_cons, List.map_cons]
        by_cases e : x.1 = k
        · rw [if_pos (show (Sum.inl x.1 : Key) = Sum.inl k by rw [e]), if_pos e]
          exact .cons r (ih h2)
        · rw [if_neg (show ¬ (Sum.inl x.1 : Key) = Sum.inl k from fun z => e (Sum.inl.inj z)), if_neg e]
          exact .cons h1 (ih h2)
  · rw [if_neg e, if_neg e, List.map_append]
    exact rpe_append h (.cons r .nil)
theorem rpe_merge : ∀ {more : List (Int × β)} {kws : List (Key × V)} {kvs : List (Key × V)} {ds : List (Int × β)}, RpE K G kws (more.map fun p => (Sum.inl p.1, f p.2)) → RpE K G kvs (ds.map fun p => (Sum.inl p.1, f p.2)) → RpE K G (mergeK kvs kws) ((mergeI ds more).map fun p => (Sum.inl p.1, f p.2))
  | [], _, _, _, .nil, h => h
  | m :: more, kws, kvs, ds, h0, h => by
    cases h0 with
    | @cons _ w _ r _ h1 h2 => exact rpe_merge (more := more) (kws := r) (ds := putI ds m.1 m.2) h2 (rpe_put h h1)
theorem valV_some (k : Key) (kvs : List (Key × V)) : (valV kvs k).isSome = kvs.any fun kv => decide (kv.1 = k) := (valV_any k kvs).symm
end
section
variable {K : PySem.W.Frag} {B : Base} {G H : Hp} {σ : L2.St} {ρ : List Slot} {ex : List (V × Slot)}
/-- a new dict, owned -/
theorem En.newDK (E : En K B G H σ ρ ex) {p : Addr} (hp : H p = none) {kvs : List (Key × V)} {ds : List (Key × D)} (r : RpE K G kvs ds) : En K B G (upd H p (.dK kvs)) σ ρ ((.ref p, .own 0 (.dk ds)) :: ex) := by
  obtain ⟨A, c, n, f⟩ := E.own
  have hG := E.sub.back hp
  have h0 := E.fresh hp
  have hn : p ∉ A := fun m => by
    obtain ⟨u, hu⟩ := c.there p m
    rw [hu] at hp
    cases hp
  refine ⟨E.anc.put hG (.inr h0) _, ⟨p :: ([] ++ A), .cons (A := [p]) (.own (.dk upd_same r) (fun a m => by
      rw [List.mem_singleton.mp m]
      exact .inr h0) (.inl rfl)) (c.ex (Ex.refl G) fun a m u e => by
      rw [upd_ne (ne_of_none e hp)]
      exact e), ?_, fun a m => ?_⟩, E.len, fun i j q e => ?_⟩
  · exact List.nodup_cons.mpr ⟨hn, n⟩
  · rcases List.mem_cons.mp m with rfl | m
    · exact hG
    · exact f a m
  · obtain ⟨v, w, h1, h2, h3⟩ := E.ali i j q e
    exact ⟨v, w, h1, h2, h3.ex (Ex.new hp)⟩
theorem En.ownDK (E : En K B G H σ ρ ex) {i l : Nat} {ds : List (Key × D)} (h : ρ[i]? = some (.own l (.dk ds))) (hal : noAlis ρ = true) : ∃ p kvs, σ[i]? = some (some (.ref p)) ∧ H p = some (.dK kvs) ∧ RpE K G kvs ds ∧
    ∀ kvs' ds', RpE K G kvs' ds' → En K B G (upd H p (.dK kvs')) σ (ρ.set i (.own l (.dk ds'))) ex := by
  obtain ⟨A0, c, n, g⟩ := E.own
  have hi : i < ρ.length := (List.getElem?_eq_some_iff.mp h).1
  have h' : (ex.map (·.2) ++ ρ)[ex.length + i]? = some (.own l (.dk ds)) := by
    rw [List.getElem?_append_right (by simp), List.length_map]
    simpa using h
  obtain ⟨v, A, A2, e1, hO, ⟨hl, hp⟩, c2, pm⟩ := c.take1 h'
  rw [List.getElem?_append_right (by simp), List.length_map] at e1
  have e1 : σ[i]? = some (some v) := by simpa using e1
  have nn := pm.nodup_iff.mp n
  have n1 := List.nodup_append.mp nn
  cases hO with
  | @dk a kvs _ ha hr =>
    refine ⟨a, kvs, e1, ha, hr, fun kvs' ds' r' => ?_⟩
    have hG : G a = none := g a (pm.mem_iff.mpr (List.mem_append_left _ List.mem_cons_self))
    have c3 : Cells K B G (upd H a (.dK kvs')) (ex.map (fun p => some p.1) ++ σ) ((ex.map (·.2) ++ ρ).set (ex.length + i) .non) A2 := c2.ex (Ex.refl G) fun b m u e => by
      rw [upd_ne (fun z => by
        subst z
        exact n1.2.2 b List.mem_cons_self b m rfl)]
      exact e
    obtain ⟨A8, c8, p8⟩ := c3.put1 (i := ex.length + i) (l := l) (o := .dk ds') (v := .ref a) (A1 := [a]) (by
      rw [List.getElem?_set_self]
      rw [List.length_append, List.length_map]
      omega) (by
      rw [List.getElem?_append_right (by simp), List.length_map]
      simpa using e1) (.dk upd_same r') ⟨hl, hp⟩
    rw [List.set_set, List.set_append_right _ _ (by simp), List.length_map, Nat.add_sub_cancel_left] at c8
    refine ⟨E.anc.put hG ((hl a List.mem_cons_self).elim (fun z => .inl ⟨l, z⟩) .inr) _, ⟨A8, c8, p8.nodup_iff.mpr nn, fun b m => g b (pm.mem_iff.mpr (p8.mem_iff.mp m))⟩, by rw [List.length_set]; exact E.len, fun k j q e => ?_⟩
    by_cases hk : i = k
    · subst hk
      rw [List.getElem?_set_self hi] at e
      cases e
    · rw [List.getElem?_set_ne hk] at e
      exact absurd e (noAlis_get hal)
end
section
variable {X : Cx} {B : Base} {ρ : List Slot} {e a b o2 val : Expr} {es : List Expr} {pos pos' : Pos} {β γ : Type}
/-- dict(l), a list of pairs -/
theorem pairs_rp {K : PySem.W.Frag} {G : Hp} {f : β → D} : ∀ {xs : List (Int × β)} {vs : List V}, RpAll K G vs (xs.map (eP2 D.int f)) → ∃ (ps : List Addr) (kvs : List (Key × V)), vs = ps.map V.ref ∧ Paired (fun p kv => SqT K G p [kV kv.1, kv.2]) ps kvs ∧ RpE K G kvs (xs.map fun p => (Sum.inl p.1, f p.2))
  | [], _, .nil => ⟨[], [], rfl, .nil, .nil⟩
  | x :: xs, _, .cons h r => by
    obtain ⟨ps, kvs, e1, e2, e3⟩ := pairs_rp r
    obtain ⟨p, ws, e4, hS, hr⟩ := h.tup_inv
    obtain ⟨v, w, rfl, h1, h2⟩ := rp2 hr
    have h1 := h1.int_inv
    subst h1 e1 e4
    exact ⟨p :: ps, (Sum.inl x.1, w) :: kvs, rfl, .cons hS e2, .cons h2 e3⟩
def rDictP (K : PySem.W.Frag) : List V → Hp → VK → Prop := fun xs H Q => ∃ (a : Addr) (ps : List Addr) (kvs : List (Key × V)), xs = [.ref a] ∧ SqL K H a (ps.map V.ref) ∧ Paired (fun p kv => SqT K H p [kV kv.1, kv.2]) ps kvs ∧
    ∀ p, H p = none → Q (.ref p) (upd H p (.dK (mergeK [] kvs)))
theorem paired_ex {K : PySem.W.Frag} {G H : Hp} (e : Ex G H) : ∀ {ps : List Addr} {kvs : List (Key × V)}, Paired (fun p kv => SqT K G p [kV kv.1, kv.2]) ps kvs → Paired (fun p kv => SqT K H p [kV kv.1, kv.2]) ps kvs
  | _, _, .nil => .nil
  | _, _, .cons h r => .cons (e.t h) (paired_ex e r)
theorem cb_dictP {K : PySem.W.Frag} {f : β → D} {xs : List (Int × β)} : CbD K B ρ (rDictP K) [.val (eL (eP2 D.int f) xs)] (.ok ()) (fun _ => .own 0 (odK f (mergeI [] xs))) := fun G H σ vs Q E ok q => by
  obtain ⟨v, rfl, r⟩ := ok.one
  obtain ⟨p, ws, rfl, hS, hr⟩ := r.lst_inv
  obtain ⟨ps, kvs, rfl, e2, e3⟩ := pairs_rp hr
  refine ⟨p, ps, kvs, rfl, .inl (E.sub.rd hS), paired_ex E.sub e2, fun p' hp => q _ G _ (Ex.refl G) (E.newDK hp (rpe_merge (ds := ([] : List (Int × β))) e3 .nil))⟩
/-- d[k] = v -/
theorem j1_dputK (i : Nat) {x : Str} {px : Pos} {l : Nat} {f : β → D} {kvs : List (Int × β)} {k : Int} {v : β} (hu : X.A.units + 64 < cLine) (h : ρ[i]? = some (.own l (odK f kvs)) := by rfl) (hk : JP X B ρ o2 (.int k)) (hv : JP X B ρ val (f v)) (hal : noAlis ρ = true := by rfl) (hN : X.N[i]? = some x := by rfl)
    (hvi : Vis X.env.scope x := by first | exact Or.inl rfl | exact Or.inr (Or.inl rfl) | exact Or.inr (Or.inr rfl)) (hd : (x == ("__debug__" : Str)) = false := by decide) (hcd : (x == ("__classdict__" : Str)) = false := by decide)
    (hs : swapsWith val (some (.Subscript (.Name x px) o2 pos')) pos.line X.env = pure false := by rfl) :
    J1 X B ρ (.Assign [.Subscript (.Name x px) o2 pos'] val pos) (R.guard (kvs.length < sizeLine)) (fun _ => ρ.set i (.own l (odK f (putI kvs k v)))) :=
  PS_imp (ps_dput (by omega) (pv (X := X) (pos := px) i hN hvi hd hcd) hk hv hs) fun Dn σ H ⟨G, E, q⟩ => by
    obtain ⟨hc, q⟩ := R.post_guard q
    refine ⟨G, E, fun w G1 H1 x1 E1 => ?_⟩
    obtain ⟨p, kv, g1, g2, g3, _⟩ := E1.pop.ownDK h hal
    refine ⟨.ref p, g1, G1, E1.pop, fun y G2 H2 x2 E2 => ?_⟩
    have hy := E2.top.int_inv
    subst hy
    obtain ⟨p', kv', f1, f2, f3, f4⟩ := E2.pop.ownDK h hal
    have ep : p' = p := by
      have z := f1.symm.trans g1
      injection z with z
      injection z with z
      injection z
    subst ep
    have hl : kv'.length < sizeLine := by
      rw [rpe_len f3, List.length_map]
      exact hc
    exact ⟨p', _, rfl, DPut.k (k := Sum.inl k) (v := w) f2 hl, q σ G2 _ (x1.trans x2) (f4 _ _ (rpe_put f3 (E1.top.ex x2)))⟩
/-- k in d, k not in d -/
theorem je_dinK (i : Nat) {x : Str} {px : Pos} {l : Nat} {f : β → D} {kvs : List (Int × β)} {k : Int} (hu : X.A.units + 64 < cLine) (h : ρ[i]? = some (.own l (odK f kvs)) := by rfl) (hk : JP X B ρ a (.int k)) (hal : noAlis ρ = true := by rfl) (hN : X.N[i]? = some x := by rfl)
    (hvi : Vis X.env.scope x := by first | exact Or.inl rfl | exact Or.inr (Or.inl rfl) | exact Or.inr (Or.inr rfl)) (hd : (x == ("__debug__" : Str)) = false := by decide) (hcd : (x == ("__classdict__" : Str)) = false := by decide)
    (hm : behindInMarks .In (.Name x px) = false := by rfl) :
    JP X B ρ (.Compare a [.In] [.Name x px] pos) (.bool (hasK k kvs)) :=
  PE_imp (pe_cmp (pc_din (by omega) hk (pv (X := X) (pos := px) i hN hvi hd hcd)) hm) fun σ H Q ⟨G, E, q⟩ => by
    refine ⟨G, E, fun w G1 H1 x1 E1 => ?_⟩
    have hy := E1.top.int_inv
    subst hy
    obtain ⟨p, kv, g1, g2, g3, _⟩ := E1.pop.ownDK h hal
    refine ⟨.ref p, g1, p, _, rfl, DGet.k (k := Sum.inl k) g2, ?_⟩
    rw [valV_some, rpe_any g3]
    exact q _ G1 H1 x1 (E1.pop.push (.bl _))
theorem je_dniK (i : Nat) {x : Str} {px : Pos} {l : Nat} {f : β → D} {kvs : List (Int × β)} {k : Int} (hu : X.A.units + 64 < cLine) (h : ρ[i]? = some (.own l (odK f kvs)) := by rfl) (hk : JP X B ρ a (.int k)) (hal : noAlis ρ = true := by rfl) (hN : X.N[i]? = some x := by rfl)
    (hvi : Vis X.env.scope x := by first | exact Or.inl rfl | exact Or.inr (Or.inl rfl) | exact Or.inr (Or.inr rfl)) (hd : (x == ("__debug__" : Str)) = false := by decide) (hcd : (x == ("__classdict__" : Str)) = false := by decide)
    (hm : behindInMarks .NotIn (.Name x px) = false := by rfl) :
    JP X B ρ (.Compare a [.NotIn] [.Name x px] pos) (.bool (!hasK k kvs)) :=
  PE_imp (pe_cmp (pc_dnotin (by omega) hk (pv (X := X) (pos := px) i hN hvi hd hcd)) hm) fun σ H Q ⟨G, E, q⟩ => by
    refine ⟨G, E, fun w G1 H1 x1 E1 => ?_⟩
    have hy := E1.top.int_inv
    subst hy
    obtain ⟨p, kv, g1, g2, g3, _⟩ := E1.pop.ownDK h hal
    refine ⟨.ref p, g1, p, _, rfl, DGet.k (k := Sum.inl k) g2, ?_⟩
    rw [valV_some, rpe_any g3]
    exact q _ G1 H1 x1 (E1.pop.push (.bl _))
/-- list(range(i)), list(range(i, j)) -/
theorem rgV_rng (i j : Int) : rgV i j = (rng i j).map V.int := by
  unfold rgV rng
  rw [List.map_map]
  rfl
theorem je_lrg1 {p p2 pos2 : Pos} {i : Int} (hc : X.calm = true) (hm : X.mg "list" = none) (hm2 : X.mg "range" = none) (ha : JP X B ρ a (.int i)) (hg : Gl X "list" := by rfl) (hg2 : Gl X "range" := by rfl)
    (na : starEach [a] X.env = (false, eval a X.env) :: starEach [] X.env := by rfl) (nb : starEach [.Call (.Name "range" p2) [a] [] pos2] X.env = (false, eval (.Call (.Name "range" p2) [a] [] pos2) X.env) :: starEach [] X.env := by rfl) :
    JE X B ρ (.Call (.Name "list" p) [.Call (.Name "range" p2) [a] [] pos2] [] pos) (R.guard (RgOk 0 i)) (fun _ => .own 0 (oL D.int (rng 0 i))) (fun _ => ρ) :=
  PE_imp (pe_listRg hc hg hm (prg_1 hg2 hm2 ha na) nb) fun σ H Q ⟨G, E, q⟩ => by
    obtain ⟨hk, q⟩ := R.post_guard q
    refine ⟨G, E, fun v G1 H1 x1 E1 => ?_⟩
    have hn := E1.top.int_inv
    subst hn
    refine ⟨i, rfl, hk, fun p hp => q _ G1 _ x1 ?_⟩
    rw [rgV_rng]
    exact E1.pop.newL hp (RpAll.of_ints _)
/-- sorted(l), whole numbers -/
def sortI (ns : List Int) : List Int := ns.mergeSort (fun a b => decide (a ≤ b))
theorem sortI_perm (ns : List Int) : (sortI ns).Perm ns := List.mergeSort_perm ns _
theorem sortI_sorted (ns : List Int) : (sortI ns).Pairwise (· ≤ ·) := by
  have := List.pairwise_mergeSort (le := fun a b : Int => decide (a ≤ b)) (fun a b c h1 h2 => by
    simp at *
    omega) (fun a b => by
    simp
    omega) ns
  exact this.imp fun h => by simpa using h
theorem sorted_eq {a b : List Int} (h : a.Perm b) (ha : a.Pairwise (· ≤ ·)) (hb : b.Pairwise (· ≤ ·)) : a = b := h.eq_of_pairwise (fun x y _ _ h1 h2 => Int.le_antisymm h1 h2) ha hb
theorem cb_sortI {K : PySem.W.Frag} {ns : List Int} : CbD K B ρ (rSortedI K) [.val (eL D.int ns)] (.ok ()) (fun _ => .own 0 (oL D.int (sortI ns))) := fun G H σ vs Q E ok q => by
  obtain ⟨v, rfl, r⟩ := ok.one
  obtain ⟨p, ws, rfl, hS, hr⟩ := r.lst_inv
  have hr := hr.ints
  subst hr
  refine ⟨p, ns, rfl, .inl (E.sub.rd hS), fun ns' p' pm st hp => ?_⟩
  have e : ns' = sortI ns := sorted_eq (pm.trans (sortI_perm ns).symm) st (sortI_sorted ns)
  subst e
  exact q _ G _ (Ex.refl G) (E.newL hp (RpAll.of_ints _))
/-- owned rows given up -/
theorem je_frzLL {α : Type} {m : R β} {f : α → D} {v : β → List (List α)} {ρ' : β → List Slot} (h : JE X B ρ e m (fun b => .own 0 (oLL f (v b))) ρ') : JE X B ρ e m (fun b => .val (eL (eL f) (v b))) ρ' := by
  have := je_frz h
  simp only [toD_oLL] at this
  exact this
end
end DL

/-! DL28: stores at a place that is reckoned -/
namespace DL
open PySem PySem.Spec L2
theorem fl_odK {β : Type} {f : β → D} (h : ∀ x, Flat (f x)) (kvs : List (Int × β)) : FlatO (odK f kvs) := by
  rw [odK, FlatO]
  intro p m
  obtain ⟨q, _, e⟩ := List.mem_map.mp m
  subst e
  exact h q.2
section
variable {X : Cx} {B : Base} {ρ : List Slot} {pos : Pos}
theorem jg_subE (i : Nat) {x : Str} {px : Pos} {l : Nat} {α β : Type} {en : α → D} {xs : List α} {y : α} {m : R β} {k : β → Int} {o2 : Expr} (h : ρ[i]? = some (.own l (.lst ((xs.map en).map OT.dat))) := by rfl) (hk : JE X B ρ o2 m (fun b => .val (.int (k b))) (fun _ => ρ)) (hal : noAlis ρ = true := by rfl) (hN : X.N[i]? = some x := by rfl)
    (hv : Vis X.env.scope x := by first | exact Or.inl rfl | exact Or.inr (Or.inl rfl) | exact Or.inr (Or.inr rfl)) (hd : (x == ("__debug__" : Str)) = false := by decide) (hcd : (x == ("__classdict__" : Str)) = false := by decide)
    (ha : ∀ v, assign (.Subscript (.Name x px) o2 pos) X.env v = (do
      let ov ← holding [v] (eval (.Name x px) X.env)
      let iv ← holding [v, ov] (eval o2 X.env)
      standAt pos
      holding [v, ov, iv] (setItem ov iv v)
      release [v, ov, iv] []) := by intro _; rfl) :
    JG X B ρ (.Subscript (.Name x px) o2 pos) (en y) (m.bind fun b => R.some (ixN xs.length (k b))) (fun j => ρ.set i (.own l (.lst (((xs.set j y).map en).map OT.dat)))) :=
  PG_imp (pg_sub (pv i hN hv hd hcd) hk set_list ha) fun v σ H Q ⟨G, E, r, q⟩ => by
    obtain ⟨p, vs, e1, e2, e3, e4⟩ := E.ownD h hal
    refine ⟨.ref p, e1, G, E, R.post_mono (R.post_bind.mp q) fun b q w G1 H1 x1 E1 => ?_⟩
    obtain ⟨j, hj, q⟩ := R.post_some q
    have hn := E1.top.int_inv
    obtain ⟨p', vs', g1, g2, g3, g4⟩ := E1.pop.ownD h hal
    have ep : p' = p := by
      have z := g1.symm.trans e1
      injection z with z
      injection z with z
      injection z
    subst ep
    have hl : vs'.length = xs.length := by
      rw [g3.len, List.length_map]
    refine ⟨p', vs', k b, j, rfl, hn, g2, by rw [hl]; exact hj, q σ G1 _ x1 ?_⟩
    have rs : ∀ {vs : List V} {ds : List D} (j : Nat), RpAll X.K G1 vs ds → RpAll X.K G1 (vs.set j v) (ds.set j (en y)) := by
      intro vs ds j h
      induction ds generalizing vs j with
      | nil =>
        cases h
        exact .nil
      | cons d ds ih =>
        cases h with
        | cons h1 h2 =>
          cases j with
          | zero => exact .cons (r.ex x1) h2
          | succ j => exact .cons h1 (ih j h2)
    have := g4 G1 H1 [] (vs'.set j v) ((xs.map en).set j (en y)) E1.pop (Ex.refl _) g2 (rs j g3)
    rw [← List.map_set] at this
    exact this
end
end DL

/-! DL29: extend; owned lists of owned lists, more -/
namespace DL
open PySem PySem.Spec L2
def rExt3 : V → List V → Hp → VK → Prop := fun x vs H Q => ∃ l b xs zs, x = .ref l ∧ vs = [.ref b] ∧ H l = some (.lst xs) ∧ Rd H b (.lst zs) ∧ xs.length + zs.length ≤ sizeLine ∧ Q .non (upd H l (.lst (xs ++ zs)))
theorem mt_extend2 {X : Cx} : MtR X "list.extend" rExt3 := by
  intro pins s σ H x vs v us Q I rx rv hh
  obtain ⟨l, b, xs, zs, rfl, rfl, hL, hB, few, q⟩ := hh
  cases rx
  obtain ⟨u, rfl, ru⟩ := rv.one
  cases ru
  obtain ⟨z1, i1, n1, r1, e1⟩ := (show Rd H l (.lst xs) from .inl hL).ok I.hok
  obtain ⟨z2, i2, n2, r2, e2⟩ := hB.ok I.hok
  have l1 := r1.length
  have l2 := r2.length
  have both : i1.toArray.size + i2.toArray.size ≤ sizeLine := by
    rw [List.size_toArray, List.size_toArray]
    omega
  have no : ¬ (!i1.toArray.isEmpty && Builtin.List.listTooLong (i1.toArray.size + i2.toArray.size)) = true := by
    rw [notLongL both, Bool.and_false]
    decide
  refine call_meets PySem.F.slot_list_extend ⟨_, e1, rfl⟩ PySem.F.entry_list_extend (PySem.F.args_list_extend_2 _ _) (PySem.AutoSeq1.list_extend_list_list_0 l i1.toArray n1 b i2.toArray n2 no (by rw [List.size_toArray]; omega) (by omega)) ⟨e1, e2, ?_⟩
  refine ⟨.non, _, I.lset (its' := i1 ++ i2) hL e1 (by simp) (r1.append r2) ?_, rfl, q⟩
  rw [List.length_append]
  omega
theorem md_extend2 {K : PySem.W.Frag} {α : Type} {f : α → D} {xs ys : List α} : MtD K rExt3 (xs.map f) [eL f ys] (R.guard (xs.length + ys.length ≤ sizeLine)) (fun _ => .none) (fun _ => (xs ++ ys).map f) := fun G H a vs args Q rs e hH hr ha q => by
  obtain ⟨w, rfl, h2⟩ := rp1 ha
  obtain ⟨b, zs, rfl, hS, hr2⟩ := h2.lst_inv
  obtain ⟨c1, q⟩ := R.post_guard q
  refine ⟨a, b, vs, zs, rfl, rfl, hH, e.rd hS, by rw [hr.len, hr2.len, List.length_map, List.length_map]; exact c1, q _ _ .non ?_⟩
  rw [List.map_append]
  exact hr.append hr2
section
variable {X : Cx} {B : Base} {ρ : List Slot} {pos : Pos} {e : Expr}
theorem je_mapSO {α β S : Type} {m : R β} {on : α → OT} {v : β → α} {st : β → S} {ρ' : S → List Slot} (h : JE X B ρ e m (fun b => .own 0 (on (v b))) (fun b => ρ' (st b))) : JE X B ρ e (m.bind fun b => .ok (v b, st b)) (fun p => .own 0 (on p.1)) (fun p => ρ' p.2) :=
  PE_imp h fun σ H Q ⟨G, E, q⟩ => ⟨G, E, R.post_mono (R.post_bind.mp q) fun b k => k⟩
/-- rows.append(a new owned row) -/
theorem je_appOL (i : Nat) {x : Str} {px ap : Pos} {l l0 : Nat} {os0 : List OT} {β α : Type} {f : α → D} {m : R β} {y : β → List α} {ρ' : β → List Slot} (rows : β → List (List α)) (he : JE X B ρ e m (fun b => .own 0 (oL f (y b))) ρ') (h : ∀ b, (ρ' b)[i]? = some (.own l (oLL f (rows b))) := by intro _; rfl) (hal : ∀ b, noAlis (ρ' b) = true := by intro _; rfl)
    (h0 : ρ[i]? = some (.own l0 (.lst os0)) := by rfl) (hN : X.N[i]? = some x := by rfl) (hv : Vis X.env.scope x := by first | exact Or.inl rfl | exact Or.inr (Or.inl rfl) | exact Or.inr (Or.inr rfl))
    (hd : (x == ("__debug__" : Str)) = false := by decide) (hcd : (x == ("__classdict__" : Str)) = false := by decide) (hst : starEach [e] X.env = (false, eval e X.env) :: starEach [] X.env := by rfl)
    (hbase : attributeBase (.Name x px) "append" X.env (eval (.Name x px) X.env) = eval (.Name x px) X.env := by rfl)
    (hone : ((backTo pos (starEach [e] X.env)).all (fun x => !x.1) && (backToKw pos (keywordEach [] X.env)).all (fun x => x.1.isSome) && decide ([e].length + ([] : List Keyword).length + (if ([] : List Keyword).isEmpty then 0 else 1) < 30)) = true := by rfl)
    (hline : (ap.endLine == pos.line) = true := by rfl) (hnil : (backTo pos (starEach [] X.env)).any (·.1) = false := by rfl) :
    JE X B ρ (.Call (.Attribute (.Name x px) "append" ap) [e] [] pos) (m.bind fun b => (R.guard ((rows b).length < sizeLine)).bind fun _ => .ok b) (fun _ => .val .none) (fun b => (ρ' b).set i (.own l (oLL f (rows b ++ [y b])))) := by
  have k := je_appO (pos := pos) (px := px) (ap := ap) i (fun b => (rows b).map (oL f)) he h hal h0 hN hv hd hcd hst hbase hone hline hnil
  simp only [List.length_map] at k
  have e1 : (fun b => (ρ' b).set i (.own l (.lst ((rows b).map (oL f) ++ [oL f (y b)])))) = fun b => (ρ' b).set i (.own l (oLL f (rows b ++ [y b]))) := funext fun b => by
    rw [oLL, List.map_append]
    rfl
  rw [e1] at k
  exact k
/-- xs.extend(a new list) -/
theorem je_extO (i : Nat) {x : Str} {px ap : Pos} {l l0 : Nat} {os0 : List OT} {β α : Type} {f : α → D} {m : R β} {y : β → List α} {ρ' : β → List Slot} (xs : β → List α) (he : JE X B ρ e m (fun b => .own 0 (oL f (y b))) ρ') (h : ∀ b, (ρ' b)[i]? = some (.own l (oL f (xs b))) := by intro _; rfl) (hal : ∀ b, noAlis (ρ' b) = true := by intro _; rfl)
    (h0 : ρ[i]? = some (.own l0 (.lst os0)) := by rfl) (hN : X.N[i]? = some x := by rfl) (hv : Vis X.env.scope x := by first | exact Or.inl rfl | exact Or.inr (Or.inl rfl) | exact Or.inr (Or.inr rfl))
    (hd : (x == ("__debug__" : Str)) = false := by decide) (hcd : (x == ("__classdict__" : Str)) = false := by decide) (hst : starEach [e] X.env = (false, eval e X.env) :: starEach [] X.env := by rfl)
    (hbase : attributeBase (.Name x px) "extend" X.env (eval (.Name x px) X.env) = eval (.Name x px) X.env := by rfl)
    (hone : ((backTo pos (starEach [e] X.env)).all (fun x => !x.1) && (backToKw pos (keywordEach [] X.env)).all (fun x => x.1.isSome) && decide ([e].length + ([] : List Keyword).length + (if ([] : List Keyword).isEmpty then 0 else 1) < 30)) = true := by rfl)
    (hline : (ap.endLine == pos.line) = true := by rfl) (hnil : (backTo pos (starEach [] X.env)).any (·.1) = false := by rfl) :
    JE X B ρ (.Call (.Attribute (.Name x px) "extend" ap) [e] [] pos) (m.bind fun b => (R.guard ((xs b).length + (y b).length ≤ sizeLine)).bind fun _ => .ok b) (fun _ => .val .none) (fun b => (ρ' b).set i (.own l (oL f (xs b ++ y b)))) :=
  PE_imp (pe_bm PySem.F.plainAttrs_list PySem.F.slot_list_extend PySem.F.type_list_extend mt_extend2 (pv (X := X) (pos := px) i hN hv hd hcd) (pa_cons he pa_nil hst) hbase hone hline hst hnil) fun σ H Q ⟨G, E, q⟩ => by
    obtain ⟨A, c, n, g⟩ := E.own
    obtain ⟨v, A1, A2, e1, hO, hl, c2, pm⟩ := Cells.take1 (show Cells X.K B G H σ ρ A from c) h0
    cases hO with
    | @lst a ws _ A3 ha hall =>
      refine ⟨.ref a, e1, .inl ⟨rfl, _, .inl (.inl ha)⟩, G, E, R.post_mono (R.post_bind.mp q) fun b q w G1 H1 x1 E1 => ?_⟩
      obtain ⟨hc, q⟩ := R.post_guard (R.post_bind.mp q)
      obtain ⟨G2, x2, E2⟩ := E1.frz
      have tp := E2.top
      rw [oL_toD] at tp
      obtain ⟨z, zs, rfl, hS, hr⟩ := tp.lst_inv
      obtain ⟨p, vs, g1, g2, g3, g4⟩ := E2.pop.ownD (h b) (hal b)
      have ep : p = a := by
        have z := g1.symm.trans e1
        injection z with z
        injection z with z
        injection z
      subst ep
      have E3 := g4 G2 H1 [] (vs ++ zs) ((xs b).map f ++ (y b).map f) E2.pop (Ex.refl _) g2 (g3.append hr)
      rw [← List.map_append] at E3
      exact ⟨p, z, vs, zs, rfl, rfl, g2, E2.sub.rd hS, by rw [g3.len, hr.len, List.length_map, List.length_map]; exact hc, q _ G2 _ (x1.trans x2) (E3.push .non)⟩
end
end DL

/-! DL30: an owned list held at its place; walked while it is owned -/
namespace DL
open PySem PySem.Spec L2
def labFree (L : Nat) : List Slot → Bool
  | [] => true
  | .own l _ :: r => l != L && labFree L r
  | _ :: r => labFree L r
def labFree1 (L : Nat) : Slot → Bool
  | .own l _ => l != L
  | _ => true
theorem labFree_cons {L : Nat} {s : Slot} {r : List Slot} : labFree L (s :: r) = (labFree1 L s && labFree L r) := by
  cases s <;> simp [labFree, labFree1]
def Base.pin (B : Base) (L : Nat) (hL : L ≠ 0) (A : List Addr) (v : V) : Base :=
  { B with Mo := fun l => if l = L then B.Mo l ++ A else B.Mo l, m0 := by rw [if_neg (fun h => hL h.symm)]; exact B.m0, pv := fun l => if l = L then some v else B.pv l }
section
variable {K : PySem.W.Frag} {B : Base} {G H : Hp} {σ : L2.St} {ρ : List Slot} {ex : List (V × Slot)} {L : Nat} {hL : L ≠ 0} {A : List Addr} {v : V}
theorem Anc.pin (h : Anc B G H) (hA : ∀ a ∈ A, H a ≠ none) : Anc (B.pin L hL A v) G H := by
  refine ⟨fun a o hm e => h.keep a o (fun l m => hm l ?_) e, fun a l m => ?_, h.gsub, h.gnew, h.sub⟩
  · show a ∈ (if l = L then B.Mo l ++ A else B.Mo l)
    split
    · exact List.mem_append_left _ m
    · exact m
  · have m : a ∈ (if l = L then B.Mo l ++ A else B.Mo l) := m
    split at m
    · rcases List.mem_append.mp m with m | m
      · exact h.there a l m
      · exact hA a m
    · exact h.there a l m
theorem Anc.unpin (h : Anc (B.pin L hL A v) G H) (h0 : ∀ a ∈ A, B.H0 a = none) : Anc B G H := by
  refine ⟨fun a o hm e => h.keep a o (fun l m => ?_) e, fun a l m => h.there a l ?_, h.gsub, h.gnew, h.sub⟩
  · have m : a ∈ (if l = L then B.Mo l ++ A else B.Mo l) := m
    split at m
    · rcases List.mem_append.mp m with m | m
      · exact hm l m
      · rw [h0 a m] at e
        cases e
    · exact hm l m
  · show a ∈ (if l = L then B.Mo l ++ A else B.Mo l)
    split
    · exact List.mem_append_left _ m
    · exact m
theorem Cell.pin {x : Option V} {s : Slot} {A1 : List Addr} (h : Cell K B G H x s A1) (hf : labFree1 L s = true) : Cell K (B.pin L hL A v) G H x s A1 := by
  cases h with
  | non => exact .non
  | val r => exact .val r
  | ali => exact .ali
  | @own w l o _ hO hr hp =>
    have hl : l ≠ L := by simpa [labFree1] using hf
    refine .own hO (fun a m => ?_) (hp.imp id fun z => ?_)
    · rcases hr a m with z | z
      · refine .inl ?_
        show a ∈ (if l = L then B.Mo l ++ A else B.Mo l)
        rw [if_neg hl]
        exact z
      · exact .inr z
    · show (if l = L then some v else B.pv l) = _
      rw [if_neg hl]
      exact z
theorem Cell.unpin {x : Option V} {s : Slot} {A1 : List Addr} (h : Cell K (B.pin L hL A v) G H x s A1) (hf : labFree1 L s = true) : Cell K B G H x s A1 := by
  cases h with
  | non => exact .non
  | val r => exact .val r
  | ali => exact .ali
  | @own w l o _ hO hr hp =>
    have hl : l ≠ L := by simpa [labFree1] using hf
    refine .own hO (fun a m => ?_) (hp.imp id fun z => ?_)
    · rcases hr a m with z | z
      · refine .inl ?_
        have z : a ∈ (if l = L then B.Mo l ++ A else B.Mo l) := z
        rw [if_neg hl] at z
        exact z
      · exact .inr z
    · have z : (if l = L then some v else B.pv l) = some w := z
      rw [if_neg hl] at z
      exact z
theorem Cells.pin : ∀ {τ : List (Option V)} {r : List Slot} {A1 : List Addr}, Cells K B G H τ r A1 → labFree L r = true → Cells K (B.pin L hL A v) G H τ r A1
  | _, _, _, .nil, _ => .nil
  | _, _, _, .cons c r, hf => by
    rw [labFree_cons, Bool.and_eq_true] at hf
    exact .cons (c.pin hf.1) (Cells.pin r hf.2)
theorem Cells.unpin : ∀ {τ : List (Option V)} {r : List Slot} {A1 : List Addr}, Cells K (B.pin L hL A v) G H τ r A1 → labFree L r = true → Cells K B G H τ r A1
  | _, _, _, .nil, _ => .nil
  | _, _, _, .cons c r, hf => by
    rw [labFree_cons, Bool.and_eq_true] at hf
    exact .cons (c.unpin hf.1) (Cells.unpin r hf.2)
theorem labFree_append : ∀ {a b : List Slot}, labFree L (a ++ b) = (labFree L a && labFree L b)
  | [], _ => by simp [labFree]
  | x :: a, b => by
    rw [List.cons_append, labFree_cons, labFree_cons, labFree_append, Bool.and_assoc]
theorem labFree_set : ∀ {r : List Slot} {i : Nat} {s : Slot}, labFree L r = true → labFree1 L s = true → labFree L (r.set i s) = true
  | [], _, _, _, _ => rfl
  | x :: r, 0, s, h, k => by
    rw [labFree_cons, Bool.and_eq_true] at h
    rw [List.set_cons_zero, labFree_cons, k, h.2]
    rfl
  | x :: r, i + 1, s, h, k => by
    rw [labFree_cons, Bool.and_eq_true] at h
    rw [List.set_cons_succ, labFree_cons, h.1, labFree_set h.2 k]
    rfl
/-- what an owned slot holds is named -/
theorem En.pin (E : En K B G H σ ρ []) {i : Nat} {o : OT} (h : ρ[i]? = some (.own 0 o)) (hf : labFree L ρ = true) (hal : noAlis ρ = true) (hL : L ≠ 0) :
    ∃ B' : Base, B'.rs = B.rs ∧ En K B' G H σ (ρ.set i (.own L o)) [] ∧ ∀ G1 H1 σ1 ρ1 ex1, En K B' G1 H1 σ1 ρ1 ex1 → labFree L (ex1.map (·.2) ++ ρ1) = true → En K B G1 H1 σ1 ρ1 ex1 := by
  obtain ⟨A0, c, n, g⟩ := E.own
  have c : Cells K B G H σ ρ A0 := c
  obtain ⟨v, A, A2, e1, hO, ⟨hl, hp⟩, c2, pm⟩ := Cells.take1 c h
  have hi : i < ρ.length := (List.getElem?_eq_some_iff.mp h).1
  have h0 : ∀ a ∈ A, B.H0 a = none := fun a m => (hl a m).resolve_left (by rw [B.m0]; exact fun z => nomatch z)
  have c3 : Cells K (B.pin L hL A v) G H σ (ρ.set i .non) A2 := Cells.pin c2 (labFree_set hf rfl)
  obtain ⟨A3, c4, p4⟩ := c3.put1 (i := i) (l := L) (o := o) (v := v) (A1 := A) (by rw [List.getElem?_set_self hi]) e1 hO ⟨fun a m => .inl (by
    show a ∈ (if L = L then B.Mo L ++ A else B.Mo L)
    rw [if_pos rfl]
    exact List.mem_append_right _ m), .inr (by
    show (if L = L then some v else B.pv L) = some v
    rw [if_pos rfl])⟩
  rw [List.set_set] at c4
  have pp : A3.Perm A0 := p4.trans pm.symm
  refine ⟨B.pin L hL A v, rfl, ⟨E.anc.pin fun a m z => ?_, ⟨A3, c4, pp.nodup_iff.mpr n, fun a m => g a (pp.mem_iff.mp m)⟩, by rw [List.length_set]; exact E.len, fun k j p e => ?_⟩, fun G1 H1 σ1 ρ1 ex1 E1 hf1 => ?_⟩
  · obtain ⟨u, hu⟩ := hO.there a m
    rw [hu] at z
    cases z
  · by_cases hk : i = k
    · subst hk
      rw [List.getElem?_set_self hi] at e
      cases e
    · rw [List.getElem?_set_ne hk] at e
      exact absurd e (noAlis_get hal)
  · obtain ⟨A5, c5, n5, g5⟩ := E1.own
    exact ⟨E1.anc.unpin h0, ⟨A5, Cells.unpin c5 hf1, n5, g5⟩, E1.len, E1.ali⟩
theorem En.pvAt (E : En K B G H σ ρ ex) {i : Nat} {o : OT} (h : ρ[i]? = some (.own L o)) (hL : L ≠ 0) : ∃ v, σ[i]? = some (some v) ∧ B.pv L = some v := by
  obtain ⟨A, c, n, g⟩ := E.own
  obtain ⟨v, A1, A2, e1, hO, ⟨hl, hp⟩, c2, pm⟩ := c.take1 (i := ex.length + i) (l := L) (o := o) (by
    rw [List.getElem?_append_right (by simp), List.length_map]
    simpa using h)
  rw [List.getElem?_append_right (by simp), List.length_map] at e1
  exact ⟨v, by simpa using e1, hp.resolve_left hL⟩
end
section
variable {X : Cx} {B : Base} {ρ : List Slot} {pos : Pos} {tg : Expr}
theorem js_pin (i L : Nat) {N1 L1 T : Type} {ss : List Stmt} {m : R (Fl N1 L1 T)} {F : Fin N1 L1 T} {o : OT} (h : ρ[i]? = some (.own 0 o) := by rfl) (r : ∀ B' : Base, B'.rs = B.rs → JSs X B' (ρ.set i (.own L o)) ss m F) (hf : labFree L ρ = true := by rfl) (hal : noAlis ρ = true := by rfl) (hL : L ≠ 0 := by decide)
    (fn : ∀ n, labFree L (F.n n) = true := by intro _; rfl) (fc : ∀ n, labFree L (F.c n) = true := by intro _; rfl) (fk : ∀ n, labFree L (F.k n) = true := by intro _; rfl) (ft : ∀ t, labFree L (F.s t :: F.t t) = true := by intro _; rfl) : JSs X B ρ ss m F :=
  ⟨fun pins s σ H Dn I ⟨G, E, q⟩ => by
    obtain ⟨B', hB, E', back⟩ := E.pin h hf hal hL
    refine (r B' hB).run pins s σ H Dn I ⟨G, E', ?_⟩
    rw [hB]
    refine R.post_mono q fun fl q1 => ?_
    cases fl with
    | nx n => exact fun σ1 G1 H1 x E1 => q1 σ1 G1 H1 x (back _ _ _ _ _ E1 (fn n))
    | ct n => exact fun σ1 G1 H1 x E1 => q1 σ1 G1 H1 x (back _ _ _ _ _ E1 (fc n))
    | bk n => exact fun σ1 G1 H1 x E1 => q1 σ1 G1 H1 x (back _ _ _ _ _ E1 (fk n))
    | rt t => exact fun v σ1 G1 H1 x E1 => q1 v σ1 G1 H1 x (back _ _ _ _ _ E1 (ft t))⟩
/-- for .. in xs, xs an owned list held at its place -/
theorem js_forO (i L : Nat) {x : Str} {px : Pos} {α S L1 T : Type} {xs : List α} {en : α → D} {s0 : S} (ρS : S → List Slot) (ρB : α → S → List Slot) {f : α → S → R (Fl S S T)} {F : Fin S L1 T} {body : List Stmt} (hp : PassesOwn (model X.prog X.w) X.A X.env X.xe) (hc : X.calm = true)
    (h : ∀ s, (ρS s)[i]? = some (.own L (oL en xs)) := by intro _; rfl) (bs : List Bool) (hw : forgot ρ bs = ρS s0) (hg : ∀ x s, JG X B (ρS s) tg (en x) (.ok ()) (fun _ => ρB x s))
    (hb : ∀ x s, JSs X B (ρB x s) body (f x s) ⟨ρS, ρS, ρS, F.s, F.t⟩) (hn : F.n = ρS := by rfl) (hs : ∀ v, foldedSetIterable (.Name x px) X.env v = pure v := by intro _; rfl)
    (h0 : ρ[i]? = some (.own L (oL en xs)) := by rfl) (hal0 : noAlis ρ = true := by rfl) (hal : ∀ s, noAlis (ρS s) = true := by intro _; rfl) (hL : L ≠ 0 := by decide) (hN : X.N[i]? = some x := by rfl) (hv : Vis X.env.scope x := by first | exact Or.inl rfl | exact Or.inr (Or.inl rfl) | exact Or.inr (Or.inr rfl))
    (hd : (x == ("__debug__" : Str)) = false := by decide) (hcd : (x == ("__classdict__" : Str)) = false := by decide) : JS X B ρ (.For tg (.Name x px) body [] pos) (forR f xs s0) F := by
  have hg' : PG X tg (fun v σ H Q => ∃ x s, tJG X.K B (ρS s) (en x) (.ok ()) (fun _ => ρB x s) v σ H Q) := ⟨fun pins s σ H v u Q I r ⟨x, s', q⟩ => (hg x s').run pins s σ H v u Q I r q⟩
  have hb' : PSs X body (fun D σ H => ∃ x s, tJS X.K B (ρB x s) (f x s) ⟨ρS, ρS, ρS, F.s, F.t⟩ D σ H) := ⟨fun pins s σ H D I ⟨x, s', q⟩ => (hb x s').run pins s σ H D I q⟩
  refine PS_imp (ps_for hp hc (pi_list (pv (X := X) (pos := px) i hN hv hd hcd)) hg' hb' hs) fun Dn σ H ⟨G, E, q⟩ => ?_
  obtain ⟨p, vs0, e1, e2, e3, _⟩ := E.ownD h0 hal0
  obtain ⟨v1, k1, k2⟩ := E.pvAt h0 hL
  have ev : v1 = .ref p := by
    rw [e1] at k1
    injection k1 with k1
    injection k1 with k1
    exact k1.symm
  subst ev
  refine ⟨.ref p, e1, p, rfl, ⟨vs0, .inl (.inl e2)⟩, ?_⟩
  have at_ : ∀ {G1 H1 : Hp} {σ1 : L2.St} {s : S} {ex : List (V × Slot)}, En X.K B G1 H1 σ1 (ρS s) ex → ∃ vs, H1 p = some (.lst vs) ∧ RpAll X.K G1 vs (xs.map en) := fun {G1 H1 σ1 s ex} E1 => by
    obtain ⟨p', vs, f1, f2, f3, _⟩ := E1.ownD (h s) (hal s)
    obtain ⟨v2, k3, k4⟩ := E1.pvAt (h s) hL
    rw [k2] at k4
    injection k4 with k4
    subst k4
    rw [f1] at k3
    injection k3 with k3
    injection k3 with k3
    injection k3 with k3
    subst k3
    exact ⟨vs, f2, f3⟩
  let W : Nat → L2.St → Hp → Prop := fun i σ' H1 => ∃ G1 s, Ex G G1 ∧ En X.K B G1 H1 σ' (ρS s) [] ∧ (forR f (xs.drop i) s).post (flP X.K B G1 Dn F) B.rs
  refine ⟨fun i mm σ' H1 => mm = xs.length - i ∧ i ≤ xs.length ∧ W i σ' H1, ⟨_, rfl, Nat.zero_le _, G, s0, Ex.refl _, by rw [← hw]; exact E.forgot bs, q⟩, ?_⟩
  rintro i mm σ1 H1 ⟨rfl, hi1, G1, s, x1, E1, q2⟩
  obtain ⟨vs, f2, f3⟩ := at_ E1
  have hlen : vs.length = xs.length := by rw [f3.len, List.length_map]
  have nxt : ∀ G2 s', Ex G G2 → i < xs.length → (forR f (xs.drop (i + 1)) s').post (flP X.K B G2 Dn F) B.rs → ∀ σ' G3 H', Ex G2 G3 → En X.K B G3 H' σ' (ρS s') [] → W (i + 1) σ' H' := fun G2 s' y hlt h σ' G3 H' z E3 => ⟨G3, s', y.trans z, E3, R.post_mono h fun fl h => flP_ex h z⟩
  by_cases hlt : i < xs.length
  · refine .inr ⟨⟨vs, vs[i]'(by omega), .inl (.inl f2), List.getElem?_eq_getElem _⟩, fun σ' H' => W (i + 1) σ' H', fun σ' H' w => ⟨_, ?_, rfl, hlt, w⟩, fun v H2 hy => ?_⟩
    · omega
    · obtain ⟨rfl, hf⟩ := hy
      have hx := hf vs (.inl (.inl f2))
      obtain ⟨d, hd1, hd2⟩ := f3.getV hx
      rw [List.getElem?_map, List.getElem?_eq_getElem hlt] at hd1
      injection hd1 with hd1
      subst hd1
      rw [List.drop_eq_getElem_cons hlt] at q2
      refine ⟨xs[i], s, G1, E1, hd2, fun σ' G3 H3 x3 E3 => ⟨xs[i], s, G3, E3, R.post_mono (R.post_bind.mp q2) fun fl q3 => ?_⟩⟩
      have up : ∀ {m' : R (Fl S L1 T)}, m'.post (flP X.K B G1 Dn F) B.rs → m'.post (flP X.K B G3 Dn F) B.rs := fun h => R.post_mono h fun fl h => flP_ex h x3
      cases fl with
      | nx s' => exact nxt G3 s' (x1.trans x3) hlt (up q3)
      | ct s' => exact nxt G3 s' (x1.trans x3) hlt (up q3)
      | bk s' =>
        intro σ4 G4 H4 x4 E4
        have q3 : flP X.K B G1 Dn F (.nx s') := q3
        refine q3 σ4 G4 H4 (x3.trans x4) ?_
        rw [hn]
        exact E4
      | rt t =>
        intro v σ4 G4 H4 x4 E4
        have q3 : flP X.K B G1 Dn F (.rt t) := q3
        exact q3 v σ4 G4 H4 (x3.trans x4) E4
  · refine .inl ⟨⟨vs, .inl (.inl f2), by omega⟩, ?_⟩
    rw [List.drop_eq_nil_of_le (by omega)] at q2
    have q2 : flP X.K B G1 Dn F (.nx s) := q2
    refine q2 σ1 G1 H1 (Ex.refl _) ?_
    rw [hn]
    exact E1
end
end DL

/-! DL31: a new owned thing handed to a def -/
namespace DL
open PySem PySem.Spec L2
section
variable {K : PySem.W.Frag} {B : Base} {G H : Hp} {σ : L2.St} {ρ : List Slot} {ex : List (V × Slot)}
theorem Cells.snoc {x : Option V} {s : Slot} {A1 : List Addr} : ∀ {σ : L2.St} {ρ : List Slot} {A : List Addr}, Cells K B G H σ ρ A → Cell K B G H x s A1 → Cells K B G H (σ ++ [x]) (ρ ++ [s]) (A ++ A1)
  | _, _, _, .nil, h => by
    have := Cells.cons h (Cells.nil (K := K) (B := B) (G := G) (H := H))
    rw [List.append_nil] at this
    exact this
  | _, _, _, .cons c r, h => by
    rw [List.append_assoc]
    exact .cons c (Cells.snoc r h)
theorem Cells.unsnoc : ∀ {σ : L2.St} {ρ : List Slot} {x : Option V} {s : Slot} {A : List Addr}, Cells K B G H (σ ++ [x]) (ρ ++ [s]) A → σ.length = ρ.length → ∃ A', Cells K B G H σ ρ A' ∧ A'.Sublist A
  | [], [], _, _, _, _, _ => ⟨[], .nil, List.nil_sublist _⟩
  | _ :: σ, _ :: ρ, _, _, _, .cons (A := A1) c r, hl => by
    obtain ⟨A', h1, h2⟩ := Cells.unsnoc (σ := σ) (ρ := ρ) r (by simpa using hl)
    exact ⟨A1 ++ A', .cons c h1, h2.append_left _⟩
  | [], _ :: _, _, _, _, _, hl => by simp at hl
  | _ :: _, [], _, _, _, _, hl => by simp at hl
/-- a temp becomes a slot behind the others -/
theorem En.toSlot {v : V} {o : OT} (E : En K B G H σ ρ [(v, .own 0 o)]) (hal : noAlis ρ = true) : En K B G H (σ ++ [some v]) (ρ ++ [.own 0 o]) [] := by
  obtain ⟨A0, c, n, g⟩ := E.own
  cases c with
  | @cons _ _ A1 _ _ A2 c1 cr =>
    have c3 := Cells.snoc (show Cells K B G H σ ρ A2 from cr) c1
    have pm : (A2 ++ A1).Perm (A1 ++ A2) := List.perm_append_comm
    refine ⟨E.anc, ⟨A2 ++ A1, c3, pm.nodup_iff.mpr n, fun a m => g a (pm.mem_iff.mp m)⟩, by simp [E.len], fun k j p e => ?_⟩
    by_cases hk : k < ρ.length
    · rw [List.getElem?_append_left hk] at e
      exact absurd e (noAlis_get hal)
    · rw [List.getElem?_append_right (by omega)] at e
      match h : k - ρ.length, e with
      | 0, e => simp at e
      | _ + 1, e => simp at e
theorem En.dropSlot {x : Option V} {s : Slot} {v : V} {s' : Slot} (E : En K B G H (σ ++ [x]) (ρ ++ [s]) [(v, s')]) (hal : noAlis ρ = true) (hl : σ.length = ρ.length) : En K B G H σ ρ [(v, s')] := by
  obtain ⟨A0, c, n, g⟩ := E.own
  cases c with
  | @cons _ _ A1 _ _ A2 c1 cr =>
    obtain ⟨A', h1, h2⟩ := Cells.unsnoc (show Cells K B G H (σ ++ [x]) (ρ ++ [s]) A2 from cr) hl
    have sub : (A1 ++ A').Sublist (A1 ++ A2) := h2.append_left A1
    exact ⟨E.anc, ⟨A1 ++ A', .cons c1 h1, sub.nodup n, fun a m => g a (sub.subset m)⟩, hl, fun k j p e => absurd e (noAlis_get hal)⟩
theorem insAt_vals : ∀ {as : List Ar} {n : Nat} {ρ ρ' : List Slot}, noSlots as = true → insAt n ρ as = insAt n ρ' as
  | [], _, _, _, _ => by rw [insAt, insAt]
  | .val d :: as, n, ρ, ρ', h => by
    rw [insAt, insAt, insAt_vals (as := as) (ρ := ρ) (ρ' := ρ') h]
theorem goodIn_vals : ∀ {as : List Ar} {ρ : List Slot}, noSlots as = true → goodIn ρ as = true
  | [], _, _ => by rw [goodIn]
  | .val d :: as, ρ, h => by
    rw [goodIn]
    exact goodIn_vals (as := as) h
theorem ArOk.re {σ' : L2.St} : ∀ {vs : List V} {as : List Ar}, ArOk K G σ vs as → noSlots as = true → ArOk K G σ' vs as
  | _, _, .nil, _ => .nil
  | _, _, .val r q, h => .val r (ArOk.re q h)
theorem noAlis_snoc : ∀ {ρ : List Slot} {l : Nat} {o : OT}, noAlis ρ = true → noAlis (ρ ++ [.own l o]) = true
  | [], _, _, _ => rfl
  | s :: ρ, l, o, h => by
    cases s with
    | ali _ _ => simp [noAlis] at h
    | non => exact noAlis_snoc (ρ := ρ) h
    | val _ => exact noAlis_snoc (ρ := ρ) h
    | own _ _ => exact noAlis_snoc (ρ := ρ) h
end
section
variable {X : Cx} {B : Base} {ρ : List Slot} {e0 : Expr} {es : List Expr} {pos : Pos} {CX : CXT} {k : Nat} {f : Addr} {fd : FuncData} {ps : List Str} {EE : XK} {x : Str} {p : Pos}
/-- f(e0, ..): e0 a new owned thing, the others data -/
theorem je_callT {α β γ : Type} {ins : α → List Slot} {mf : α → R β} {sl : β → Slot} {outs : β → List Slot} (F : FnG X.prog X.w X.K X.mg X.base CX k f fd ps (spM X.K ins mf sl outs)) (hr : RoomG k X.A) (hg : Gl X x) (hm : X.mg x = some (.ref f)) (hk : PySem.W.keepIn X.K (.ref f) = true)
    (hb : Binds X.K fd ps []) (hx : Passes CX X EE) {m0 : R γ} {o : γ → OT} {ρa : γ → List Slot} {as : γ → List Ar} (arg : γ → α) (he0 : JE X B ρ e0 m0 (fun c => .own 0 (o c)) ρa) (has : ∀ B' : Base, B'.rs = B.rs → ∀ c, JA X B' (ρa c) es (.ok ()) (fun _ => as c) (fun _ => ρa c)) (hne : ∀ e, ¬ B.rs e)
    (hns : ∀ c, noSlots (as c) = true := by intro _; rfl) (hins : ∀ c, insAt 0 [.own 0 (o c)] (.slot 0 :: as c) = ins (arg c) := by intro _; rfl)
    (ho : ∀ c b, goodOut 0 (.slot 0 :: as c) (outs b) = true := by intro _ _; rfl) (hal : ∀ c, noAlis (ρa c) = true := by intro _; rfl) (hres : ∀ b, resOk (sl b) = true := by intro _; rfl)
    (hdb : (x == ("__debug__" : Str)) = false := by decide) (he : starEach (e0 :: es) X.env = (false, eval e0 X.env) :: starEach es X.env := by rfl) (hpl : (backTo pos (starEach es X.env)).any (·.1) = false := by rfl) :
    JE X B ρ (.Call (.Name x p) (e0 :: es) [] pos) (m0.bind fun c => (mf (arg c)).bind fun b => .ok (c, b)) (fun y => sl y.2) (fun y => ρa y.1) := by
  have has' : PA X es (fun σ H Q => ∃ B' c, B'.rs = B.rs ∧ tJA X.K B' (ρa c) (.ok ()) (fun _ : Unit => as c) (fun _ => ρa c) σ H Q) := ⟨fun ps pins s σ H Q I ⟨B', c, hB, q⟩ => (has B' hB c).run ps pins s σ H Q I q⟩
  refine PE_imp (pe_callG F hr hg hm hk hb hx (pa_cons he0 has' he) hdb he hpl) fun σ H Q ⟨G, E, q⟩ => ⟨G, E, R.post_mono (R.post_bind.mp q) fun c k v G1 H1 x1 E1 => ?_⟩
  obtain ⟨B', hB, E2, back⟩ := E1.aside
  refine ⟨B', c, hB, G1, E2, fun vs G2 H2 x2 E3 ok => ?_⟩
  show spM X.K ins mf sl outs ((v :: vs) ++ []) H2 Q EE
  rw [List.append_nil]
  have E4 := back G2 H2 σ (ρa c) [] x2 E3 (hal c)
  have hl : σ.length = (ρa c).length := E4.len
  have E5 := E4.toSlot (hal c)
  have n0 : (ρa c ++ [Slot.own 0 (o c)])[(ρa c).length]? = some (.own 0 (o c)) := by
    rw [List.getElem?_append_right (Nat.le_refl _), Nat.sub_self]
    rfl
  have s0 : (σ ++ [some v])[(ρa c).length]? = some (some v) := by
    rw [← hl, List.getElem?_append_right (Nat.le_refl _), Nat.sub_self]
    rfl
  have ok5 : ArOk X.K G2 (σ ++ [some v]) (v :: vs) (.slot (ρa c).length :: as c) := .slot s0 (ok.re (hns c))
  refine call_sp (arg c) E5 ok5 ?_ ?_ (fun b => ?_) ?_ hres hne (R.post_mono (R.post_bind.mp k) fun b k v' G3 H3 x3 E6 => k v' G3 H3 (x1.trans (x2.trans x3)) ?_)
  · rw [goodIn, n0, goodIn_vals (hns c)]
    rfl
  · rw [← hins c, insAt, insAt, n0, insAt_vals (hns c) (ρ := (ρa c ++ [Slot.own 0 (o c)]).set (ρa c).length .non) (ρ' := [Slot.own 0 (o c)].set 0 .non)]
    rfl
  · have := ho c b
    rw [← this]
    cases outs b with
    | nil => rfl
    | cons s os => rfl
  · unfold aliOk
    rw [noAlis_snoc (hal c), Bool.or_true]
  · have e2 : ∀ os : List Slot, ∃ s', backAt (ρa c ++ [Slot.own 0 (o c)]) (movedAt (ρa c ++ [Slot.own 0 (o c)]) (.slot (ρa c).length :: as c)) (.slot (ρa c).length :: as c) os = ρa c ++ [s'] := fun os => by
      rw [movedAt, movedAt_noSlots (hns c)]
      have e3 : ∀ t : Slot, (ρa c ++ [Slot.own 0 (o c)]).set (ρa c).length t = ρa c ++ [t] := fun t => by
        rw [List.set_append_right _ _ (Nat.le_refl _), Nat.sub_self]
        rfl
      cases os with
      | nil =>
        rw [backAt, e3]
        · exact ⟨_, rfl⟩
        · exact fun h => nomatch h
      | cons s os =>
        rw [backAt, backAt_noSlots (hns c), e3, List.set_append_right _ _ (Nat.le_refl _), Nat.sub_self]
        exact ⟨_, rfl⟩
    obtain ⟨s', e4⟩ := e2 (outs b)
    rw [e4] at E6
    exact E6.dropSlot (hal c) hl
end
/-- a whole number in a tuple of such -/
theorem inV_int (k : Int) : ∀ ns : List Int, inV (.int k) (ns.map V.int) = hasL k ns
  | [] => rfl
  | n :: ns => by
    have ih := inV_int k ns
    have e1 : inV (V.int k) ((n :: ns).map V.int) = (eqV (V.int n) (V.int k) || inV (V.int k) (ns.map V.int)) := rfl
    have e2 : eqV (V.int n) (V.int k) = decide (n = k) := by
      simp only [eqV]
      exact Bool.beq_eq_decide_eq ..
    rw [e1, e2, ih, Bool.eq_iff_iff, Bool.or_eq_true, decide_eq_true_eq, hasL_iff, hasL_iff, List.mem_cons]
    exact ⟨fun h => h.imp Eq.symm id, fun h => h.imp Eq.symm id⟩
theorem od_inTI {K : PySem.W.Frag} {B : Base} {k : Int} {ns : List Int} : OpD K B (rIn K false) (.int k) (eT D.int ns) (.ok ()) (fun _ => .val (.bool (hasL k ns))) := od_val0 (w := .bl (hasL k ns)) (fun G H vx vy Q e hx hy q => by
  have hx := hx.int_inv
  subst hx
  obtain ⟨a, xs, rfl, hS, hr⟩ := hy.tup_inv
  have hr := hr.ints
  subst hr
  refine ⟨a, _, rfl, .inr (e.t hS), rfl, ints_flat _, ?_⟩
  rw [inV_int]
  exact q) fun _ => .bl _
theorem od_niTI {K : PySem.W.Frag} {B : Base} {k : Int} {ns : List Int} : OpD K B (rIn K true) (.int k) (eT D.int ns) (.ok ()) (fun _ => .val (.bool (!hasL k ns))) := od_val0 (w := .bl (!hasL k ns)) (fun G H vx vy Q e hx hy q => by
  have hx := hx.int_inv
  subst hx
  obtain ⟨a, xs, rfl, hS, hr⟩ := hy.tup_inv
  have hr := hr.ints
  subst hr
  refine ⟨a, _, rfl, .inr (e.t hS), rfl, ints_flat _, ?_⟩
  rw [inV_int]
  exact q) fun _ => .bl _
section
variable {X : Cx} {B : Base} {ρ : List Slot} {pos : Pos} {a : Expr} {β : Type}
theorem je_nameO (i : Nat) {x : Str} {o : OT} (h : ρ[i]? = some (.own 0 o) := by rfl) (hal : noAlis ρ = true := by rfl) (hN : X.N[i]? = some x := by rfl) (hv : Vis X.env.scope x := by first | exact Or.inl rfl | exact Or.inr (Or.inl rfl) | exact Or.inr (Or.inr rfl))
    (hd : (x == ("__debug__" : Str)) = false := by decide) (hcd : (x == ("__classdict__" : Str)) = false := by decide) : JE X B ρ (.Name x pos) (.ok ()) (fun _ => .own 0 o) (fun _ => ρ.set i .non) :=
  PE_imp (pv i hN hv hd hcd) fun σ H Q ⟨G, E, q⟩ => by
    obtain ⟨A, c, n, g⟩ := E.own
    obtain ⟨v, A1, A2, e1, hO, hl, c2, pm⟩ := Cells.take1 (show Cells X.K B G H σ ρ A from c) h
    exact ⟨v, e1, q v G H (Ex.refl _) ⟨E.anc, ⟨A1 ++ A2, .cons (.own hO hl.1 hl.2) c2, pm.nodup_iff.mp n, fun a m => g a (pm.mem_iff.mpr m)⟩, by rw [List.length_set]; exact E.len, fun k j p e => by
      by_cases hk : i = k
      · subst hk
        rw [List.getElem?_set_self (List.getElem?_eq_some_iff.mp h).1] at e
        cases e
      · rw [List.getElem?_set_ne hk] at e
        exact absurd e (noAlis_get hal)⟩⟩
theorem jt_dinK (i : Nat) {x : Str} {px : Pos} {l : Nat} {f : β → D} {kvs : List (Int × β)} {k : Int} (hu : X.A.units + 64 < cLine) (h : ρ[i]? = some (.own l (odK f kvs)) := by rfl) (hk : JP X B ρ a (.int k)) (hal : noAlis ρ = true := by rfl) (hN : X.N[i]? = some x := by rfl)
    (hvi : Vis X.env.scope x := by first | exact Or.inl rfl | exact Or.inr (Or.inl rfl) | exact Or.inr (Or.inr rfl)) (hd : (x == ("__debug__" : Str)) = false := by decide) (hcd : (x == ("__classdict__" : Str)) = false := by decide)
    (hm : behindInMarks .In (.Name x px) = false := by rfl) : TP0 X B ρ (.Compare a [.In] [.Name x px] pos) (hasK k kvs) :=
  PT_imp (pt_cmp (pc_din (by omega) hk (pv (X := X) (pos := px) i hN hvi hd hcd)) hm) fun σ H Q ⟨G, E, q⟩ => by
    refine ⟨G, E, fun w G1 H1 x1 E1 => ?_⟩
    have hy := E1.top.int_inv
    subst hy
    obtain ⟨p, kv, g1, g2, g3, _⟩ := E1.pop.ownDK h hal
    refine ⟨.ref p, g1, p, _, rfl, DGet.k (k := Sum.inl k) g2, _, rfl, ?_⟩
    rw [valV_some, rpe_any g3]
    exact q G1 H1 x1 E1.pop
theorem jt_dniK (i : Nat) {x : Str} {px : Pos} {l : Nat} {f : β → D} {kvs : List (Int × β)} {k : Int} (hu : X.A.units + 64 < cLine) (h : ρ[i]? = some (.own l (odK f kvs)) := by rfl) (hk : JP X B ρ a (.int k)) (hal : noAlis ρ = true := by rfl) (hN : X.N[i]? = some x := by rfl)
    (hvi : Vis X.env.scope x := by first | exact Or.inl rfl | exact Or.inr (Or.inl rfl) | exact Or.inr (Or.inr rfl)) (hd : (x == ("__debug__" : Str)) = false := by decide) (hcd : (x == ("__classdict__" : Str)) = false := by decide)
    (hm : behindInMarks .NotIn (.Name x px) = false := by rfl) : TP0 X B ρ (.Compare a [.NotIn] [.Name x px] pos) (!hasK k kvs) :=
  PT_imp (pt_cmp (pc_dnotin (by omega) hk (pv (X := X) (pos := px) i hN hvi hd hcd)) hm) fun σ H Q ⟨G, E, q⟩ => by
    refine ⟨G, E, fun w G1 H1 x1 E1 => ?_⟩
    have hy := E1.top.int_inv
    subst hy
    obtain ⟨p, kv, g1, g2, g3, _⟩ := E1.pop.ownDK h hal
    refine ⟨.ref p, g1, p, _, rfl, DGet.k (k := Sum.inl k) g2, _, rfl, ?_⟩
    rw [valV_some, rpe_any g3]
    exact q G1 H1 x1 E1.pop
end
end DL

/-! DL32: parts of tuples, tuples joined, tuples turned about -/
namespace HT
open PySem PySem.Spec PyProof.Rows
/-- where t[::-1] and t[:0:-1] begin, how many they take -/
theorem adjust_rev (hi : Option Int) (n j : Nat) (h : (hi = none ∧ j = 0) ∨ (hi = some 0 ∧ j = 1)) : (Builtin.Slice.sliceAdjust none hi (-1) (n : Int)).1 = (n : Int) - 1 ∧ Builtin.Slice.slicePlaces (Builtin.Slice.sliceAdjust none hi (-1) (n : Int)).1 (Builtin.Slice.sliceAdjust none hi (-1) (n : Int)).2 (-1) = n - j := by
  rcases h with ⟨rfl, rfl⟩ | ⟨rfl, rfl⟩
  · refine ⟨rfl, ?_⟩
    show Builtin.Slice.slicePlaces ((n : Int) - 1) (-1) (-1) = n - 0
    unfold Builtin.Slice.slicePlaces
    rw [if_neg (by decide)]
    split
    · rw [show (-(-1) : Int) = 1 by decide, Int.ediv_one]
      omega
    · show Int.toNat 0 = _
      omega
  · refine ⟨rfl, ?_⟩
    show Builtin.Slice.slicePlaces ((n : Int) - 1) (min 0 ((n : Int) - 1)) (-1) = n - 1
    unfold Builtin.Slice.slicePlaces
    rw [if_neg (by decide)]
    split
    · rw [show (-(-1) : Int) = 1 by decide, Int.ediv_one]
      omega
    · show Int.toNat 0 = _
      omega
theorem pick_rev (xs : Array Value) (j : Nat) (hj : j ≤ xs.size) : (List.range (xs.size - j)).filterMap (fun (m : Nat) => xs[((xs.size : Int) - 1 + (m : Int) * (-1)).toNat]?) = (xs.toList.drop j).reverse := by
  have go : ∀ k : Nat, k ≤ xs.size → (List.range k).filterMap (fun (m : Nat) => xs[((xs.size : Int) - 1 + (m : Int) * (-1)).toNat]?) = (xs.toList.drop (xs.size - k)).reverse := by
    intro k
    induction k with
    | zero =>
      intro _
      rw [Nat.sub_zero, List.range_zero, List.filterMap_nil, List.drop_of_length_le (by rw [Array.length_toList]; exact Nat.le_refl _), List.reverse_nil]
    | succ k ih =>
      intro hk
      have h1 : xs.size - (k + 1) < xs.toList.length := by rw [Array.length_toList]; omega
      have e : ((xs.size : Int) - 1 + (k : Int) * (-1)).toNat = xs.size - (k + 1) := by omega
      rw [List.range_succ, List.filterMap_append, ih (by omega)]
      rw [List.drop_eq_getElem_cons h1, show xs.size - (k + 1) + 1 = xs.size - k by omega, List.reverse_cons]
      congr 1
      show List.filterMap _ [k] = _
      rw [List.filterMap_cons, e]
      have h2 : xs[xs.size - (k + 1)]? = some xs.toList[xs.size - (k + 1)] := by
        rw [← Array.getElem?_toList, List.getElem?_eq_getElem h1]
      rw [h2]
      rfl
  have := go (xs.size - j) (by omega)
  rw [show xs.size - (xs.size - j) = j by omega] at this
  exact this
section
variable {prog : Program} {w : World} {A : Around} {E : Value → Shared → Prop} {s : Shared}
theorem sliceApplied_rev {sl : Addr} {vl vu vs : Value} {hi : Option Int} {n j : Nat} {Q : Int × Int × Nat → Shared → Prop} (hs : s.heap.IsSliceOf sl vl vu vs) (pl : IsPart vl none) (pu : IsPart vu hi) (ps : IsPart vs (some (-1)))
    (hj : (hi = none ∧ j = 0) ∨ (hi = some 0 ∧ j = 1)) (h : Q ((n : Int) - 1, -1, n - j) s) : wpAny (model prog w) A (Builtin.Slice.sliceApplied (.ref sl) (pure (n : Int))) Q E s := by
  obtain ⟨os, hos, hcs, hds⟩ := id hs
  unfold Builtin.Slice.sliceApplied Builtin.Slice.sliceFields
  refine wpAny_bind (wpAny_bind (wpAny_field hos hds (x := vl) rfl (wpAny_bind (wpAny_field hos hds (x := vu) rfl (wpAny_bind (wpAny_field hos hds (x := vs) rfl (wpAny_pure ?_)))))))
  refine wpAny_bind (slicePart_ ps ?_)
  show wpAny _ _ (if ((-1 : Int) == 0) = true then _ else _) _ _ s
  rw [if_neg (by decide)]
  refine wpAny_bind (slicePart_ pl (wpAny_bind (slicePart_ pu (wpAny_bind (wpAny_pure ?_)))))
  show wpAny _ _ (match Builtin.Slice.sliceAdjust none hi (-1) (n : Int) with | (lo, hi) => pure (lo, (-1 : Int), Builtin.Slice.slicePlaces lo hi (-1))) _ _ s
  obtain ⟨h1, h2⟩ := adjust_rev hi n j hj
  show wpAny _ _ (pure ((Builtin.Slice.sliceAdjust none hi (-1) (n : Int)).1, (-1 : Int), Builtin.Slice.slicePlaces (Builtin.Slice.sliceAdjust none hi (-1) (n : Int)).1 (Builtin.Slice.sliceAdjust none hi (-1) (n : Int)).2 (-1))) _ _ s
  rw [h2, h1]
  exact wpAny_pure h
theorem getItem_tuple_rev {t sl : Addr} {items : Array Value} {vl vu vs : Value} {hi : Option Int} {j : Nat} {Q : Value → Shared → Prop} (ht : IsTup s.heap t items) (hs : s.heap.IsSliceOf sl vl vu vs) (pl : IsPart vl none) (pu : IsPart vu hi) (ps : IsPart vs (some (-1)))
    (hj : (hi = none ∧ j = 0) ∨ (hi = some 0 ∧ j = 1)) (hn : j ≤ items.size)
    (h : Q (.ref s.heap.objs.size) { s with heap := s.heap.push { cls := .type "tuple", data := .seq (items.toList.drop j).reverse.toArray } })
    (hsz : items.size ≤ sizeLine) : wpAny (model prog w) A (getItem (.ref t) (.ref sl)) Q E s := by
  have htake : sizeOk (.seq (items.toList.drop j).reverse.toArray) := by
    show (items.toList.drop j).reverse.toArray.size ≤ sizeLine
    rw [List.size_toArray, List.length_reverse, List.length_drop, Array.length_toList]
    omega
  obtain ⟨os, hos, hcs, hds⟩ := id hs
  have hTs : s.TypeIs (.ref sl) "slice" := ⟨os, hos, hcs⟩
  unfold getItem
  try with_reducible refine wpAny_holding ?_
  first | refine wpAny_bind (wpAny_pure ?_) | skip
  refine wpAny_bind (wpAny_sequenceKey ht.typeIs (by decide) ?_)
  refine wpAny_bind (wpAny_callSpecial?_slot (name := Str.ofString "__getitem__") ht.typeIs PyProof.Rows.slot_tuple_getitem
    (wpAny_call_entry PyProof.Rows.slot_tuple_getitem ht.typeIs entry_tuple_getitem ?_ (args_tuple_getitem _ _)))
  show wpAny _ _ (Builtin.Tuple.tupleItemsOf (.ref t) >>= _) _ _ s
  refine wpAny_bind (tupleItemsOf_ ht ?_)
  refine wpAny_bind (wpAny_typeOf hTs ?_)
  rw [if_pos (by decide)]
  refine wpAny_bind (sliceApplied_rev (j := j) hs pl pu ps hj ?_)
  have hno : ¬ ((((items.size : Int) - 1) == 0 && (-1 : Int) == 1 && (items.size - j) == items.size) = true) := by
    intro q
    rw [Bool.and_eq_true, Bool.and_eq_true] at q
    exact absurd q.1.2 (by decide)
  show wpAny _ _ (if (((items.size : Int) - 1) == 0 && (-1 : Int) == 1 && (items.size - j) == items.size) = true then _ else _) _ _ s
  rw [if_neg hno]
  have hp := congrArg List.toArray (pick_rev items j hn)
  rw [hp]
  first
    | exact wpAny_bind (m := Builtin.Tuple.tupleExact _) (wpAny_newObj_type (wpAny_pure ⟨_, rfl, wpAny_pure h⟩) htake)
    | exact wpAny_bind (m := Builtin.Tuple.tupleExact _) (wpAny_newObj_type (wpAny_bind (wpAny_pure (wpAny_pure ⟨_, rfl, wpAny_pure h⟩))) htake)
    | exact wpAny_bind (wpAny_bind (m := Builtin.Tuple.tupleExact _) (wpAny_newObj_type (wpAny_pure (wpAny_pure ⟨_, rfl, wpAny_pure h⟩)) htake))
    | exact wpAny_bind (wpAny_bind (m := Builtin.Tuple.tupleExact _) (wpAny_newObj_type (wpAny_pure ⟨_, rfl, wpAny_pure h⟩) htake))
end
end HT
namespace L2
open PySem PySem.Spec PyProof.Rows
section
variable {X : Cx}
def tRevT (K : PySem.W.Frag) (j : Nat) (te : TE) : TE := fun σ H Q => te σ H fun x H1 => ∃ a xs, x = .ref a ∧ SqT K H1 a xs ∧ j ≤ xs.length ∧ ∀ p, H1 p = none → Q (.ref p) (upd H1 p (.tup (xs.drop j).reverse))
/-- t[:hi:-1], hi none or nought -/
theorem pe_revT {e : Expr} {te : TE} {k j : Nat} {o2 : Option Expr} {hi : Option Int} {p1 p2 p3 pos : Pos} (he : PE X e te) (hh : PO X o2 (fun _ H Q => Q hi H)) (hj : (hi = none ∧ j = 0) ∨ (hi = some 0 ∧ j = 1))
    (hsub : ∀ a r : Addr, subscripted (.Slice none o2 (some (.UnaryOp .USub (.Constant (.int 1) k p1) p2)) p3) false (.ref a) (.ref r) = operate [.ref a, .ref r] (getItem (.ref a) (.ref r)) := by intro _ _; with_unfolding_all rfl) :
    PE X (.Subscript e (.Slice none o2 (some (.UnaryOp .USub (.Constant (.int 1) k p1) p2)) p3) pos) (tRevT X.K j te) := by
  refine ⟨fun pins s σ H Q I h => ?_⟩
  refine Subscript_ (thn (he.run pins s σ H _ I h) fun v s1 ⟨x, H1, I1, r1, q1⟩ => ?_)
  obtain ⟨a, xs, ex, hx, hjx, q⟩ := q1
  subst ex
  cases r1
  have hst : PO X (some (.UnaryOp .USub (.Constant (.int 1) k p1) p2)) (tPart (tUn (rU fun i => .int (-i)) (tC (.int 1)))) := po_some (pe_un un_neg pe_int)
  refine wpAny_Slice (thn (po_none.run pins s1 σ H1 (fun o H2 => o = none ∧ H2 = H1) I1 ⟨rfl, rfl⟩) fun vl s2 ⟨l, H2, I2, pl, el, e2⟩ => ?_)
  subst el e2
  refine thn (hh.run pins s2 σ H2 (fun o H3 => o = hi ∧ H3 = H2) I2 ⟨rfl, rfl⟩) fun vu s3 ⟨u, H3, I3, pu, eu, e3⟩ => ?_
  subst eu e3
  refine thn (hst.run pins s3 σ H3 (fun o H4 => o = some (-1) ∧ H4 = H3) I3 ⟨1, rfl, -1, rfl, rfl, rfl⟩) fun vs s4 ⟨o, H4, I4, ps, eo, e4⟩ => ?_
  subst eo e4
  have I5 : Inv X pins σ H4 { s4 with heap := s4.heap.push { cls := .type "slice", data := .fields #[vl, vu, vs] } } := I4.kept (t' := s4.toks) fun b ob q => Heap.get?_push_of_some _ q
  obtain ⟨its, r, ht, hz⟩ := I5.tuple hx
  have hlen := r.length
  show wpAny (model X.prog X.w) X.A (subscriptTail e (.Slice none o2 (some (.UnaryOp .USub (.Constant (.int 1) k p1) p2)) p3) (.ref a) (.ref s4.heap.objs.size)) (EP X pins σ Q) X.xe { s4 with heap := s4.heap.push { cls := .type "slice", data := .fields #[vl, vu, vs] } }
  refine tail_any (ops := [.ref a, .ref s4.heap.objs.size]) ht.typeIs PyProof.Rows.slot_tuple_getitem.lookup ?_ (hsub _ _)
  refine HT.getItem_tuple_rev (j := j) ht (Heap.IsSliceOf.new _ vl vu vs) pl pu ps hj (by rw [List.size_toArray, ← hlen]; exact hjx) ?_ (by rw [List.size_toArray, ← hlen]; exact hz)
  refine ⟨.ref _, _, I5.laid (t' := s4.toks) (o := .tup (xs.drop j).reverse) (fun b ob q => Heap.get?_push_of_some _ q) (Nat.le_refl _) ?_, rfl, q _ (I5.hok.fresh (Nat.le_refl _))⟩
  exact ⟨by rw [List.length_reverse, List.length_drop]; omega, _, (r.drop j).reverse, IsTup.new _ _⟩
end
end L2
namespace DL
open PySem PySem.Spec L2
section
variable {X : Cx} {B : Base} {ρ : List Slot} {pos : Pos} {a : Expr} {β α : Type} {K : PySem.W.Frag}
theorem cut_whole {xs : List α} {lo hi : Option Int} (h : HT.sIx xs.length 0 lo = 0 ∧ HT.sIx xs.length xs.length hi = xs.length) : cut xs lo hi = xs := by
  unfold cut
  rw [h.1, h.2, List.drop_zero, Nat.sub_zero, List.take_length]
theorem je_slT {o1 o2 : Option Expr} {p2 : Pos} {lo hi : Option Int} {m : R β} {ds : β → List D} {ρ' : β → List Slot} (h : JE X B ρ a m (fun b => .val (.tuple (ds b))) ρ') (h1 : ∀ b, JO X B (ρ' b) o1 lo) (h2 : ∀ b, JO X B (ρ' b) o2 hi) :
    JE X B ρ (.Subscript a (.Slice o1 o2 none p2) pos) m (fun b => .val (.tuple (cut (ds b) lo hi))) ρ' := by
  have h1' : PO X o1 (fun σ H Q => ∃ b, tJO X.K B (ρ' b) lo σ H Q) := ⟨fun pins s σ H Q I ⟨b, q⟩ => (h1 b).run pins s σ H Q I q⟩
  have h2' : PO X o2 (fun σ H Q => ∃ b, tJO X.K B (ρ' b) hi σ H Q) := ⟨fun pins s σ H Q I ⟨b, q⟩ => (h2 b).run pins s σ H Q I q⟩
  refine PE_imp (pe_slice sl_tupA h h1' h2') fun σ H Q ⟨G, E, q⟩ => ⟨G, E, R.post_mono q fun b k v G1 H1 x1 E1 => ⟨b, G1, E1.pop, fun G2 H2 x2 E2 => ⟨b, G2, E2, fun G3 H3 x3 E3 => ?_⟩⟩⟩
  obtain ⟨p, xs, rfl, hS, hr⟩ := E1.top.tup_inv
  have x13 := x2.trans x3
  have hr' := RpAll.ex x13 hr
  refine ⟨p, xs, rfl, E3.sub.t (x13.t hS), fun hw => ?_, fun hw q' hq => ?_⟩
  · rw [hr'.len] at hw
    refine k _ G3 _ (x1.trans x13) (E3.push ?_)
    rw [cut_whole hw]
    exact .tup (x13.t hS) hr'
  · have e := Ex.new (o := HO.tup (cutV xs lo hi)) (E3.sub.back hq)
    exact k _ _ _ ((x1.trans x13).trans e) ((E3.new hq _).push (.tup (.inl (.inl upd_same)) (RpAll.ex e (cut_rp hr'))))
theorem je_slTm {o1 o2 : Option Expr} {p2 : Pos} {lo hi : Option Int} {m : R β} {f : α → D} {xs : β → List α} {ρ' : β → List Slot} (h : JE X B ρ a m (fun b => .val (eT f (xs b))) ρ') (h1 : ∀ b, JO X B (ρ' b) o1 lo) (h2 : ∀ b, JO X B (ρ' b) o2 hi) :
    JE X B ρ (.Subscript a (.Slice o1 o2 none p2) pos) m (fun b => .val (eT f (cut (xs b) lo hi))) ρ' := by
  have := je_slT (pos := pos) (p2 := p2) h h1 h2
  simp only [cut_map] at this
  exact this
theorem od_catA {ds es : List D} : OpD K B (rCatA K) (.tuple ds) (.tuple es) (R.guard (ds.length + es.length ≤ sizeLine)) (fun _ => .val (.tuple (ds ++ es))) := fun G H σ ρ vx vy Q E hx hy q => by
  obtain ⟨hc, q⟩ := R.post_guard q
  obtain ⟨a, xs, rfl, hS, hr⟩ := hx.tup_inv
  obtain ⟨b, ys, rfl, hS2, hr2⟩ := hy.tup_inv
  have l1 := hr.len
  have l2 := hr2.len
  refine ⟨a, b, xs, ys, rfl, rfl, E.sub.t hS, E.sub.t hS2, by rw [l1, l2]; exact hc, fun z => ?_, fun z z2 => ?_, fun _ _ p hp => ?_⟩
  · subst z
    have : ds = [] := List.length_eq_zero_iff.mp l1.symm
    subst this
    exact q _ G _ (Ex.refl G) (E.push (.tup hS2 hr2))
  · subst z2
    have : es = [] := List.length_eq_zero_iff.mp l2.symm
    subst this
    refine q _ G _ (Ex.refl G) (E.push ?_)
    rw [List.append_nil]
    exact .tup hS hr
  · have e := Ex.new (o := HO.tup (xs ++ ys)) (E.sub.back hp)
    exact q _ _ _ e ((E.new hp _).push (.tup (.inl (.inl upd_same)) (RpAll.ex e (hr.append hr2))))
theorem od_catAm {f : α → D} {xs ys : List α} : OpD K B (rCatA K) (eT f xs) (eT f ys) (R.guard (xs.length + ys.length ≤ sizeLine)) (fun _ => .val (eT f (xs ++ ys))) := by
  have := od_catA (K := K) (B := B) (ds := xs.map f) (es := ys.map f)
  simp only [List.length_map] at this
  rw [← List.map_append] at this
  exact this
theorem RpAll.revs {K : PySem.W.Frag} {G : Hp} {vs : List V} {ds : List D} (h : RpAll K G vs ds) : RpAll K G vs.reverse ds.reverse := by
  have go : ∀ {vs : List V} {ds : List D} {us : List V} {es : List D}, RpAll K G vs ds → RpAll K G us es → RpAll K G (vs.reverse ++ us) (ds.reverse ++ es) := by
    intro vs
    induction vs with
    | nil => intro ds us es h h2; cases h; exact h2
    | cons v vs ih =>
      intro ds us es h h2
      cases h with
      | cons r t =>
        rw [List.reverse_cons, List.reverse_cons, List.append_assoc, List.append_assoc]
        exact ih t (.cons r h2)
  have := go h RpAll.nil
  rwa [List.append_nil, List.append_nil] at this
theorem po_zero {k : Nat} {p : Pos} : PO X (some (.Constant (.int 0) k p)) (fun _ H Q => Q (some 0) H) := PO_imp (po_some pe_int) fun σ H Q q => ⟨0, rfl, q⟩
/-- t[::-1], t[:0:-1] -/
theorem je_revT {k j : Nat} {o2 : Option Expr} {hi : Option Int} {p1 p2 p3 : Pos} {m : R β} {f : α → D} {xs : β → List α} {ρ' : β → List Slot} (h : JE X B ρ a m (fun b => .val (eT f (xs b))) ρ') (hh : PO X o2 (fun _ H Q => Q hi H)) (hj : (hi = none ∧ j = 0) ∨ (hi = some 0 ∧ j = 1))
    (hsub : ∀ a r : Addr, subscripted (.Slice none o2 (some (.UnaryOp .USub (.Constant (.int 1) k p1) p2)) p3) false (.ref a) (.ref r) = operate [.ref a, .ref r] (getItem (.ref a) (.ref r)) := by intro _ _; with_unfolding_all rfl) :
    JE X B ρ (.Subscript a (.Slice none o2 (some (.UnaryOp .USub (.Constant (.int 1) k p1) p2)) p3) pos) (m.bind fun b => (R.guard (j ≤ (xs b).length)).bind fun _ => .ok b) (fun b => .val (eT f ((xs b).drop j).reverse)) ρ' := by
  refine PE_imp (pe_revT h hh hj hsub) fun σ H Q ⟨G, E, q⟩ => ⟨G, E, R.post_mono (R.post_bind.mp q) fun b k v G1 H1 x1 E1 => ?_⟩
  obtain ⟨p, ys, rfl, hS, hr⟩ := E1.top.tup_inv
  obtain ⟨hc, k⟩ := R.post_guard (R.post_bind.mp k)
  have hl := hr.len
  rw [List.length_map] at hl
  refine ⟨p, ys, rfl, E1.sub.t hS, by rw [hl]; exact hc, fun q' hq => ?_⟩
  have e := Ex.new (o := HO.tup (ys.drop j).reverse) (E1.sub.back hq)
  refine k _ _ _ (x1.trans e) ((E1.pop.new hq _).push (.tup (.inl (.inl upd_same)) (RpAll.ex e ?_)))
  rw [List.map_reverse, List.map_drop]
  exact (hr.drop j).revs
end
end DL

/-! DL33: len(set(t)), t a tuple of whole numbers; x is True -/
namespace DL
/-- without what came before -/
def nub : List Int → List Int
  | [] => []
  | x :: l => if x ∈ l then nub l else x :: nub l
theorem nub_mem {x : Int} : ∀ {l : List Int}, x ∈ nub l ↔ x ∈ l
  | [] => Iff.rfl
  | y :: l => by
    rw [nub]
    split
    · rename_i h
      rw [nub_mem, List.mem_cons]
      exact ⟨.inr, fun z => z.elim (fun e => e ▸ h) id⟩
    · rw [List.mem_cons, List.mem_cons, nub_mem]
theorem nub_nodup : ∀ l : List Int, (nub l).Nodup
  | [] => List.nodup_nil
  | y :: l => by
    rw [nub]
    split
    · exact nub_nodup l
    · rename_i h
      exact List.nodup_cons.mpr ⟨fun z => h (nub_mem.mp z), nub_nodup l⟩
theorem nub_of : ∀ {l : List Int}, l.Nodup → nub l = l
  | [], _ => rfl
  | y :: l, h => by
    obtain ⟨h1, h2⟩ := List.nodup_cons.mp h
    rw [nub, if_neg h1, nub_of h2]
theorem nodup_le : ∀ {l m : List Int}, l.Nodup → (∀ x ∈ l, x ∈ m) → l.length ≤ m.length
  | [], _, _, _ => Nat.zero_le _
  | x :: l, m, nd, h => by
    obtain ⟨h1, h2⟩ := List.nodup_cons.mp nd
    have hx := h x List.mem_cons_self
    have := nodup_le (l := l) (m := m.erase x) h2 fun y hy => (List.mem_erase_of_ne (fun (e : y = x) => h1 (e ▸ hy))).mpr (h y (List.mem_cons_of_mem _ hy))
    rw [List.length_erase_of_mem hx] at this
    have := List.length_pos_of_mem hx
    rw [List.length_cons]
    omega
end DL
namespace L2
open PySem PySem.Spec PyProof.Rows
section
variable {X : Cx}
/-- set(t), t a tuple of ints -/
def rSetTI (K : PySem.W.Frag) : List V → Hp → VK → Prop := fun xs H Q => ∃ (a : Addr) (ns : List Int), xs = [V.ref a] ∧ SqT K H a (ns.map V.int) ∧ ns.length ≤ 1000 ∧
  ∀ p S, H p = none → Q (.ref p) (upd H p (.set S (DL.nub ns).length))
theorem cr_setTI (hc : X.calm = true) : CallR X (.type "set") (rSetTI X.K) := by
  intro pins s σ H xs us Q I r h
  obtain ⟨a, ns, rfl, hq, hl, q⟩ := h
  rw [Vals.ref1 r]
  obtain ⟨its, rv, pt, hz⟩ := I.tuple hq
  have hi : IntsAre its.toArray.toList ns := ints_of_vals rv
  have hn : H s.heap.objs.size = none := I.hok.fresh (Nat.le_refl _)
  refine call_set_tupI ns (I.ok.hd hc) (show s.heap.IsTuple a its.toArray from pt) hi (by unfold scanBound; omega) fun h' tk c R1 hcn k => ?_
  have hcc : c = (DL.nub ns).length := by
    obtain ⟨o, es, ep, t, ho, hex, hdt, g, nd, hm2, hb, hf, hn', hr, hl2⟩ := id R1
    have e1 : ∀ x, x ∈ es.toList.map keyOf ↔ x ∈ ns := fun x => by
      rw [← hm2]
      exact decide_eq_true_iff
    have l1 := DL.nodup_le nd fun x hx => DL.nub_mem.mpr ((e1 x).mp hx)
    have l2 := DL.nodup_le (DL.nub_nodup ns) fun x hx => (e1 x).mpr (DL.nub_mem.mp hx)
    have e3 : es.toList.length = es.size := Array.length_toList
    rw [List.length_map] at l1 l2
    omega
  refine ⟨.ref s.heap.objs.size, upd H s.heap.objs.size (.set (fun j => decide (j ∈ ns)) c), I.laid (t' := tk) k (Nat.le_refl _) R1.setOf, rfl, ?_⟩
  rw [hcc]
  exact q _ _ hn
def rLenSet : List V → Hp → VK → Prop := fun xs H Q => ∃ (p : Addr) (S : Int → Bool) (n : Nat), xs = [V.ref p] ∧ H p = some (.set S n) ∧ Q (.int n) H
theorem cr_lenSet : CallR X (.builtin "len") rLenSet := by
  intro pins s σ H xs us Q I r h
  obtain ⟨p, S, n, rfl, hp, q⟩ := h
  rw [Vals.ref1 r]
  obtain ⟨o, es, ep, t, ho, hex, hd, _, _, hb, hf, hn⟩ : s.heap.SetOf (intKind X.prog X.w) p S n := I.hok p _ hp
  refine PySem.call_len_set ho hex hd hf (by unfold scanBound at hb; omega) ⟨.int n, H, I.tok _, ⟨_, by rw [hn]⟩, q⟩
end
end L2
namespace DL
open PySem PySem.Spec L2
section
variable {X : Cx} {B : Base} {ρ : List Slot} {pos : Pos} {a : Expr}
theorem je_lenSet {p p2 pos2 : Pos} {xs : List Int} (hc : X.calm = true) (hm : X.mg "len" = none) (hm2 : X.mg "set" = none) (ha : JP X B ρ a (eT D.int xs)) (hg : Gl X "len" := by rfl) (hg2 : Gl X "set" := by rfl)
    (na : starEach [a] X.env = (false, eval a X.env) :: starEach [] X.env := by rfl) (nb : starEach [.Call (.Name "set" p2) [a] [] pos2] X.env = (false, eval (.Call (.Name "set" p2) [a] [] pos2) X.env) :: starEach [] X.env := by rfl) :
    JE X B ρ (.Call (.Name "len" p) [.Call (.Name "set" p2) [a] [] pos2] [] pos) (R.guard (xs.length ≤ 1000)) (fun _ => .val (.int ((nub xs).length : Nat))) (fun _ => ρ) := by
  have h1 := pe_callTy (pos := pos2) (p := p2) (cr_setTI hc) hg2 hm2 PyProof.Rows.boot_set (pa_cons ha pa_nil na) (by decide) (by decide) na (by rfl)
  have h2 := pe_callB (pos := pos) (p := p) cr_lenSet hg hm (by decide +kernel) (pa_cons h1 pa_nil nb) (by decide) (by decide) nb (by rfl)
  refine PE_imp h2 fun σ H Q ⟨G, E, q⟩ => ?_
  obtain ⟨hk, q⟩ := R.post_guard q
  refine ⟨G, E, fun v G1 H1 x1 E1 => ?_⟩
  obtain ⟨p, vs, rfl, hS, hr⟩ := E1.top.tup_inv
  have hv : vs = xs.map V.int := hr.ints
  subst hv
  refine ⟨p, xs, rfl, E1.sub.t hS, hk, fun p' S hp => ?_⟩
  have e := Ex.new (o := HO.set S (nub xs).length) (E1.sub.back hp)
  exact ⟨p', S, _, rfl, upd_same, q _ _ _ (x1.trans e) ((E1.pop.new hp _).push (.int _))⟩
end
end DL
namespace DL
open PySem PySem.Spec L2
section
variable {K : PySem.W.Frag} {B : Base}
theorem od_isBl {a b : Bool} : OpD K B rIsB (.bool a) (.bool b) (.ok ()) (fun _ => .val (.bool (decide (a = b)))) := fun G H σ ρ vx vy Q E hx hy q => ⟨a, b, hx.bl_inv, hy.bl_inv, q _ G H (Ex.refl G) (E.push (.bl _))⟩
theorem od_notBl {a b : Bool} : OpD K B rNotB (.bool a) (.bool b) (.ok ()) (fun _ => .val (.bool (!decide (a = b)))) := fun G H σ ρ vx vy Q E hx hy q => ⟨a, b, hx.bl_inv, hy.bl_inv, q _ G H (Ex.refl G) (E.push (.bl _))⟩
end
section
variable {X : Cx} {B : Base} {ρ : List Slot} {a b c e : Expr}
/-- a op b op' c, nothing of it with effects -/
theorem jp_chain {r r' : R2} {x y z : D} {k1 k2 : Bool} (ht : ∀ ta tb tc, PE X a ta → PE X b tb → PE X c tc → PE X e (tChain r r' ta tb tc)) (ha : JP X B ρ a x) (hb : JP X B ρ b y) (hc : JP X B ρ c z)
    (h1 : OpD X.K B r x y (.ok ()) (fun _ => .val (.bool k1))) (h2 : OpD X.K B r' y z (.ok ()) (fun _ => .val (.bool k2))) : JP X B ρ e (.bool (k1 && k2)) := by
  refine PE_imp (ht _ _ _ ha hb hc) fun σ H Q ⟨G, E, q⟩ => ?_
  refine ⟨G, E, fun vx G1 H1 x1 E1 => ?_⟩
  refine ⟨G1, E1.pop, fun vy G2 H2 x2 E2 => ?_⟩
  refine h1 G2 H2 σ ρ vx vy _ E2.pop (E1.top.ex x2) E2.top fun v G3 H3 x3 E3 => ⟨k1, E3.top.bl_inv, ?_⟩
  have x13 := x1.trans (x2.trans x3)
  cases k1 with
  | false => exact q _ G3 H3 x13 (E3.pop.push (.bl _))
  | true =>
    refine ⟨G3, E3.pop, fun vz G4 H4 x4 E4 => ?_⟩
    exact h2 G4 H4 σ ρ vy vz _ E4.pop (E2.top.ex (x3.trans x4)) E4.top fun v' G5 H5 x5 E5 => q v' G5 H5 (x13.trans (x4.trans x5)) E5
end
end DL

/-! DL34: min(t), t a tuple of whole numbers -/
namespace L2
open PySem PySem.Spec PyProof.Rows
section
variable {X : Cx}
theorem minOf_le (x : Int) (xs : List Int) : PySem.W.minOf x xs ∈ x :: xs ∧ ∀ y ∈ x :: xs, PySem.W.minOf x xs ≤ y := by
  unfold PySem.W.minOf
  induction xs generalizing x with
  | nil => exact ⟨List.mem_cons_self, fun y m => by rw [List.mem_singleton.mp m]; exact Int.le_refl _⟩
  | cons z xs ih =>
    rw [List.foldl_cons]
    obtain ⟨h1, h2⟩ := ih (if PySem.W.DatumOrd.lt z x = true then z else x)
    generalize hm : (if PySem.W.DatumOrd.lt z x = true then z else x) = m at *
    have hlt : PySem.W.DatumOrd.lt z x = decide (z < x) := rfl
    have hmz : m ≤ z ∧ m ≤ x ∧ (m = z ∨ m = x) := by
      rw [hlt] at hm
      by_cases h : z < x
      · rw [if_pos (decide_eq_true h)] at hm
        omega
      · rw [if_neg (by simpa using h)] at hm
        omega
    refine ⟨?_, fun y hy => ?_⟩
    · rcases List.mem_cons.mp h1 with e | e
      · rw [e]
        rcases hmz.2.2 with e' | e'
        · rw [e']; exact List.mem_cons_of_mem _ List.mem_cons_self
        · rw [e']; exact List.mem_cons_self
      · exact List.mem_cons_of_mem _ (List.mem_cons_of_mem _ e)
    · have hm' := h2 m List.mem_cons_self
      rcases List.mem_cons.mp hy with e | hy
      · rw [e]; omega
      · rcases List.mem_cons.mp hy with e | hy
        · rw [e]; omega
        · exact h2 y (List.mem_cons_of_mem _ hy)
def rMinTI (K : PySem.W.Frag) : List V → Hp → VK → Prop := fun vs H Q => ∃ (a : Addr) (ns : List Int), vs = [V.ref a] ∧ SqT K H a (ns.map V.int) ∧ ns ≠ [] ∧ ∀ m, m ∈ ns → (∀ y, y ∈ ns → m ≤ y) → Q (.int m) H
theorem cr_minTI (hc : X.calm = true) (hu : X.A.units + 64 < cLine) : CallR X (.builtin "min") (rMinTI X.K) := by
  intro pins s σ H vs us Q I r h
  obtain ⟨a, ns, rfl, hs, hne, q⟩ := h
  rw [Vals.ref1 r]
  obtain ⟨its, rv, pt, hz⟩ := I.tuple hs
  cases ns with
  | nil => exact absurd rfl hne
  | cons n ns =>
    have hh : PySem.W.HoldAll s.heap its.toArray.toList (n :: ns) := PySem.W.HoldAll.of_ints (ints_of_vals rv)
    refine PySem.W.min_tuple_datum (x := n) (xs := ns) (I.ok.hd hc) (show s.heap.IsTuple a its.toArray from pt) hh (by show X.A.units + 1 + 0 < cLine; omega) fun i v h' tk hi hv k => ?_
    obtain ⟨h1, h2⟩ := minOf_le n ns
    obtain ⟨t, rfl⟩ : ∃ t, v = .int (PySem.W.minOf n ns) t := by
      have : IntsAre [v] [PySem.W.minOf n ns] := PySem.W.HoldAll.toInts (PySem.W.HoldAll.cons hv PySem.W.HoldAll.nil)
      cases this with
      | cons n t _ => exact ⟨t, rfl⟩
    exact ⟨.int _, H, I.kept k, ⟨_, rfl⟩, q _ h1 h2⟩
end
end L2
namespace DL
open PySem PySem.Spec L2
section
variable {K : PySem.W.Frag} {B : Base} {ρ : List Slot}
theorem cb_minTI {ns : List Int} : CbD K B ρ (rMinTI K) [.val (eT D.int ns)] (R.guard (ns ≠ [])) (fun _ => .val (.int (minL ns))) :=
  cb_val (w := .int (minL ns)) (fun hc G H σ vs Q e ok q => by
    obtain ⟨v, rfl, r⟩ := ok.one
    obtain ⟨a, xs, rfl, hS, hr⟩ := r.tup_inv
    have hx := hr.ints
    subst hx
    refine ⟨a, ns, rfl, e.t hS, hc, fun m hm hle => ?_⟩
    obtain ⟨h1, h2⟩ := minL_is hc
    rw [show m = minL ns from Int.le_antisymm (hle _ h1) (h2 m hm)]
    exact q) fun _ => .int _
end
end DL

/-! DL35: pairs of whole numbers as keys; dicts of one's own, by such pairs -/
namespace DL
open PySem PySem.Spec L2
@[reducible] def eK2 (p : Int × Int) : D := .key [p.1, p.2]
def kyP (p : Int × Int) : List Key := [Sum.inl p.1, Sum.inl p.2]
theorem kyP_inj {p q : Int × Int} (h : kyP p = kyP q) : p = q := by
  unfold kyP at h
  injection h with h1 h2
  injection h2 with h2 _
  exact Prod.ext (Sum.inl.inj h1) (Sum.inl.inj h2)
theorem kyP_kV (p : Int × Int) : (kyP p).map kV = [p.1, p.2].map V.int := rfl
theorem wk_K2 (p : Int × Int) : Wk (eK2 p) (eP2 D.int D.int p) := fun K G v h => by
  cases h with
  | key h => exact .tup (.inl (.inl h)) (.cons (.int _) (.cons (.int _) .nil))
theorem Rp.key_inv {K : PySem.W.Frag} {G : Hp} {v : V} {p : Int × Int} (h : Rp K G v (eK2 p)) : ∃ a, v = .ref a ∧ G a = some (.tup ((kyP p).map kV)) := by
  cases h with
  | key h => exact ⟨_, rfl, h⟩
theorem fl_K2 (p : Int × Int) : Flat (eK2 p) := by
  rw [eK2, Flat]
  trivial
section
variable {β : Type}
@[reducible] def odT (f : β → D) (kvs : List ((Int × Int) × β)) : OT := .dt (kvs.map fun p => (kyP p.1, f p.2))
def hasT (k : Int × Int) (kvs : List ((Int × Int) × β)) : Bool := kvs.any fun p => decide (p.1 = k)
def putT (kvs : List ((Int × Int) × β)) (k : Int × Int) (v : β) : List ((Int × Int) × β) := if hasT k kvs = true then kvs.map (fun p => if p.1 = k then (p.1, v) else p) else kvs ++ [(k, v)]
def mergeT (kvs more : List ((Int × Int) × β)) : List ((Int × Int) × β) := more.foldl (fun acc p => putT acc p.1 p.2) kvs
end
section
variable {K : PySem.W.Frag} {G : Hp} {β : Type} {f : β → D}
theorem kyP_dec (a k : Int × Int) : decide (kyP a = kyP k) = decide (a = k) := decide_eq_decide.mpr ⟨kyP_inj, fun h => by rw [h]⟩
theorem rpt_any {kvs : List (List Key × V)} {ds : List ((Int × Int) × β)} (h : RpE K G kvs (ds.map fun p => (kyP p.1, f p.2))) (k : Int × Int) : (kvs.any fun kv => decide (kv.1 = kyP k)) = hasT k ds := by
  unfold hasT
  induction ds generalizing kvs with
  | nil =>
    cases h
    rfl
  | cons x ds ih =>
    cases h with
    | @cons _ v _ r _ h1 h2 =>
      rw [List.any_cons, List.any_cons, ih h2, kyP_dec]
theorem rpt_len {kvs : List (List Key × V)} {ds : List (List Key × D)} (h : RpE K G kvs ds) : kvs.length = ds.length := by
  induction h with
  | nil => rfl
  | cons _ _ ih => rw [List.length_cons, List.length_cons, ih]
theorem rpt_append {kvs kws : List (List Key × V)} {ds es : List (List Key × D)} (h : RpE K G kvs ds) (h2 : RpE K G kws es) : RpE K G (kvs ++ kws) (ds ++ es) := by
  induction h with
  | nil => exact h2
  | cons h _ ih => exact .cons h ih
theorem rpt_put {kvs : List (List Key × V)} {ds : List ((Int × Int) × β)} (h : RpE K G kvs (ds.map fun p => (kyP p.1, f p.2))) {k : Int × Int} {v : V} {d : β} (r : Rp K G v (f d)) : RpE K G (putK kvs (kyP k) v) ((putT ds k d).map fun p => (kyP p.1, f p.2)) := by
  unfold putK putT
  rw [rpt_any h k]
  by_cases e : hasT k ds = true
  · rw [if_pos e, if_pos e]
    clear e
    induction ds generalizing kvs with
    | nil =>
      cases h
      exact .nil
    | cons x ds ih =>
      cases h with
      | @cons _ w _ t _ h1 h2 =>
        rw [List.map_cons, List.map_cons, List.map_cons]
        by_cases e : x.1 = k
        · rw [if_pos (show kyP x.1 = kyP k by rw [e]), if_pos e]
          exact .cons r (ih h2)
        · rw [if_neg (show ¬ kyP x.1 = kyP k from fun z => e (kyP_inj z)), if_neg e]
          exact .cons h1 (ih h2)
  · rw [if_neg e, if_neg e, List.map_append]
    exact rpt_append h (.cons r .nil)
theorem valV_any' (k : List Key) (kvs : List (List Key × V)) : (valV kvs k).isSome = kvs.any fun kv => decide (kv.1 = k) := (valV_any k kvs).symm
end
section
variable {K : PySem.W.Frag} {B : Base} {G H : Hp} {σ : L2.St} {ρ : List Slot} {ex : List (V × Slot)}
/-- a new dict, owned -/
theorem En.newDT (E : En K B G H σ ρ ex) {p : Addr} (hp : H p = none) {kvs : List (List Key × V)} {ds : List (List Key × D)} (r : RpE K G kvs ds) : En K B G (upd H p (.dT kvs)) σ ρ ((.ref p, .own 0 (.dt ds)) :: ex) := by
  obtain ⟨A, c, n, f⟩ := E.own
  have hG := E.sub.back hp
  have h0 := E.fresh hp
  have hn : p ∉ A := fun m => by
    obtain ⟨u, hu⟩ := c.there p m
    rw [hu] at hp
    cases hp
  refine ⟨E.anc.put hG (.inr h0) _, ⟨p :: ([] ++ A), .cons (A := [p]) (.own (.dt upd_same r) (fun a m => by
      rw [List.mem_singleton.mp m]
      exact .inr h0) (.inl rfl)) (c.ex (Ex.refl G) fun a m u e => by
      rw [upd_ne (ne_of_none e hp)]
      exact e), ?_, fun a m => ?_⟩, E.len, fun i j q e => ?_⟩
  · exact List.nodup_cons.mpr ⟨hn, n⟩
  · rcases List.mem_cons.mp m with rfl | m
    · exact hG
    · exact f a m
  · obtain ⟨v, w, h1, h2, h3⟩ := E.ali i j q e
    exact ⟨v, w, h1, h2, h3.ex (Ex.new hp)⟩
theorem En.ownDT (E : En K B G H σ ρ ex) {i l : Nat} {ds : List (List Key × D)} (h : ρ[i]? = some (.own l (.dt ds))) (hal : noAlis ρ = true) : ∃ p kvs, σ[i]? = some (some (.ref p)) ∧ H p = some (.dT kvs) ∧ RpE K G kvs ds ∧
    ∀ kvs' ds', RpE K G kvs' ds' → En K B G (upd H p (.dT kvs')) σ (ρ.set i (.own l (.dt ds'))) ex := by
  obtain ⟨A0, c, n, g⟩ := E.own
  have hi : i < ρ.length := (List.getElem?_eq_some_iff.mp h).1
  have h' : (ex.map (·.2) ++ ρ)[ex.length + i]? = some (.own l (.dt ds)) := by
    rw [List.getElem?_append_right (by simp), List.length_map]
    simpa using h
  obtain ⟨v, A, A2, e1, hO, ⟨hl, hp⟩, c2, pm⟩ := c.take1 h'
  rw [List.getElem?_append_right (by simp), List.length_map] at e1
  have e1 : σ[i]? = some (some v) := by simpa using e1
  have nn := pm.nodup_iff.mp n
  have n1 := List.nodup_append.mp nn
  cases hO with
  | @dt a kvs _ ha hr =>
    refine ⟨a, kvs, e1, ha, hr, fun kvs' ds' r' => ?_⟩
    have hG : G a = none := g a (pm.mem_iff.mpr (List.mem_append_left _ List.mem_cons_self))
    have c3 : Cells K B G (upd H a (.dT kvs')) (ex.map (fun p => some p.1) ++ σ) ((ex.map (·.2) ++ ρ).set (ex.length + i) .non) A2 := c2.ex (Ex.refl G) fun b m u e => by
      rw [upd_ne (fun z => by
        subst z
        exact n1.2.2 b List.mem_cons_self b m rfl)]
      exact e
    obtain ⟨A8, c8, p8⟩ := c3.put1 (i := ex.length + i) (l := l) (o := .dt ds') (v := .ref a) (A1 := [a]) (by
      rw [List.getElem?_set_self]
      rw [List.length_append, List.length_map]
      omega) (by
      rw [List.getElem?_append_right (by simp), List.length_map]
      simpa using e1) (.dt upd_same r') ⟨hl, hp⟩
    rw [List.set_set, List.set_append_right _ _ (by simp), List.length_map, Nat.add_sub_cancel_left] at c8
    refine ⟨E.anc.put hG ((hl a List.mem_cons_self).elim (fun z => .inl ⟨l, z⟩) .inr) _, ⟨A8, c8, p8.nodup_iff.mpr nn, fun b m => g b (pm.mem_iff.mpr (p8.mem_iff.mp m))⟩, by rw [List.length_set]; exact E.len, fun k j q e => ?_⟩
    by_cases hk : i = k
    · subst hk
      rw [List.getElem?_set_self hi] at e
      cases e
    · rw [List.getElem?_set_ne hk] at e
      exact absurd e (noAlis_get hal)
end
section
variable {X : Cx} {B : Base} {ρ : List Slot} {e a b o2 val : Expr} {es : List Expr} {pos pos' : Pos} {β γ : Type}
/-- {} -/
theorem je_newT {f : β → D} : JE X B ρ (.Dict [] [] pos) (.ok ()) (fun _ => .own 0 (odT f ([] : List ((Int × Int) × β)))) (fun _ => ρ) :=
  PE_imp pe_dnewT fun σ H Q ⟨G, E, q⟩ p hp => q _ G _ (Ex.refl G) (E.newDT hp .nil)
/-- (a, b) as a key -/
theorem je_tupK {x1 : Nat} {m : R γ} {as : γ → List Ar} {ρ' : γ → List Slot} {p : γ → Int × Int} (h : JA X B ρ es m as ρ') (hp : ∀ b, arDs (as b) = [D.int (p b).1, D.int (p b).2] := by intro _; rfl) (hs : ∀ b, noSlots (as b) = true := by intro _; rfl) : JE X B ρ (.Tuple es x1 pos) m (fun b => .val (eK2 (p b))) ρ' :=
  PE_imp (pe_tup h) fun σ H Q ⟨G, E, q⟩ => ⟨G, E, R.post_mono q fun b k vs G1 H1 x1 E1 ok => by
    have r := ok.ds (hs b)
    rw [hp b] at r
    have hv : vs = [(p b).1, (p b).2].map V.int := r.ints (ns := [(p b).1, (p b).2])
    subst hv
    refine ⟨?_, fun q hq => k _ (upd G1 q _) _ (x1.trans (Ex.new (E1.sub.back hq))) ((E1.new hq _).push (.key upd_same))⟩
    exact Nat.le_of_lt (small1000 (show 2 ≤ 1000 by decide))⟩
/-- d[k] = v -/
theorem j1_dputT (i : Nat) {x : Str} {px : Pos} {l : Nat} {f : β → D} {kvs : List ((Int × Int) × β)} {k : Int × Int} {v : β} (hu : X.A.units + 64 < cLine) (h : ρ[i]? = some (.own l (odT f kvs)) := by rfl) (hk : JP X B ρ o2 (eK2 k)) (hv : JP X B ρ val (f v)) (hal : noAlis ρ = true := by rfl) (hN : X.N[i]? = some x := by rfl)
    (hvi : Vis X.env.scope x := by first | exact Or.inl rfl | exact Or.inr (Or.inl rfl) | exact Or.inr (Or.inr rfl)) (hd : (x == ("__debug__" : Str)) = false := by decide) (hcd : (x == ("__classdict__" : Str)) = false := by decide)
    (hs : swapsWith val (some (.Subscript (.Name x px) o2 pos')) pos.line X.env = pure false := by rfl) :
    J1 X B ρ (.Assign [.Subscript (.Name x px) o2 pos'] val pos) (R.guard (kvs.length < sizeLine)) (fun _ => ρ.set i (.own l (odT f (putT kvs k v)))) :=
  PS_imp (ps_dput (by omega) (pv (X := X) (pos := px) i hN hvi hd hcd) hk hv hs) fun Dn σ H ⟨G, E, q⟩ => by
    obtain ⟨hc, q⟩ := R.post_guard q
    refine ⟨G, E, fun w G1 H1 x1 E1 => ?_⟩
    obtain ⟨p, kv, g1, g2, g3, _⟩ := E1.pop.ownDT h hal
    refine ⟨.ref p, g1, G1, E1.pop, fun y G2 H2 x2 E2 => ?_⟩
    obtain ⟨kb, hy, hkb⟩ := E2.top.key_inv
    subst hy
    obtain ⟨p', kv', f1, f2, f3, f4⟩ := E2.pop.ownDT h hal
    have ep : p' = p := by
      have z := f1.symm.trans g1
      injection z with z
      injection z with z
      injection z
    subst ep
    have hl : kv'.length < sizeLine := by
      rw [rpt_len f3, List.length_map]
      exact hc
    exact ⟨p', _, rfl, DPut.t (k := kyP k) (v := w) f2 (E2.sub _ _ hkb) hl, q σ G2 _ (x1.trans x2) (f4 _ _ (rpt_put f3 (E1.top.ex x2)))⟩
/-- k in d, k not in d -/
theorem je_dinT (i : Nat) {x : Str} {px : Pos} {l : Nat} {f : β → D} {kvs : List ((Int × Int) × β)} {k : Int × Int} (hu : X.A.units + 64 < cLine) (h : ρ[i]? = some (.own l (odT f kvs)) := by rfl) (hk : JP X B ρ a (eK2 k)) (hal : noAlis ρ = true := by rfl) (hN : X.N[i]? = some x := by rfl)
    (hvi : Vis X.env.scope x := by first | exact Or.inl rfl | exact Or.inr (Or.inl rfl) | exact Or.inr (Or.inr rfl)) (hd : (x == ("__debug__" : Str)) = false := by decide) (hcd : (x == ("__classdict__" : Str)) = false := by decide)
    (hm : behindInMarks .In (.Name x px) = false := by rfl) :
    JP X B ρ (.Compare a [.In] [.Name x px] pos) (.bool (hasT k kvs)) :=
  PE_imp (pe_cmp (pc_din (by omega) hk (pv (X := X) (pos := px) i hN hvi hd hcd)) hm) fun σ H Q ⟨G, E, q⟩ => by
    refine ⟨G, E, fun w G1 H1 x1 E1 => ?_⟩
    obtain ⟨kb, hy, hkb⟩ := E1.top.key_inv
    subst hy
    obtain ⟨p, kv, g1, g2, g3, _⟩ := E1.pop.ownDT h hal
    refine ⟨.ref p, g1, p, _, rfl, DGet.t (k := kyP k) g2 (E1.sub _ _ hkb), ?_⟩
    rw [valV_any', rpt_any g3]
    exact q _ G1 H1 x1 (E1.pop.push (.bl _))
theorem je_dniT (i : Nat) {x : Str} {px : Pos} {l : Nat} {f : β → D} {kvs : List ((Int × Int) × β)} {k : Int × Int} (hu : X.A.units + 64 < cLine) (h : ρ[i]? = some (.own l (odT f kvs)) := by rfl) (hk : JP X B ρ a (eK2 k)) (hal : noAlis ρ = true := by rfl) (hN : X.N[i]? = some x := by rfl)
    (hvi : Vis X.env.scope x := by first | exact Or.inl rfl | exact Or.inr (Or.inl rfl) | exact Or.inr (Or.inr rfl)) (hd : (x == ("__debug__" : Str)) = false := by decide) (hcd : (x == ("__classdict__" : Str)) = false := by decide)
    (hm : behindInMarks .NotIn (.Name x px) = false := by rfl) :
    JP X B ρ (.Compare a [.NotIn] [.Name x px] pos) (.bool (!hasT k kvs)) :=
  PE_imp (pe_cmp (pc_dnotin (by omega) hk (pv (X := X) (pos := px) i hN hvi hd hcd)) hm) fun σ H Q ⟨G, E, q⟩ => by
    refine ⟨G, E, fun w G1 H1 x1 E1 => ?_⟩
    obtain ⟨kb, hy, hkb⟩ := E1.top.key_inv
    subst hy
    obtain ⟨p, kv, g1, g2, g3, _⟩ := E1.pop.ownDT h hal
    refine ⟨.ref p, g1, p, _, rfl, DGet.t (k := kyP k) g2 (E1.sub _ _ hkb), ?_⟩
    rw [valV_any', rpt_any g3]
    exact q _ G1 H1 x1 (E1.pop.push (.bl _))
end
end DL

/-! DL36: dict(list of (key, value)), update: keys that are tuples -/
namespace L2
open PySem PySem.Spec PyProof.Rows
def mergeL (kvs more : List (List Key × V)) : List (List Key × V) := more.foldl (fun acc kv => putK acc kv.1 kv.2) kvs
theorem KT.merge {H : Hp} : ∀ {kws : List (List Key × V)} {xs : List (List Key × Addr × Value)} {kvs : List (List Key × V)} {ys : List (List Key × Addr × Value)}, KT H kws xs → KT H kvs ys → KT H (mergeL kvs kws) (storedAllH ys xs)
  | [], [], _, _, .nil, h => h
  | kv :: kws, x :: xs, _, _, .cons h t, r => by
    obtain ⟨h1, h2, h3⟩ := h
    have := KT.put r kv.1 (b := x.2.1) (u := x.2.2) (by exact h2) h3
    rw [h1] at this
    show KT H (mergeL (putK _ kv.1 kv.2) kws) (storedAllH (storedH _ x.1 x.2.1 x.2.2) xs)
    rw [h1]
    exact KT.merge t this
theorem length_mergeL : ∀ (more kvs : List (List Key × V)), (mergeL kvs more).length ≤ kvs.length + more.length
  | [], kvs => Nat.le_refl _
  | m :: more, kvs => by
    refine Nat.le_trans (length_mergeL more (putK kvs m.1 m.2)) ?_
    have : (putK kvs m.1 m.2).length ≤ kvs.length + 1 := by
      unfold putK
      split
      · rw [List.length_map]; omega
      · rw [List.length_append, List.length_singleton]; exact Nat.le_refl _
    rw [List.length_cons]
    omega
section
variable {X : Cx}
def rDictT (K : PySem.W.Frag) : List V → Hp → VK → Prop := fun xs H Q => ∃ (a : Addr) (ps : List Addr) (kvs : List (List Key × V)), xs = [.ref a] ∧ SqL K H a (ps.map V.ref) ∧
  Paired (fun p (kv : List Key × V) => ∃ b, SqT K H p [.ref b, kv.2] ∧ H b = some (.tup (kv.1.map kV))) ps kvs ∧ ∀ p, H p = none → Q (.ref p) (upd H p (.dT (mergeL [] kvs)))
theorem pairs_ofT {pins : List (Addr × Obj)} {σ : St} {H : Hp} {s : Shared} (I : Inv X pins σ H s) : ∀ {ps : List Addr} {kvs : List (List Key × V)}, Paired (fun p (kv : List Key × V) => ∃ b, SqT X.K H p [.ref b, kv.2] ∧ H b = some (.tup (kv.1.map kV))) ps kvs →
    ∃ prs : List (List Key × Addr × Value), KT H kvs prs ∧ prs.length = ps.length ∧ ∀ (j : Nat) q, prs[j]? = some q → ∃ b, ps[j]? = some b ∧ IsTup s.heap b #[.ref q.2.1, q.2.2]
  | _, _, .nil => ⟨[], .nil, rfl, fun j q e => by simp at e⟩
  | _, _, .cons (a := p) (b := kv) h t => by
    obtain ⟨prs, r, hl, hp⟩ := pairs_ofT I t
    obtain ⟨b, hS, hb⟩ := h
    obtain ⟨its, rv, ht, _⟩ := I.tuple hS
    obtain ⟨u, y, ei, ru, ry⟩ := vals2 rv
    subst ei
    cases (show u = Value.ref b from ru)
    refine ⟨(kv.1, b, y) :: prs, .cons ⟨rfl, hb, ry⟩ r, by rw [List.length_cons, List.length_cons, hl], fun j q e => ?_⟩
    cases j with
    | zero =>
      have e' : (kv.1, b, y) = q := Option.some.inj e
      subst e'
      exact ⟨p, rfl, ht⟩
    | succ j =>
      obtain ⟨b', e1, e2⟩ := hp j q (by simpa using e)
      exact ⟨b', by simpa using e1, e2⟩
theorem keys_stay {pins : List (Addr × Obj)} {σ : St} {H : Hp} {s : Shared} (I : Inv X pins σ H s) {kvs : List (List Key × V)} {prs : List (List Key × Addr × Value)} (r : KT H kvs prs) {h' : Heap} {d : Addr} (hd : s.heap.objs.size ≤ d) (k : ∀ b o, b ≠ d → s.heap.get? b = some o → h'.get? b = some o) : ∀ x ∈ prs, (tupleKind (mixKind X.prog X.w)).is h' x.1 x.2.1 := by
  induction r with
  | nil => intro x hx; exact nomatch hx
  | @cons p q ps qs hq t ih =>
    intro x hx
    rcases List.mem_cons.mp hx with e | hx
    · subst e
      obtain ⟨h1, h2, _⟩ := hq
      rw [h1] at h2
      obtain ⟨o, its, n, g1, g2⟩ := key_of I.hok h2
      exact ⟨o, its, n, k _ _ (Nat.ne_of_lt (Nat.lt_of_lt_of_le (Heap.lt_size g1) hd)) g1, g2⟩
    · exact ih x hx
theorem cr_dictT (hcalm : X.calm = true) (hu : X.A.units + 64 < cLine) : CallR X (.type "dict") (rDictT X.K) := by
  intro pins s σ H xs us Q I r q
  obtain ⟨a, ps, kvs, ex, hq, hp, q⟩ := q
  subst ex
  rw [Vals.ref1 r]
  obtain ⟨its, rv, pl, hz⟩ := I.list hq
  have ei := refs_at rv
  subst ei
  rw [List.length_map] at hz
  obtain ⟨prs, rel, hl, hpr⟩ := pairs_ofT I hp
  obtain ⟨o, n, ho, hc, hd, hdat⟩ := pl
  have P := PairArg.list (prog := X.prog) (w := X.w) a (ps.map Value.ref).toArray (fun j => (ps[j]?).getD 0) (prs.map fun q => (Value.ref q.2.1, q.2.2))
  refine call_dict_pairsH (knd := tupleKind (mixKind X.prog X.w)) (ps := prs) P (I.ok.hd hcalm) (tupleKind_room_in1 (show X.A.units + 1 + 1 < cLine by omega)) ⟨⟨o, n, ho, hc, hd, hdat⟩, by simp [hl], fun j k v e => ?_⟩ ⟨by rw [List.length_map], fun i key v e => ?_⟩ (fun h' k => keys_stay I rel (Nat.le_refl _) fun b ob hb e => k b ob hb (fun z => nomatch z) e) (by rw [List.length_map, hl]; exact hz) fun h' tk hd' k => ?_
  · rw [List.getElem?_map] at e
    obtain ⟨q', e1, e2⟩ := Option.map_eq_some_iff.mp e
    obtain ⟨b, e3, e4⟩ := hpr j q' e1
    injection e2 with e5 e6
    subst e5 e6
    refine ⟨by simp [e3], .inl ?_⟩
    show s.heap.IsTuple ((ps[j]?).getD 0) _
    rw [e3]
    exact e4
  · have e : (prs.map fun q => (Value.ref q.2.1, q.2.2))[i]? = some (key, v) := e
    rw [List.getElem?_map] at e
    obtain ⟨q', e1, e2⟩ := Option.map_eq_some_iff.mp e
    injection e2 with e5 e6
    subst e5 e6
    exact ⟨q'.1, q'.2.1, e1, rfl⟩
  · have hm : (s.heap.objs.size == sysModules) = false := beq_eq_false_iff_ne.mpr (Nat.ne_of_gt I.big)
    have hlen : (mergeL [] kvs).length ≤ sizeLine := by
      refine Nat.le_trans (length_mergeL kvs []) ?_
      rw [List.length_nil, Nat.zero_add, rel.length, hl]
      exact hz
    have hn : H s.heap.objs.size = none := I.hok.fresh (Nat.le_refl _)
    have kt : KT (upd H s.heap.objs.size (.dT (mergeL [] kvs))) (mergeL [] kvs) (storedAllH [] prs) := (KT.merge rel .nil).keeps fun b ys e => by
      rw [upd_ne (fun z => by rw [z, hn] at e; cases e)]
      exact e
    obtain ⟨o', es, ep, g1, g2, g3, g4, g5, g6⟩ := hd'
    exact ⟨.ref s.heap.objs.size, upd H s.heap.objs.size (.dT (mergeL [] kvs)), I.laid (t' := tk) (fun b ob e => k b ob (fun z => nomatch z) e) (Nat.le_refl _) (show ObjOk X.prog X.w _ _ _ (.dT (mergeL [] kvs)) from ⟨hlen, hm, _, kt, o', es, ep, g1, g2, g3, g4, g6⟩), rfl, q _ hn⟩
end
end L2

/-! DL37: d.update(e), keys that are tuples -/
namespace L2
open PySem PySem.Spec PyProof.Rows
section
variable {X : Cx}
def rUpdT (P : Program) (w : World) : V → List V → Hp → VK → Prop := fun x xs H Q => ∃ (a b : Addr) (kvs kws : List (List Key × V)), x = .ref a ∧ xs = [.ref b] ∧ a ≠ b ∧ H a = some (.dT kvs) ∧ H b = some (.dT kws) ∧
  (kvs ≠ [] ∨ (kws.map fun p => (tupleKind (mixKind P w)).hash p.1).Nodup) ∧ kvs.length + kws.length ≤ sizeLine ∧ Q .non (upd H a (.dT (mergeL kvs kws)))
theorem KT.keys {H : Hp} {kvs : List (List Key × V)} {xs : List (List Key × Addr × Value)} (r : KT H kvs xs) : xs.map (·.1) = kvs.map (·.1) ∧ ∀ x ∈ xs, H x.2.1 = some (.tup (x.1.map kV)) := by
  induction r with
  | nil => exact ⟨rfl, fun x h => nomatch h⟩
  | @cons p q ps qs h t ih =>
    obtain ⟨h1, h2, _⟩ := h
    refine ⟨by rw [List.map_cons, List.map_cons, ih.1, h1], fun x hx => ?_⟩
    rcases List.mem_cons.mp hx with e | hx
    · rw [e, ← h1]; exact h2
    · exact ih.2 x hx
theorem mt_updT (hu : X.A.units + 64 < cLine) : MtR X "dict.update" (rUpdT X.prog X.w) := by
  intro pins s σ H x xs v us Q I rx rxs h
  obtain ⟨a, b, kvs, kws, rfl, rfl, ne, ha, hb, hap, hz, q⟩ := h
  cases rx
  obtain ⟨u, rfl, ru⟩ := rxs.one
  cases ru
  obtain ⟨z1, d1, xs1, r1, dd1⟩ := dt_of I.hok ha
  obtain ⟨z2, d2, xs2, r2, dd2⟩ := dt_of I.hok hb
  have l1 := Paired.length r1
  have l2 := Paired.length r2
  obtain ⟨k1, k2⟩ := r2.keys
  have hap' : xs1 ≠ [] ∨ ((∀ x ∈ xs2, s.TypeIs (.ref x.2.1) "tuple") ∧ (xs2.map fun x => (tupleKind (mixKind X.prog X.w)).hash x.1).Nodup) := by
    rcases hap with h | h
    · refine .inl fun e => h ?_
      rw [e] at l1
      exact List.length_eq_zero_iff.mp l1
    · refine .inr ⟨fun x hx => ?_, ?_⟩
      · obtain ⟨its, _, pt, _⟩ := I.tuple (.inl (.inl (k2 x hx)))
        exact pt.typeIs
      · have e : (xs2.map fun x => (tupleKind (mixKind X.prog X.w)).hash x.1) = (xs2.map (·.1)).map (tupleKind (mixKind X.prog X.w)).hash := by rw [List.map_map]; rfl
        have e2 : (kws.map fun p => (tupleKind (mixKind X.prog X.w)).hash p.1) = (kws.map (·.1)).map (tupleKind (mixKind X.prog X.w)).hash := by rw [List.map_map]; rfl
        rw [e, k1, ← e2]
        exact h
  refine PySem.call_update_dictH (knd := tupleKind (mixKind X.prog X.w)) (tupleKind_room_in1 (by omega)) ne d2 dd1 dd2 hap' (by omega) fun h' da db sb => ?_
  have hl : (mergeL kvs kws).length ≤ sizeLine := Nat.le_trans (length_mergeL kws kvs) hz
  obtain ⟨q', es, ep, hq, h2, h3, h4, _, h5⟩ := da
  refine ⟨.non, upd H a (.dT (mergeL kvs kws)), d_write I (by rw [ha]; exact True.intro) sb ⟨q', hq⟩ ⟨hl, d1, _, (KT.merge r2 r1).keeps fun c ys ec => ?_, q', es, ep, hq, h2, h3, h4, h5⟩, rfl, q⟩
  rw [upd_ne (ne_of ec ha (fun z => nomatch z))]
  exact ec
end
end L2

/-! DL38: dict(list of (key, value)), d.update(e) in the data layer -/
namespace DL
open PySem PySem.Spec L2
/-- a key's hash -/
def khash (p : Int × Int) : Int := reduceHash (Builtin.Tuple.tupleHashOf [hashInt p.1, hashInt p.2])
theorem khash_is {P : Program} {w : World} (p : Int × Int) : (tupleKind (mixKind P w)).hash (kyP p) = khash p := rfl
section
variable {K : PySem.W.Frag} {B : Base} {ρ : List Slot} {β : Type} {f : β → D}
theorem rpt_merge {G : Hp} : ∀ {more : List ((Int × Int) × β)} {kws : List (List Key × V)} {kvs : List (List Key × V)} {ds : List ((Int × Int) × β)}, RpE K G kws (more.map fun p => (kyP p.1, f p.2)) → RpE K G kvs (ds.map fun p => (kyP p.1, f p.2)) → RpE K G (mergeL kvs kws) ((mergeT ds more).map fun p => (kyP p.1, f p.2))
  | [], _, _, _, .nil, h => h
  | m :: more, kws, kvs, ds, h0, h => by
    cases h0 with
    | @cons _ w _ r _ h1 h2 => exact rpt_merge (more := more) (kws := r) (ds := putT ds m.1 m.2) h2 (rpt_put h h1)
theorem rpt_keys {G : Hp} {kvs : List (List Key × V)} {ds : List ((Int × Int) × β)} (h : RpE K G kvs (ds.map fun p => (kyP p.1, f p.2))) : kvs.map (·.1) = ds.map fun p => kyP p.1 := by
  induction ds generalizing kvs with
  | nil => cases h; rfl
  | cons x ds ih =>
    cases h with
    | cons h1 h2 => rw [List.map_cons, List.map_cons, ih h2]
theorem pairsT_rp {G : Hp} : ∀ {xs : List ((Int × Int) × β)} {vs : List V}, RpAll K G vs (xs.map (eP2 eK2 f)) → ∃ (ps : List Addr) (kvs : List (List Key × V)), vs = ps.map V.ref ∧ Paired (fun p (kv : List Key × V) => ∃ b, SqT K G p [.ref b, kv.2] ∧ G b = some (.tup (kv.1.map kV))) ps kvs ∧ RpE K G kvs (xs.map fun p => (kyP p.1, f p.2))
  | [], _, .nil => ⟨[], [], rfl, .nil, .nil⟩
  | x :: xs, _, .cons h r => by
    obtain ⟨ps, kvs, e1, e2, e3⟩ := pairsT_rp r
    obtain ⟨p, ws, e4, hS, hr⟩ := h.tup_inv
    obtain ⟨v, w, rfl, h1, h2⟩ := rp2 hr
    obtain ⟨b, e5, hb⟩ := h1.key_inv
    subst e5 e1 e4
    exact ⟨p :: ps, (kyP x.1, w) :: kvs, rfl, .cons ⟨b, hS, hb⟩ e2, .cons h2 e3⟩
theorem pairedT_ex {G H : Hp} (e : Ex G H) : ∀ {ps : List Addr} {kvs : List (List Key × V)}, Paired (fun p (kv : List Key × V) => ∃ b, SqT K G p [.ref b, kv.2] ∧ G b = some (.tup (kv.1.map kV))) ps kvs → Paired (fun p (kv : List Key × V) => ∃ b, SqT K H p [.ref b, kv.2] ∧ H b = some (.tup (kv.1.map kV))) ps kvs
  | _, _, .nil => .nil
  | _, _, .cons ⟨b, h, hb⟩ r => .cons ⟨b, e.t h, e _ _ hb⟩ (pairedT_ex e r)
theorem cb_dictT {xs : List ((Int × Int) × β)} : CbD K B ρ (rDictT K) [.val (eL (eP2 eK2 f) xs)] (.ok ()) (fun _ => .own 0 (odT f (mergeT [] xs))) := fun G H σ vs Q E ok q => by
  obtain ⟨v, rfl, r⟩ := ok.one
  obtain ⟨p, ws, rfl, hS, hr⟩ := r.lst_inv
  obtain ⟨ps, kvs, rfl, e2, e3⟩ := pairsT_rp hr
  refine ⟨p, ps, kvs, rfl, .inl (E.sub.rd hS), pairedT_ex E.sub e2, fun p' hp => q _ G _ (Ex.refl G) (E.newDT hp (rpt_merge (ds := ([] : List ((Int × Int) × β))) e3 .nil))⟩
end
section
variable {X : Cx} {B : Base} {ρ : List Slot} {pos : Pos} {e : Expr}
/-- two owned dicts lie apart -/
theorem En.apartT {K : PySem.W.Frag} {B : Base} {G H : Hp} {σ : L2.St} {ρ : List Slot} {v : V} {ex : List (V × Slot)} {i l l' : Nat} {ds es : List (List Key × D)} (E : En K B G H σ ρ ((v, .own l' (.dt es)) :: ex)) (h : ρ[i]? = some (.own l (.dt ds))) :
    ∃ p q kvs kws, σ[i]? = some (some (.ref p)) ∧ v = .ref q ∧ p ≠ q ∧ H p = some (.dT kvs) ∧ H q = some (.dT kws) ∧ RpE K G kvs ds ∧ RpE K G kws es := by
  obtain ⟨A0, c, n, g⟩ := E.own
  have c' : Cells K B G H (some v :: (ex.map (fun p => some p.1) ++ σ)) (.own l' (.dt es) :: (ex.map (·.2) ++ ρ)) A0 := c
  cases c' with
  | @cons _ _ A1 _ _ A2 c1 c2 =>
    cases c1 with
    | own hO hl hp =>
      cases hO with
      | @dt q kws _ hq hr =>
        obtain ⟨w, A3, A4, e1, hO2, _, _, pm⟩ := c2.take1 (i := ex.length + i) (by
          rw [List.getElem?_append_right (by simp), List.length_map]
          simpa using h)
        rw [List.getElem?_append_right (by simp), List.length_map] at e1
        have e1 : σ[i]? = some (some w) := by simpa using e1
        cases hO2 with
        | @dt p kvs _ hp' hr' =>
          refine ⟨p, q, kvs, kws, e1, rfl, fun z => ?_, hp', hq, hr', hr⟩
          have := (List.nodup_append.mp n).2.2 q List.mem_cons_self p (pm.mem_iff.mpr (List.mem_append_left _ List.mem_cons_self))
          exact this z.symm
/-- d.update(e), e a new dict -/
theorem je_updT (i : Nat) {x : Str} {px ap : Pos} {l l0 : Nat} {ds0 : List (List Key × D)} {β α : Type} {f : α → D} {m : R β} {y : β → List ((Int × Int) × α)} {ρ' : β → List Slot} (xs : β → List ((Int × Int) × α)) (hu : X.A.units + 64 < cLine) (he : JE X B ρ e m (fun b => .own 0 (odT f (y b))) ρ') (h : ∀ b, (ρ' b)[i]? = some (.own l (odT f (xs b))) := by intro _; rfl) (hal : ∀ b, noAlis (ρ' b) = true := by intro _; rfl)
    (h0 : ρ[i]? = some (.own l0 (.dt ds0)) := by rfl) (hN : X.N[i]? = some x := by rfl) (hv : Vis X.env.scope x := by first | exact Or.inl rfl | exact Or.inr (Or.inl rfl) | exact Or.inr (Or.inr rfl))
    (hd : (x == ("__debug__" : Str)) = false := by decide) (hcd : (x == ("__classdict__" : Str)) = false := by decide) (hst : starEach [e] X.env = (false, eval e X.env) :: starEach [] X.env := by rfl)
    (hbase : attributeBase (.Name x px) "update" X.env (eval (.Name x px) X.env) = eval (.Name x px) X.env := by rfl)
    (hone : ((backTo pos (starEach [e] X.env)).all (fun x => !x.1) && (backToKw pos (keywordEach [] X.env)).all (fun x => x.1.isSome) && decide ([e].length + ([] : List Keyword).length + (if ([] : List Keyword).isEmpty then 0 else 1) < 30)) = true := by rfl)
    (hline : (ap.endLine == pos.line) = true := by rfl) (hnil : (backTo pos (starEach [] X.env)).any (·.1) = false := by rfl) :
    JE X B ρ (.Call (.Attribute (.Name x px) "update" ap) [e] [] pos) (m.bind fun b => (R.guard ((xs b ≠ [] ∨ ((y b).map fun p => khash p.1).Nodup) ∧ (xs b).length + (y b).length ≤ sizeLine)).bind fun _ => .ok b) (fun _ => .val .none) (fun b => (ρ' b).set i (.own l (odT f (mergeT (xs b) (y b))))) :=
  PE_imp (pe_bm PySem.F.plainAttrs_dict PySem.F.slot_dict_update PySem.F.type_dict_update (mt_updT hu) (pv (X := X) (pos := px) i hN hv hd hcd) (pa_cons he pa_nil hst) hbase hone hline hst hnil) fun σ H Q ⟨G, E, q⟩ => by
    obtain ⟨A, c, n, g⟩ := E.own
    obtain ⟨v, A1, A2, e1, hO, hl, c2, pm⟩ := Cells.take1 (show Cells X.K B G H σ ρ A from c) h0
    cases hO with
    | @dt a kvs0 _ ha hr0 =>
      refine ⟨.ref a, e1, .inr (.inr (.inl ⟨rfl, .inr ⟨_, ha⟩⟩)), G, E, R.post_mono (R.post_bind.mp q) fun b q w G1 H1 x1 E1 => ?_⟩
      obtain ⟨⟨hc, hz⟩, q⟩ := R.post_guard (R.post_bind.mp q)
      obtain ⟨p, p2, kvs, kws, g1, g2, ne, g3, g4, g5, g6⟩ := E1.apartT (h b)
      subst g2
      have ep : p = a := by
        have z := g1.symm.trans e1
        injection z with z
        injection z with z
        injection z
      subst ep
      obtain ⟨p', kv', f1, f2, f3, f4⟩ := E1.pop.ownDT (h b) (hal b)
      have ep : p' = p := by
        have z := f1.symm.trans g1
        injection z with z
        injection z with z
        injection z
      subst ep
      have ek : kvs = kv' := by
        have z := g3.symm.trans f2
        injection z with z
        injection z
      subst ek
      refine ⟨p', p2, kvs, kws, rfl, rfl, ne, g3, g4, ?_, ?_, q _ G1 _ x1 ((f4 _ _ (rpt_merge g6 f3)).push .non)⟩
      · rcases hc with hc | hc
        · refine .inl fun z => hc ?_
          have := rpt_len f3
          rw [z, List.length_map] at this
          exact List.length_eq_zero_iff.mp this.symm
        · refine .inr ?_
          have e1 : (kws.map fun p => (tupleKind (mixKind X.prog X.w)).hash p.1) = (kws.map (·.1)).map (tupleKind (mixKind X.prog X.w)).hash := by rw [List.map_map]; rfl
          rw [e1, rpt_keys g6, List.map_map]
          exact hc
      · have h1 := rpt_len f3
        have h2 := rpt_len g6
        rw [List.length_map] at h1 h2
        omega
end
end DL

/-! DL39: sorted(l), l any data; min(l), l keys -/
namespace DL
open PySem PySem.Spec L2 PySem.W PyProof.Rows
/-- sorted as the language sorts -/
noncomputable def srtD {α : Type} (f : α → D) (xs : List α) : List α := xs.mergeSort (dataLe false fun x => pdOf (f x))
/-- it can be sorted -/
def SortOk {α : Type} (f : α → D) (xs : List α) : Prop := (∀ x ∈ xs, plainD (f x) = true) ∧ AllAlike (xs.map fun x => pdOf (f x)) ∧ Sortable (xs.map fun x => pdOf (f x)) ∧ ∀ x ∈ xs, (pdOf (f x)).depth ≤ 50
section
variable {X : Cx} {pins : List (Addr × Obj)} {σ : L2.St} {G H : Hp} {s : Shared} {α : Type} {f : α → D}
def VR (K : PySem.W.Frag) (G : Hp) (f : α → D) (v : Value) (b : α) : Prop := ∃ x, RelV x v ∧ Rp K G x (f b)
theorem each_of {K : PySem.W.Frag} {G : Hp} : ∀ {ys : List V} {its : List Value} {xs : List α}, Vals ys its → RpAll K G ys (xs.map f) → EachIs (VR K G f) its xs
  | _, _, [], .nil, .nil => .nil
  | _, _, _ :: _, .cons r t, .cons h q => .cons ⟨_, r, h⟩ (each_of t q)
theorem each_back {K : PySem.W.Frag} {G : Hp} : ∀ {its : List Value} {xs : List α}, EachIs (VR K G f) its xs → ∃ ys, Vals ys its ∧ RpAll K G ys (xs.map f)
  | _, _, .nil => ⟨[], .nil, .nil⟩
  | _, _, .cons ⟨x, r, h⟩ t => by
    obtain ⟨ys, a, b⟩ := each_back t
    exact ⟨x :: ys, .cons r a, .cons h b⟩
theorem each_reads (I : Inv X pins σ H s) (e : Ex G H) : ∀ {its : List Value} {xs : List α}, EachIs (VR X.K G f) its xs → (∀ x ∈ xs, plainD (f x) = true) → EachIs (fun v b => ∃ as, Reads s.heap v (pdOf (f b)) as) its xs
  | _, _, .nil, _ => .nil
  | _, _, .cons ⟨x, r, h⟩ t, p => .cons (Rp.reads I e h r (p _ List.mem_cons_self)) (each_reads I e t fun y m => p y (List.mem_cons_of_mem _ m))
def rSortD (K : PySem.W.Frag) (f : α → D) (xs : List α) : List V → Hp → VK → Prop := fun vs H Q => ∃ (a : Addr) (G : Hp) (ys : List V), vs = [V.ref a] ∧ Ex G H ∧ Rd G a (.lst ys) ∧ RpAll K G ys (xs.map f) ∧ SortOk f xs ∧
  ∀ (zs : List V) (p : Addr), RpAll K G zs ((srtD f xs).map f) → H p = none → Q (.ref p) (upd H p (.lst zs))
theorem cr_sortD (f : α → D) (xs : List α) (hu : X.A.units + 64 < cLine) : CallR X (.builtin "sorted") (rSortD X.K f xs) := by
  intro pins s σ H vs us Q I r h
  obtain ⟨a, G, ys, rfl, e, hS, hr, ⟨p1, p2, p3, p4⟩, q⟩ := h
  rw [Vals.ref1 r]
  obtain ⟨its, rv, pl, hz⟩ := I.list (.inl (e.rd hS))
  have ee := each_of rv hr
  have hl := hr.len
  rw [List.length_map] at hl
  refine sorted_data (enc := fun x => pdOf (f x)) pl.isList ee (each_reads I e ee p1) p2 p3 (by rw [← hl]; exact hz) (fun b m => by have := p4 b m; omega) fun out hlo eo => ?_
  obtain ⟨zs, a1, a2⟩ := each_back eo
  obtain ⟨ep, he'⟩ := PyProof.Rows.sortedAll_at s.heap its out.toArray
  have hlz : zs.length ≤ sizeLine := by rw [a1.length, hlo, ← hl]; exact hz
  exact ⟨.ref _, upd H (s.heap.objs.size + 1) (.lst zs), I.laid (t' := s.toks) (fun _ _ => PyProof.Rows.sortedAll_old) (Nat.le_succ _) ⟨hlz, out, ep, a1, he'⟩, rfl, q zs _ a2 (I.hok.fresh (Nat.le_succ _))⟩
end
section
variable {K : PySem.W.Frag} {B : Base} {ρ : List Slot} {α : Type} {f : α → D}
open Classical in
theorem cb_sortD {xs : List α} {c : Prop} [Decidable c] (hc : c → SortOk f xs) : CbD K B ρ (rSortD K f xs) [.val (eL f xs)] (R.guard c) (fun _ => .own 0 (oL f (srtD f xs))) := fun G H σ vs Q E ok q => by
  obtain ⟨h1, q⟩ := R.post_guard q
  obtain ⟨v, rfl, r⟩ := ok.one
  obtain ⟨p, ws, rfl, hS, hr⟩ := r.lst_inv
  exact ⟨p, G, ws, rfl, E.sub, hS, hr, hc h1, fun zs p' a hp => q _ G _ (Ex.refl G) (E.newL hp a)⟩
end
end DL

/-! DL40: min(l), l a list of keys -/
namespace DL
open PySem PySem.Spec L2 PySem.W PyProof.Rows
/-- the first of the least pairs -/
def minP : List (Int × Int) → Int × Int
  | [] => (0, 0)
  | x :: xs => minOf x xs
section
variable {X : Cx} {pins : List (Addr × Obj)} {σ : L2.St} {G H : Hp} {s : Shared}
theorem pd_key (p : Int × Int) : pdOf (eK2 p) = Datum.toD p := by
  rw [pdOf]
  rfl
theorem pds_keys : ∀ xs : List (Int × Int), pdOfs (xs.map eK2) = xs.map Datum.toD
  | [] => by rw [List.map_nil, pdOfs]; rfl
  | x :: xs => by rw [List.map_cons, pdOfs, pd_key, pds_keys xs]; rfl
theorem plain_keys : ∀ xs : List (Int × Int), plainDs (xs.map eK2) = true
  | [] => by rw [List.map_nil, plainDs]
  | x :: xs => by
    rw [List.map_cons, plainDs, plainD, plain_keys xs]
    rfl
theorem rp_at {K : PySem.W.Frag} {α : Type} {f : α → D} : ∀ {ys : List V} {its : List Value} {xs : List α} {i : Nat} {v : Value}, Vals ys its → RpAll K G ys (xs.map f) → its[i]? = some v → ∃ y x, RelV y v ∧ Rp K G y (f x) ∧ x ∈ xs
  | _, _, [], _, _, .nil, .nil, h => by simp at h
  | _, _, x :: xs, 0, v, .cons r t, .cons h q, e => by
    injection e with e
    subst e
    exact ⟨_, x, r, h, List.mem_cons_self⟩
  | _, _, x :: xs, i + 1, v, .cons r t, .cons h q, e => by
    obtain ⟨y, z, a, b, c⟩ := rp_at (i := i) t q (by simpa using e)
    exact ⟨y, z, a, b, List.mem_cons_of_mem _ c⟩
def rMinK2 (K : PySem.W.Frag) : List V → Hp → VK → Prop := fun vs H Q => ∃ (a : Addr) (G : Hp) (ys : List V) (x : Int × Int) (xs : List (Int × Int)), vs = [V.ref a] ∧ Ex G H ∧ Rd G a (.lst ys) ∧ RpAll K G ys ((x :: xs).map eK2) ∧ ∀ v, Rp K G v (eK2 (minOf x xs)) → Q v H
theorem cr_minK2 (hc : X.calm = true) (hu : X.A.units + 64 < cLine) : CallR X (.builtin "min") (rMinK2 X.K) := by
  intro pins s σ H vs us Q I r h
  obtain ⟨a, G, ys, x, xs, rfl, e, hS, hr, q⟩ := h
  rw [Vals.ref1 r]
  obtain ⟨its, rv, pl, hz⟩ := I.list (.inl (e.rd hS))
  obtain ⟨as, ra⟩ := RpAll.reads I e hr rv (plain_keys (x :: xs))
  rw [pds_keys] at ra
  refine min_list_datum (x := x) (xs := xs) (I.ok.hd hc) pl.isList ⟨as, by simpa using ra⟩ (by show X.A.units + 1 + (max 0 0 + 1) < cLine; omega) fun i v h' tk hi hv k => ?_
  obtain ⟨y, p, r1, r2, _⟩ := rp_at (i := i) rv hr (by simpa using hi)
  obtain ⟨as1, rd⟩ := Rp.reads I e r2 r1 (by rw [plainD])
  obtain ⟨as2, rm⟩ := hv
  have hp := (PySem.Reads.unique (PyProof.Rows.Reads.keeps k rd) _ _ rm).1
  rw [pd_key] at hp
  have hp : p = minOf x xs := by
    have : Datum.toD p = Datum.toD (minOf x xs) := hp
    simp only [Datum.toD] at this
    injection this with this
    injection this with h1 h2
    injection h2 with h2 _
    injection h1 with h1
    injection h2 with h2
    exact Prod.ext h1 h2
  subst hp
  exact ⟨y, H, I.kept k, r1, q y r2⟩
end
section
variable {K : PySem.W.Frag} {B : Base} {ρ : List Slot}
theorem cb_minK2 {xs : List (Int × Int)} : CbD K B ρ (rMinK2 K) [.val (eL eK2 xs)] (R.guard (xs ≠ [])) (fun _ => .val (eK2 (minP xs))) := fun G H σ vs Q E ok q => by
  obtain ⟨h1, q⟩ := R.post_guard q
  obtain ⟨v, rfl, r⟩ := ok.one
  obtain ⟨p, ws, rfl, hS, hr⟩ := r.lst_inv
  cases xs with
  | nil => exact absurd rfl h1
  | cons x xs => exact ⟨p, G, ws, x, xs, rfl, E.sub, hS, hr, fun v hv => q v G _ (Ex.refl G) (E.push hv)⟩
end
end DL

/-! DL41: sorted keys, sorted tuples of whole numbers; dicts by keys hold no lists -/
namespace DL
open PySem PySem.Spec L2 PySem.W PyProof.Rows
theorem fl_odT {β : Type} {f : β → D} (h : ∀ x, Flat (f x)) (kvs : List ((Int × Int) × β)) : FlatO (odT f kvs) := by
  rw [odT, FlatO]
  intro p m
  obtain ⟨q, _, e⟩ := List.mem_map.mp m
  subst e
  exact h q.2
theorem pdOfs_ints : ∀ ns : List Int, pdOfs (ns.map D.int) = ns.map PyData.int
  | [] => by rw [List.map_nil, pdOfs]; rfl
  | n :: ns => by rw [List.map_cons, pdOfs, pdOf, pdOfs_ints ns]; rfl
theorem depth_ints : ∀ ns : List Int, PyData.depthAll (ns.map PyData.int) = 0
  | [] => by rw [List.map_nil, PyData.depthAll]
  | n :: ns => by rw [List.map_cons, PyData.depthAll, PyData.depth, depth_ints ns]; rfl
theorem plain_ints : ∀ ns : List Int, plainDs (ns.map D.int) = true
  | [] => by rw [List.map_nil, plainDs]
  | n :: ns => by rw [List.map_cons, plainDs, plainD, plain_ints ns]; rfl
theorem alike_ints : ∀ ns ms : List Int, alikeAll (ns.map PyData.int) (ms.map PyData.int) = true := fun ns ms => alikeAll_map (α := Int) ns ms
theorem sortOk_K2 (xs : List (Int × Int)) : SortOk eK2 xs := by
  refine ⟨fun x _ => by rw [plainD], AllAlike.of fun a b => ?_, Sortable.tuples fun b => ⟨.int b.1, [.int b.2], by rw [pdOf]; rfl⟩, fun x _ => ?_⟩
  · rw [pdOf, pdOf]
    exact alikeAll_map (α := Int) [a.1, a.2] [b.1, b.2]
  · rw [pdOf, PyData.depth]
    show PyData.depthAll ([x.1, x.2].map PyData.int) + 1 ≤ 50
    rw [depth_ints]
    decide
theorem pd_TI (ns : List Int) : pdOf (eT D.int ns) = .tuple (ns.map PyData.int) := by
  rw [eT, pdOf, pdOfs_ints]
theorem sortOk_TI {xs : List (List Int)} (h : ∀ x ∈ xs, x ≠ []) : SortOk (eT D.int) xs := by
  refine ⟨fun x _ => by rw [eT, plainD]; exact plain_ints x, AllAlike.of fun a b => ?_, .inl fun d hd => ?_, fun x _ => ?_⟩
  · rw [pd_TI, pd_TI]
    exact alikeAll_map (α := Int) a b
  · obtain ⟨x, m, rfl⟩ := List.mem_map.mp hd
    rw [pd_TI]
    cases x with
    | nil => exact absurd rfl (h _ m)
    | cons n ns => exact ⟨_, _, rfl⟩
  · rw [pd_TI, PyData.depth, depth_ints]
    decide
section
variable {K : PySem.W.Frag} {B : Base} {ρ : List Slot}
theorem cb_sortK2 {xs : List (Int × Int)} : CbD K B ρ (rSortD K eK2 xs) [.val (eL eK2 xs)] (R.guard True) (fun _ => .own 0 (oL eK2 (srtD eK2 xs))) := cb_sortD fun _ => sortOk_K2 xs
theorem cb_sortTI {xs : List (List Int)} : CbD K B ρ (rSortD K (eT D.int) xs) [.val (eL (eT D.int) xs)] (R.guard (∀ x ∈ xs, x ≠ [])) (fun _ => .own 0 (oL (eT D.int) (srtD (eT D.int) xs))) := cb_sortD sortOk_TI
end
/-- what sorted keys are: by the first, then by the second -/
theorem srtK2_le : dataLe false (fun x => pdOf (eK2 x)) = fun p q : Int × Int => decide (p.1 < q.1 ∨ (p.1 = q.1 ∧ p.2 ≤ q.2)) := by
  have : (fun x : Int × Int => pdOf (eK2 x)) = fun b => .tuple [.int b.1, .int b.2] := funext fun x => by rw [pdOf]; rfl
  rw [this]
  exact dataLe_ii (β := Int × Int) (fun p => p.1) (fun p => p.2)
end DL

/-! DL42: rows[q].index(p), the row a tuple without a dict -/
namespace DL
open PySem PySem.Spec L2
section
variable {X : Cx} {B : Base} {ρ : List Slot} {pos : Pos} {obj e : Expr}
theorem je_rixE {ap : Pos} {β : Type} {m : R β} {ns : β → List Int} {k : Int} (ho : JE X B ρ obj m (fun b => .val (eR D.int (ns b))) (fun _ => ρ)) (he : JP X B ρ e (.int k)) (hst : starEach [e] X.env = (false, eval e X.env) :: starEach [] X.env := by rfl)
    (base : attributeBase obj "index" X.env (eval obj X.env) = eval obj X.env := by rfl)
    (few : ((backTo pos (starEach [e] X.env)).all (fun x => !x.1) && (backToKw pos (keywordEach [] X.env)).all (fun x => x.1.isSome) && decide ([e].length + ([] : List Keyword).length + (if ([] : List Keyword).isEmpty then 0 else 1) < 30)) = true := by rfl)
    (line : (ap.endLine == pos.line) = true := by rfl) (pl : (backTo pos (starEach [] X.env)).any (·.1) = false := by rfl) :
    JE X B ρ (.Call (.Attribute obj "index" ap) [e] [] pos) (m.bind fun b => (R.some (ixOf k (ns b))).bind fun j => .ok (b, j)) (fun p => .val (.int ((p.2 : Nat) : Int))) (fun _ => ρ) := by
  refine PE_imp (pe_bmR PySem.F.plainAttrs_tuple PySem.F.slot_tuple_index PySem.F.type_tuple_index mt_tix ho (pa_cons he pa_nil hst) base few line hst pl) fun σ H Q ⟨G, E, q⟩ => ⟨G, E, R.post_mono (R.post_bind.mp q) fun b q1 v G1 H1 x1 E1 => ?_⟩
  have ht := E1.top
  obtain ⟨a, rfl⟩ : ∃ a, v = .ref a := by
    cases ht with
    | row => exact ⟨_, rfl⟩
  cases ht with
  | @row _ ob xs _ hH hd hr =>
    refine ⟨⟨a, ob, xs, rfl, E1.sub _ _ hH, hd⟩, G1, E1.pop, fun w G2 H2 x2 E2 => ?_⟩
    have hw := E2.top.int_inv
    subst hw
    obtain ⟨j, hj, q2⟩ := R.post_some (R.post_bind.mp q1)
    obtain ⟨g1, g2⟩ := ixOf_some hj
    have hx := hr.ints
    subst hx
    exact ⟨a, ns b, k, j, rfl, rfl, .inl (.inr ⟨ob, E2.sub _ _ (x2 _ _ hH)⟩), g1, g2, q2 _ G2 _ (x1.trans x2) (E2.pop.push (.int _))⟩
end
end DL

/-! DL43: () as a plain row -/
namespace L2
open PySem PySem.Spec PyProof.Rows
section
variable {X : Cx} {es : List Expr} {pos : Pos} {t : TA}
def tTupF (t : TA) : TE := fun σ H Q => t σ H fun vs H1 => vs.length ≤ sizeLine ∧ ∀ p ob, H1 p = none → ob.dict = none → Q (.ref p) (upd H1 p (.frz ob (.tup vs)))
theorem pe_tupF {x1} (h : PA X es t) : PE X (.Tuple es x1 pos) (tTupF t) := by
  refine ⟨fun pins s σ H Q I hq => ?_⟩
  refine wpAny_Tuple_spliced (thn (h.run pos pins s σ H _ I hq) fun us s1 ⟨xs, H1, I1, r, z, q⟩ => ⟨by rw [← r.length]; exact z, ?_⟩)
  have hf : H1 s1.heap.objs.size = none := I1.hok.fresh (Nat.le_refl _)
  refine ⟨.ref s1.heap.objs.size, upd H1 s1.heap.objs.size (.frz { cls := .type "tuple", data := .seq us.toArray } (.tup xs)), I1.laid (t' := s1.toks) (fun b u e => Heap.get?_push_of_some _ e) (Nat.le_refl _) ?_, rfl, q _ _ hf rfl⟩
  exact ⟨Heap.get?_push_size _ rfl, z, us, r, ⟨_, Heap.get?_push_size _ rfl, rfl, _, rfl⟩⟩
end
end L2
namespace DL
open PySem PySem.Spec L2
section
variable {X : Cx} {B : Base} {ρ : List Slot} {pos : Pos}
theorem je_nilR {α : Type} {f : α → D} {x1 : Nat} : JE X B ρ (.Tuple [] x1 pos) (.ok ()) (fun _ => .val (eR f ([] : List α))) (fun _ => ρ) :=
  PE_imp (pe_tupF pa_nil) fun σ H Q ⟨G, E, q⟩ => ⟨Nat.zero_le _, fun p ob hp ho => by
    have e := Ex.new (o := HO.frz ob (.tup [])) (E.sub.back hp)
    exact q _ _ _ e ((E.new hp _).push (.row upd_same ho .nil))⟩
end
end DL

/-! DL44: a whole number that the module holds -/
namespace DL
open PySem PySem.Spec L2
section
variable {X : Cx} {B : Base} {ρ : List Slot} {pos : Pos}
theorem jp_gint {x : Str} {i : Int} (h : ∃ t, X.mg x = some (.int i t)) (hg : Gl X x := by rfl) (hd : (x == ("__debug__" : Str)) = false := by decide) : JP X B ρ (.Name x pos) (.int i) := by
  obtain ⟨t, h⟩ := h
  exact PE_imp (pe_glob (v := .int i) hg h (show RelV (.int i) (.int i t) from ⟨t, rfl⟩) hd) fun σ H Q ⟨G, E, q⟩ => q _ G H (Ex.refl G) (E.push (.int _))
end
section
variable {X : Cx} {B : Base} {ρ : List Slot} {pos : Pos} {a : Expr} {β : Type}
theorem jt_dinT (i : Nat) {x : Str} {px : Pos} {l : Nat} {f : β → D} {kvs : List ((Int × Int) × β)} {k : Int × Int} (hu : X.A.units + 64 < cLine) (h : ρ[i]? = some (.own l (odT f kvs)) := by rfl) (hk : JP X B ρ a (eK2 k)) (hal : noAlis ρ = true := by rfl) (hN : X.N[i]? = some x := by rfl)
    (hvi : Vis X.env.scope x := by first | exact Or.inl rfl | exact Or.inr (Or.inl rfl) | exact Or.inr (Or.inr rfl)) (hd : (x == ("__debug__" : Str)) = false := by decide) (hcd : (x == ("__classdict__" : Str)) = false := by decide)
    (hm : behindInMarks .In (.Name x px) = false := by rfl) : TP0 X B ρ (.Compare a [.In] [.Name x px] pos) (hasT k kvs) :=
  PT_imp (pt_cmp (pc_din (by omega) hk (pv (X := X) (pos := px) i hN hvi hd hcd)) hm) fun σ H Q ⟨G, E, q⟩ => by
    refine ⟨G, E, fun w G1 H1 x1 E1 => ?_⟩
    obtain ⟨kb, hy, hkb⟩ := E1.top.key_inv
    subst hy
    obtain ⟨p, kv, g1, g2, g3, _⟩ := E1.pop.ownDT h hal
    refine ⟨.ref p, g1, p, _, rfl, DGet.t (k := kyP k) g2 (E1.sub _ _ hkb), _, rfl, ?_⟩
    rw [valV_any', rpt_any g3]
    exact q G1 H1 x1 E1.pop
theorem jt_dniT (i : Nat) {x : Str} {px : Pos} {l : Nat} {f : β → D} {kvs : List ((Int × Int) × β)} {k : Int × Int} (hu : X.A.units + 64 < cLine) (h : ρ[i]? = some (.own l (odT f kvs)) := by rfl) (hk : JP X B ρ a (eK2 k)) (hal : noAlis ρ = true := by rfl) (hN : X.N[i]? = some x := by rfl)
    (hvi : Vis X.env.scope x := by first | exact Or.inl rfl | exact Or.inr (Or.inl rfl) | exact Or.inr (Or.inr rfl)) (hd : (x == ("__debug__" : Str)) = false := by decide) (hcd : (x == ("__classdict__" : Str)) = false := by decide)
    (hm : behindInMarks .NotIn (.Name x px) = false := by rfl) : TP0 X B ρ (.Compare a [.NotIn] [.Name x px] pos) (!hasT k kvs) :=
  PT_imp (pt_cmp (pc_dnotin (by omega) hk (pv (X := X) (pos := px) i hN hvi hd hcd)) hm) fun σ H Q ⟨G, E, q⟩ => by
    refine ⟨G, E, fun w G1 H1 x1 E1 => ?_⟩
    obtain ⟨kb, hy, hkb⟩ := E1.top.key_inv
    subst hy
    obtain ⟨p, kv, g1, g2, g3, _⟩ := E1.pop.ownDT h hal
    refine ⟨.ref p, g1, p, _, rfl, DGet.t (k := kyP k) g2 (E1.sub _ _ hkb), _, rfl, ?_⟩
    rw [valV_any', rpt_any g3]
    exact q G1 H1 x1 E1.pop
end
end DL

/-! DL45: len(set(l)), l a list of whole numbers -/
namespace L2
open PySem PySem.Spec PyProof.Rows
section
variable {X : Cx}
theorem firstMet_all (f : Nat → Int) : ∀ n, (firstMet f n).Nodup ∧ ∀ x, x ∈ firstMet f n ↔ ∃ i, i < n ∧ f i = x := by
  intro n
  induction n with
  | zero =>
    rw [firstMet_zero]
    exact ⟨List.nodup_nil, fun x => ⟨fun h => absurd h (by simp), fun ⟨i, h, _⟩ => absurd h (by omega)⟩⟩
  | succ n ih =>
    obtain ⟨h1, h2⟩ := ih
    rw [firstMet_succ]
    unfold step_dedup
    by_cases hm : (firstMet f n).any (· == f n) = true
    · rw [if_pos hm]
      refine ⟨h1, fun x => (h2 x).trans ⟨fun ⟨i, a, b⟩ => ⟨i, by omega, b⟩, fun ⟨i, a, b⟩ => ?_⟩⟩
      by_cases e : i = n
      · subst e
        rw [List.any_eq_true] at hm
        obtain ⟨y, hy, e⟩ := hm
        have e : y = f i := by simpa using e
        rw [e, b] at hy
        exact (h2 x).mp hy
      · exact ⟨i, by omega, b⟩
    · rw [if_neg hm]
      have hn : f n ∉ firstMet f n := fun h => hm (List.any_eq_true.mpr ⟨f n, h, by simp⟩)
      refine ⟨?_, fun x => ?_⟩
      · rw [List.nodup_append]
        exact ⟨h1, by simp, fun a ha b hb => by rw [List.mem_singleton.mp hb]; exact fun e => hn (e ▸ ha)⟩
      · rw [List.mem_append, List.mem_singleton, h2]
        constructor
        · rintro (⟨i, a, b⟩ | e)
          · exact ⟨i, by omega, b⟩
          · exact ⟨n, by omega, e.symm⟩
        · rintro ⟨i, a, b⟩
          by_cases e : i = n
          · subst e; exact .inr b.symm
          · exact .inl ⟨i, by omega, b⟩
def rSetLI (K : PySem.W.Frag) : List V → Hp → VK → Prop := fun xs H Q => ∃ (a : Addr) (ns : List Int), xs = [V.ref a] ∧ SqL K H a (ns.map V.int) ∧ ns.length ≤ 1000 ∧
  ∀ p S, H p = none → Q (.ref p) (upd H p (.set S (DL.nub ns).length))
theorem cr_setLI (hc : X.calm = true) : CallR X (.type "set") (rSetLI X.K) := by
  intro pins s σ H xs us Q I r h
  obtain ⟨a, ns, rfl, hq, hl, q⟩ := h
  rw [Vals.ref1 r]
  obtain ⟨its, rv, pl, hz⟩ := I.list hq
  have hi : IntsAre its.toArray.toList ns := ints_of_vals rv
  have hn : H s.heap.objs.size = none := I.hok.fresh (Nat.le_refl _)
  have hsz : its.toArray.size = ns.length := by
    have := rv.length
    rw [List.length_map] at this
    rw [List.size_toArray, this]
  refine PySem.call_set_list (I.ok.hd hc) pl.isList hi (by rw [hsz]; unfold scanBound; omega) fun h' tk R1 k => ?_
  obtain ⟨f1, f2⟩ := firstMet_all (fun i => ns.getD i 0) its.toArray.size
  rw [hsz] at f1 f2 R1
  have hcc : (firstMet (fun i => ns.getD i 0) ns.length).length = (DL.nub ns).length := by
    have e1 : ∀ x, x ∈ firstMet (fun i => ns.getD i 0) ns.length ↔ x ∈ ns := fun x => (f2 x).trans ⟨fun ⟨i, a, b⟩ => by
      rw [List.getD_eq_getElem?_getD, List.getElem?_eq_getElem a] at b
      rw [← b]
      exact List.getElem_mem a, fun hx => by
      obtain ⟨i, hi⟩ := List.mem_iff_getElem?.mp hx
      exact ⟨i, (List.getElem?_eq_some_iff.mp hi).1, by rw [List.getD_eq_getElem?_getD, hi]; rfl⟩⟩
    have l1 := DL.nodup_le f1 fun x hx => DL.nub_mem.mpr ((e1 x).mp hx)
    have l2 := DL.nodup_le (DL.nub_nodup ns) fun x hx => (e1 x).mpr (DL.nub_mem.mp hx)
    omega
  rw [hcc] at R1
  exact ⟨.ref s.heap.objs.size, upd H s.heap.objs.size (.set _ (DL.nub ns).length), I.laid (t' := tk) (fun b o e => k b o (Heap.lt_size e) e) (Nat.le_refl _) R1, rfl, q _ _ hn⟩
end
end L2
namespace DL
open PySem PySem.Spec L2
section
variable {X : Cx} {B : Base} {ρ : List Slot} {pos : Pos} {a : Expr}
theorem je_lenSetL {p p2 pos2 : Pos} {β : Type} {m : R β} {xs : β → List Int} (hc : X.calm = true) (hm : X.mg "len" = none) (hm2 : X.mg "set" = none) (ha : JE X B ρ a m (fun b => .val (eL D.int (xs b))) (fun _ => ρ)) (hg : Gl X "len" := by rfl) (hg2 : Gl X "set" := by rfl)
    (na : starEach [a] X.env = (false, eval a X.env) :: starEach [] X.env := by rfl) (nb : starEach [.Call (.Name "set" p2) [a] [] pos2] X.env = (false, eval (.Call (.Name "set" p2) [a] [] pos2) X.env) :: starEach [] X.env := by rfl) :
    JE X B ρ (.Call (.Name "len" p) [.Call (.Name "set" p2) [a] [] pos2] [] pos) (m.bind fun b => (R.guard ((xs b).length ≤ 1000)).bind fun _ => .ok b) (fun b => .val (.int ((nub (xs b)).length : Nat))) (fun _ => ρ) := by
  have h1 := pe_callTy (pos := pos2) (p := p2) (cr_setLI hc) hg2 hm2 PyProof.Rows.boot_set (pa_cons ha pa_nil na) (by decide) (by decide) na (by rfl)
  have h2 := pe_callB (pos := pos) (p := p) cr_lenSet hg hm (by decide +kernel) (pa_cons h1 pa_nil nb) (by decide) (by decide) nb (by rfl)
  refine PE_imp h2 fun σ H Q ⟨G, E, q⟩ => ⟨G, E, R.post_mono (R.post_bind.mp q) fun b q v G1 H1 x1 E1 => ?_⟩
  obtain ⟨hk, q⟩ := R.post_guard (R.post_bind.mp q)
  obtain ⟨p, vs, rfl, hS, hr⟩ := E1.top.lst_inv
  have hv : vs = (xs b).map V.int := hr.ints
  subst hv
  refine ⟨p, xs b, rfl, .inl (E1.sub.rd hS), hk, fun p' S hp => ?_⟩
  have e := Ex.new (o := HO.set S (nub (xs b)).length) (E1.sub.back hp)
  exact ⟨p', S, _, rfl, upd_same, q _ _ _ (x1.trans e) ((E1.pop.new hp _).push (.int _))⟩
end
end DL

/-! DL46: clear, pop(i) -/
namespace DL
open PySem PySem.Spec L2
section
variable {X : Cx} {B : Base} {ρ : List Slot} {pos : Pos} {obj e : Expr} {es : List Expr}
/-- a method without arguments that changes a list of data in an owned tree -/
theorem je_mth0 (i : Nat) {ι γ : Type} {l : Nat} {o : OT} {name : Str} {ap : Pos} {id : String} {r : V → List V → Hp → VK → Prop} {m0 : R ι} {path : ι → List Nat} {m2 : ι → R γ} {ds : ι → List D} {res : ι → γ → D} {ds' : ι → γ → List D} {ρ' : ι × γ → List Slot}
    (slot : PySem.Slot "list" name id) (hty : typeOf (.builtin id) = pure (.type "method_descriptor")) (hm : MtR X id r) (ho : JL X B ρ obj i m0 path) (h : ρ[i]? = some (.own l o))
    (hsub : ∀ (φ : ι → Prop) (ψ : Exn → Prop), m0.post φ ψ → m0.post (fun j => φ j ∧ o.subL (path j) = some (.lst ((ds j).map OT.dat))) ψ)
    (hmd : ∀ j, MtD X.K r (ds j) [] (m2 j) (res j) (ds' j))
    (hr : ∀ j c, o.subL (path j) = some (.lst ((ds j).map OT.dat)) → ρ.set i (.own l (o.putL (path j) (.lst ((ds' j c).map OT.dat)))) = ρ' (j, c))
    (hal : noAlis ρ = true := by rfl) (hbase : attributeBase obj name X.env (eval obj X.env) = eval obj X.env := by rfl) (hline : (ap.endLine == pos.line) = true := by rfl) :
    JE X B ρ (.Call (.Attribute obj name ap) [] [] pos) (m0.bind fun j => (m2 j).bind fun c => .ok (j, c)) (fun p => .val (res p.1 p.2)) ρ' := by
  refine PE_imp (pe_bm0 PySem.F.plainAttrs_list slot hty hm ho hbase hline) fun σ H Q ⟨G, E, q⟩ => ⟨G, E, R.post_mono (hsub _ _ (R.post_bind.mp q)) fun j ⟨q1, hs⟩ G' H' x' E' v a e1 hat => ?_⟩
  obtain ⟨v2, a2, ws, f1, f2, f3, f4, f5⟩ := E'.putAt h hal hs
  have ev : v2 = v := by
    rw [e1] at f1
    injection f1 with f1
    injection f1 with f1
    exact f1.symm
  subst ev
  have ea : a2 = a := by
    have := At.fun_ f2 hat
    injection this
  subst ea
  refine ⟨.inl ⟨rfl, _, .inl (.inl f3)⟩, hmd j G' H' a2 ws [] Q B.rs E'.sub f3 f4 .nil (R.post_mono (R.post_bind.mp q1) fun c q3 w ws' hw hws' => ?_)⟩
  have E4 := f5 ws' (ds' j c) hws'
  rw [hr j c hs] at E4
  exact q3 w G' _ x' (E4.push hw)
end
section
variable {K : PySem.W.Frag}
theorem md_clear {α : Type} {f : α → D} {xs : List α} : MtD K rClear (xs.map f) [] (.ok ()) (fun _ => .none) (fun _ => ([] : List α).map f) := fun G H a vs args Q rs e hH hr ha q => by
  cases ha
  exact ⟨a, vs, rfl, rfl, hH, q _ _ .non .nil⟩
def popAt {α : Type} (xs : List α) (i : Int) : Option (α × Nat) := if 0 ≤ i ∧ i < 2 ^ 62 then (xs[i.toNat]?).map fun x => (x, i.toNat) else none
theorem md_popAt {α : Type} {f : α → D} {xs : List α} {i : Int} : MtD K rPopAt (xs.map f) [.int i] (R.some (popAt xs i)) (fun c => f c.1) (fun c => (xs.eraseIdx c.2).map f) := fun G H a vs args Q rs e hH hr ha q => by
  obtain ⟨w, rfl, h2⟩ := rp1 ha
  have h2 := h2.int_inv
  subst h2
  obtain ⟨c, hc, q⟩ := R.post_some q
  unfold popAt at hc
  split at hc
  · rename_i hi
    obtain ⟨x, hx, e2⟩ := Option.map_eq_some_iff.mp hc
    subst e2
    obtain ⟨y, hy, ry⟩ := hr.get (i := i.toNat) (d := f x) (by rw [List.getElem?_map, hx]; rfl)
    have hlt := (List.getElem?_eq_some_iff.mp hy).1
    refine ⟨a, vs, i, i.toNat, y, rfl, rfl, hH, by omega, by omega, ?_, hy, q _ _ ry ?_⟩
    · unfold seqIndex?
      have h1 : ¬ i < 0 := by omega
      have h3 : i < (vs.length : Int) := by omega
      simp [h1, h3, hi.1]
    · have := hr.eraseIdx i.toNat
      have em : ∀ (l : List α) (n : Nat), (l.map f).eraseIdx n = (l.eraseIdx n).map f := by
        intro l
        induction l with
        | nil => intro n; rfl
        | cons a l ih =>
          intro n
          cases n with
          | zero => rfl
          | succ n => rw [List.map_cons, List.eraseIdx_cons_succ, List.eraseIdx_cons_succ, List.map_cons, ih]
      rw [em] at this
      exact this
  · cases hc
end
end DL

/-! DL47: rows[part[k]].index(part[j]); rows[part[k]] as a place -/
namespace DL
open PySem PySem.Spec PyProof.Rows L2
section
variable {X : Cx} {B : Base} {ρ : List Slot} {pos : Pos} {e obj : Expr}
/-- xs.index(y), both with mirrors -/
theorem je_lixE {ap : Pos} {α : Type} [DecidableEq α] {n : Nat} {f : α → D} {γ : Type} {m0 : R γ} {xs : γ → List α} {β : Type} {m : R β} {y : β → α} (hu : X.A.units + 65 < cLine) (hq : EqE n f) (ho : JE X B ρ obj m0 (fun c => .val (eL f (xs c))) (fun _ => ρ)) (he : JE X B ρ e m (fun b => .val (f (y b))) (fun _ => ρ)) (hn : n + 1 ≤ 64 := by decide) (hst : starEach [e] X.env = (false, eval e X.env) :: starEach [] X.env := by rfl)
    (base : attributeBase obj "index" X.env (eval obj X.env) = eval obj X.env := by rfl)
    (few : ((backTo pos (starEach [e] X.env)).all (fun x => !x.1) && (backToKw pos (keywordEach [] X.env)).all (fun x => x.1.isSome) && decide ([e].length + ([] : List Keyword).length + (if ([] : List Keyword).isEmpty then 0 else 1) < 30)) = true := by rfl)
    (line : (ap.endLine == pos.line) = true := by rfl) (pl : (backTo pos (starEach [] X.env)).any (·.1) = false := by rfl) :
    JE X B ρ (.Call (.Attribute obj "index" ap) [e] [] pos) (m0.bind fun c => m.bind fun b => (R.some (ixOf (y b) (xs c))).bind fun j => .ok (c, b, j)) (fun p => .val (.int ((p.2.2 : Nat) : Int))) (fun _ => ρ) := by
  refine PE_imp (pe_bm PySem.F.plainAttrs_list PySem.F.slot_list_index PySem.F.type_list_index (mt_indexD hu) ho (pa_cons he pa_nil hst) base few line hst pl) fun σ H Q ⟨G, E, q⟩ => ⟨G, E, R.post_mono (R.post_bind.mp q) fun c q0 v G1 H1 x1 E1 => ?_⟩
  have ht := E1.top
  obtain ⟨a, vs, rfl, hS, hr⟩ := ht.lst_inv
  refine ⟨.inl ⟨rfl, vs, .inl (E1.sub.rd hS)⟩, G1, E1.pop, R.post_mono (R.post_bind.mp q0) fun b q1 w G2 H2 x2 E2 => ?_⟩
  obtain ⟨j, hj, q2⟩ := R.post_some (R.post_bind.mp q1)
  obtain ⟨g1, g2⟩ := ixOf_some hj
  have hL := ee_L hq
  have d1 := (ht.ex x2).dp E2.sub (hL.lay (xs c))
  have d2 := E2.top.dp E2.sub (hq.lay (y b))
  have e1 : toPy (eL f (xs c)) = .list (toPy.toPys ((xs c).map f)) := by rw [toPy]
  have s1 := hL.shaped hn (xs c)
  rw [e1] at d1 s1
  refine ⟨a, w, toPy (f (y b)), toPy.toPys ((xs c).map f), j, toPy (f (y b)), rfl, rfl, d1, d2, s1, hq.shaped (by omega) _, by rw [toPys_get, g1]; rfl, by rw [hq.eqv]; simp, fun i z' hi hz' => ?_, q2 _ G2 _ (x1.trans x2) (E2.pop.push (.int _))⟩
  rw [toPys_get] at hz'
  cases hx : (xs c)[i]? with
  | none =>
    rw [hx] at hz'
    cases hz'
  | some x0 =>
    rw [hx] at hz'
    injection hz' with hz'
    subst hz'
    rw [hq.eqv]
    exact decide_eq_false fun z => g2 i hi (by rw [hx, z])
theorem jl_ixE (i : Nat) {x : Str} {px : Pos} {l : Nat} {α : Type} {f : α → D} {rows : List (List α)} {β : Type} {m : R β} {k : β → Int} (hk : JE X B ρ e m (fun b => .val (.int (k b))) (fun _ => ρ)) (h : ρ[i]? = some (.own l (oLL f rows)) := by rfl) (hN : X.N[i]? = some x := by rfl)
    (hv : Vis X.env.scope x := by first | exact Or.inl rfl | exact Or.inr (Or.inl rfl) | exact Or.inr (Or.inr rfl)) (hd : (x == ("__debug__" : Str)) = false := by decide) (hcd : (x == ("__classdict__" : Str)) = false := by decide) (hs : PlainIx e := by exact fun _ _ => rfl) :
    JL X B ρ (.Subscript (.Name x px) e pos) i (m.bind fun b => R.some (rowAt rows (k b))) (fun p => [p.1]) :=
  PE_imp (pe_ix ix_list (pv i hN hv hd hcd) hk hs) fun σ H Q ⟨G, E, q⟩ => by
    have get : ∀ {G H : Hp} {ex : List (V × Slot)}, En X.K B G H σ ρ ex → ∃ p vs A3, σ[i]? = some (some (.ref p)) ∧ H p = some (.lst vs) ∧ OwnAll X.K G H vs (rows.map (oL f)) A3 := fun {G H ex} E => by
      obtain ⟨A, c, n, g⟩ := E.own
      have h' : (ex.map (·.2) ++ ρ)[ex.length + i]? = some (.own l (oLL f rows)) := by
        rw [List.getElem?_append_right (by simp), List.length_map]
        simpa using h
      obtain ⟨v, A1, A2, e1, hO, hl, c2, pm⟩ := c.take1 h'
      rw [List.getElem?_append_right (by simp), List.length_map] at e1
      have e1 : σ[i]? = some (some v) := by simpa using e1
      cases hO with
      | lst ha hall => exact ⟨_, _, _, e1, ha, hall⟩
    obtain ⟨p, vs, A3, e1, e2, e3⟩ := get E
    refine ⟨.ref p, e1, G, E, R.post_mono (R.post_bind.mp q) fun b q w G1 H1 x1 E1 => ?_⟩
    have hn := E1.top.int_inv
    subst hn
    obtain ⟨p', vs', A4, g1, g2, g3⟩ := get E1
    have ep : p' = p := by
      have z := g1.symm.trans e1
      injection z with z
      injection z with z
      injection z
    subst ep
    obtain ⟨pr, hpr, q⟩ := R.post_some q
    obtain ⟨r1, r2⟩ := rowAt_get hpr
    obtain ⟨u, A5, A6, A7, h1, h2, _, _⟩ := g3.at (k := pr.1) (o := oL f pr.2) (by rw [List.getElem?_map, r2]; rfl)
    cases h2 with
    | @lst a ws _ A8 ha hall =>
      have hlen : vs'.length = rows.length := by rw [g3.len, List.length_map]
      refine ⟨p', vs', k b, .ref a, rfl, rfl, .inl (.inl g2), ?_, q G1 H1 x1 E1.pop _ a e1 ⟨p', vs', _, rfl, g2, h1, rfl⟩⟩
      unfold atI
      rw [hlen, r1]
      exact h1
theorem sub1E {α β : Type} {f : α → D} {rows : List (List α)} {m : R β} {k : β → Int} (φ : Nat × List α → Prop) (ψ : Exn → Prop) (h : (m.bind fun b => R.some (rowAt rows (k b))).post φ ψ) : (m.bind fun b => R.some (rowAt rows (k b))).post (fun j => φ j ∧ (oLL f rows).subL [j.1] = some (.lst ((j.2.map f).map OT.dat))) ψ :=
  R.post_bind.mpr (R.post_mono (R.post_bind.mp h) fun b z => sub1 _ _ z)
end
end DL

/-! DL48: things of any kind, seen as what they are; chains with effects; str(n) -/
namespace DL
open PySem PySem.Spec PyProof.Rows L2
def asI : D → Option Int
  | .int i => some i
  | _ => none
def asT : D → Option (List D)
  | .tuple ds => some ds
  | .row ds => some ds
  | .key ks => some (ks.map D.int)
  | _ => none
def asIs : List D → Option (List Int)
  | [] => some []
  | d :: ds => match asI d, asIs ds with
    | some i, some l => some (i :: l)
    | _, _ => none
def asTI (d : D) : Option (List Int) := (asT d).bind asIs
def as3I (d : D) : Option (Int × Int × Int) := match asTI d with
  | some [a, b, c] => some (a, b, c)
  | _ => none
theorem asI_ok {d : D} {i : Int} (h : asI d = some i) : Wk d (.int i) := by
  cases d with
  | int j =>
    injection h with h
    subst h
    exact wk_refl _
  | _ => cases h
theorem key_dAll {K : PySem.W.Frag} {G : Hp} (ks : List Int) : RpAll K G (ks.map V.int) (ks.map D.int) := RpAll.of_ints ks
theorem asT_ok {d : D} {ds : List D} (h : asT d = some ds) : Wk d (eT eD ds) := by
  have e : ds.map eD = ds := List.map_id _
  cases d with
  | tuple es =>
    injection h with h
    subst h
    rw [eT, e]
    exact wk_refl _
  | row es =>
    injection h with h
    subst h
    have := wk_R eD es
    rw [eR, e] at this
    exact this
  | key ks =>
    injection h with h
    subst h
    intro K G v r
    rw [eT, e]
    cases r with
    | key hG => exact .tup (Or.inl (Or.inl hG)) (key_dAll ks)
  | _ => cases h
theorem asIs_ok : ∀ {ds : List D} {l : List Int}, asIs ds = some l → ds = l.map D.int
  | [], l, h => by
    injection h with h
    subst h
    rfl
  | d :: ds, l, h => by
    rw [asIs] at h
    cases d with
    | int i =>
      cases e : asIs ds with
      | none => rw [e] at h; cases h
      | some m =>
        rw [e] at h
        injection h with h
        subst h
        rw [List.map_cons, asIs_ok e]
    | _ => simp [asI] at h
theorem asTI_ok {d : D} {l : List Int} (h : asTI d = some l) : Wk d (eT D.int l) := by
  obtain ⟨ds, h1, h2⟩ := Option.bind_eq_some_iff.mp h
  have := asT_ok h1
  rw [asIs_ok h2] at this
  have e : (l.map D.int).map eD = l.map D.int := List.map_id _
  rw [eT, e] at this
  exact this
theorem as3I_ok {d : D} {p : Int × Int × Int} (h : as3I d = some p) : Wk d (eP3 D.int D.int D.int p) := by
  unfold as3I at h
  split at h
  · rename_i a b c e
    injection h with h
    subst h
    exact asTI_ok e
  · cases h
section
variable {X : Cx} {B : Base} {ρ : List Slot} {pos : Pos} {a b c e : Expr}
/-- seen as what it is -/
theorem je_as {β γ : Type} {m : R β} {d : β → D} {ρ' : β → List Slot} {f : D → Option γ} {g : γ → D} (hf : ∀ {d : D} {c : γ}, f d = some c → Wk d (g c)) (h : JE X B ρ e m (fun b => .val (d b)) ρ') :
    JE X B ρ e (m.bind fun b => (R.some (f (d b))).bind fun c => .ok (b, c)) (fun p => .val (g p.2)) (fun p => ρ' p.1) :=
  PE_imp h fun σ H Q ⟨G, E, q⟩ => ⟨G, E, R.post_mono (R.post_bind.mp q) fun b q1 v G1 H1 x1 E1 => by
    obtain ⟨c, hc, q2⟩ := R.post_some (R.post_bind.mp q1)
    exact q2 v G1 H1 x1 (E1.wk (hf hc))⟩
/-- a op b op' c, b with a mirror -/
theorem je_chainE {r r' : R2} {x z : D} {β : Type} {m : R β} {y : β → D} {k1 k2 : β → Bool} (ht : ∀ ta tb tc, PE X a ta → PE X b tb → PE X c tc → PE X e (tChain r r' ta tb tc)) (ha : JP X B ρ a x) (hb : JE X B ρ b m (fun i => .val (y i)) (fun _ => ρ)) (hc : JP X B ρ c z)
    (h1 : ∀ i, OpD X.K B r x (y i) (.ok ()) (fun _ => .val (.bool (k1 i)))) (h2 : ∀ i, OpD X.K B r' (y i) z (.ok ()) (fun _ => .val (.bool (k2 i)))) : JE X B ρ e m (fun i => .val (.bool (k1 i && k2 i))) (fun _ => ρ) := by
  refine PE_imp (ht _ _ _ ha hb hc) fun σ H Q ⟨G, E, q⟩ => ?_
  refine ⟨G, E, fun vx G1 H1 x1 E1 => ?_⟩
  refine ⟨G1, E1.pop, R.post_mono q fun i q vy G2 H2 x2 E2 => ?_⟩
  refine h1 i G2 H2 σ ρ vx vy _ E2.pop (E1.top.ex x2) E2.top fun v G3 H3 x3 E3 => ⟨k1 i, E3.top.bl_inv, ?_⟩
  have x13 := x1.trans (x2.trans x3)
  cases hk : k1 i with
  | false => exact q _ G3 H3 x13 (by show En X.K B G3 H3 σ ρ [(_, .val (.bool (k1 i && k2 i)))]; rw [hk]; exact E3.pop.push (.bl _))
  | true =>
    refine ⟨G3, E3.pop, fun vz G4 H4 x4 E4 => ?_⟩
    exact h2 i G4 H4 σ ρ vy vz _ E4.pop (E2.top.ex (x3.trans x4)) E4.top fun v' G5 H5 x5 E5 => q v' G5 H5 (x13.trans (x4.trans x5)) (by show En X.K B G5 H5 σ ρ [(_, .val (.bool (k1 i && k2 i)))]; rw [hk]; exact E5)
end
section
variable {K : PySem.W.Frag} {B : Base} {ρ : List Slot}
/-- a number's text -/
def strI (i : Int) : Str := toString i
theorem cb_strI {i : Int} : CbD K B ρ (fun xs H Q => ∃ i, xs = [.int i] ∧ i.natAbs.log2 < 1920 ∧ Q (.str (toString i)) H) [.val (.int i)] (R.guard (i.natAbs.log2 < 1920)) (fun _ => .val (.str (strI i))) := fun G H σ vs Q E ok q => by
  obtain ⟨h1, q⟩ := R.post_guard q
  obtain ⟨v, rfl, r⟩ := ok.one
  have := r.int_inv
  subst this
  exact ⟨i, rfl, h1, q _ G H (Ex.refl G) (E.push (.str _))⟩
end
end DL

/-! DL49: zip; parts of plain rows, plain rows joined -/
namespace L2
open PySem PySem.Spec PyProof.Rows HT
section
variable {X : Cx}
/-- t[lo:hi], t a plain tuple: a plain one again -/
def rSlR (K : PySem.W.Frag) : V → Option Int → Option Int → Hp → VK → Prop := fun x lo hi H Q => ∃ a ob xs, x = .ref a ∧ H a = some (.frz ob (.tup xs)) ∧
  (HT.sIx xs.length 0 lo = 0 ∧ HT.sIx xs.length xs.length hi = xs.length → Q (.ref a) H) ∧ (¬ (HT.sIx xs.length 0 lo = 0 ∧ HT.sIx xs.length xs.length hi = xs.length) → ∀ p ob', H p = none → ob'.dict = none → Q (.ref p) (upd H p (.frz ob' (.tup (cutV xs lo hi)))))
theorem sl_tupR : SlR X (rSlR X.K) := by
  intro pins s σ H x v vl vu lo hi sl Q I rx hs pl pu h
  obtain ⟨a, ob, xs, rfl, hH, q1, q2⟩ := h
  have hx : SqT X.K H a xs := .inl (.inr ⟨ob, hH⟩)
  by_cases hw : HT.sIx xs.length 0 lo = 0 ∧ HT.sIx xs.length xs.length hi = xs.length
  · cases rx
    obtain ⟨its, r, ht, hz⟩ := I.tuple hx
    have hlen : its.toArray.size = xs.length := by rw [List.size_toArray]; exact r.length.symm
    refine ⟨"tuple", _, PyProof.Rows.slot_tuple_getitem.lookup, ht.typeIs, ?_⟩
    exact getItem_tuple_whole ht hs pl pu (by rw [hlen]; exact hw) ⟨.ref a, H, I, rfl, q1 hw⟩
  · cases rx
    obtain ⟨its, r, ht, hz⟩ := I.tuple hx
    have hlen : its.toArray.size = xs.length := by rw [List.size_toArray]; exact r.length.symm
    refine ⟨"tuple", _, PyProof.Rows.slot_tuple_getitem.lookup, ht.typeIs, ?_⟩
    refine HT.getItem_tuple_cut ht hs pl pu (by rw [hlen]; exact hw) ?_ (by rw [hlen]; exact hz)
    rw [hlen]
    let obn : Obj := { cls := .type "tuple", data := .seq ((its.toArray.toList.drop (HT.sIx xs.length 0 lo)).take (HT.sIx xs.length xs.length hi - HT.sIx xs.length 0 lo)).toArray }
    refine ⟨.ref s.heap.objs.size, upd H s.heap.objs.size (.frz obn (.tup (cutV xs lo hi))), I.laid (t' := s.toks) (fun b ob q => Heap.get?_push_of_some _ q) (Nat.le_refl _) ?_, rfl, q2 hw _ obn (I.hok.fresh (Nat.le_refl _)) rfl⟩
    exact ⟨Heap.get?_push_size _ rfl, Nat.le_trans (cutV_length xs lo hi) hz, _, (r.drop (HT.sIx xs.length 0 lo)).take (HT.sIx xs.length xs.length hi - HT.sIx xs.length 0 lo), IsTup.new _ _⟩
/-- t + u, t a plain tuple, not empty -/
def rCatRw (K : PySem.W.Frag) : R2 := fun x y H Q => ∃ a b ob xs ys, x = .ref a ∧ y = .ref b ∧ H a = some (.frz ob (.tup xs)) ∧ SqT K H b ys ∧ xs ≠ [] ∧ xs.length + ys.length ≤ sizeLine ∧
  (ys = [] → Q (.ref a) H) ∧ (ys ≠ [] → ∀ p ob', H p = none → ob'.dict = none → Q (.ref p) (upd H p (.frz ob' (.tup (xs ++ ys)))))
theorem op_catRw : OpR X (binaryOp .Add) (rCatRw X.K) := by
  intro pins s σ H x y v u Q I rx ry h
  obtain ⟨a, b, ob, xs, ys, rfl, rfl, hH, hb, hx, hz, q1, q2⟩ := h
  have ha : SqT X.K H a xs := .inl (.inr ⟨ob, hH⟩)
  cases rx
  cases ry
  obtain ⟨its, r1, p1, _⟩ := I.tuple ha
  obtain ⟨its2, r2, p2, _⟩ := I.tuple hb
  refine HT.cat_tup p1 p2 (fun z => hx (r1.nil_iff.mp z)) (fun z => ⟨.ref a, H, I, rfl, q1 (r2.nil_iff.mp z)⟩) (fun z => ?_) (by rw [← r1.length, ← r2.length]; exact hz)
  let obn : Obj := { cls := .type "tuple", data := .seq (its ++ its2).toArray }
  refine ⟨.ref s.heap.objs.size, upd H s.heap.objs.size (.frz obn (.tup (xs ++ ys))), I.laid (t' := s.toks) (fun b ob q => Heap.get?_push_of_some _ q) (Nat.le_refl _) ?_, rfl, q2 (fun w => z (r2.nil_iff.mpr w)) _ obn (I.hok.fresh (Nat.le_refl _)) rfl⟩
  exact ⟨Heap.get?_push_size _ rfl, by rw [List.length_append]; exact hz, _, r1.append r2, IsTup.new _ _⟩
end
end L2
namespace DL
open PySem PySem.Spec L2
section
variable {X : Cx} {B : Base} {ρ : List Slot} {pos : Pos} {a e e2 tg : Expr} {β α γ : Type} {K : PySem.W.Frag}
theorem Rp.row_inv {K : PySem.W.Frag} {G : Hp} {v : V} {ds : List D} (h : Rp K G v (.row ds)) : ∃ a ob xs, v = .ref a ∧ G a = some (.frz ob (.tup xs)) ∧ ob.dict = none ∧ RpAll K G xs ds := by
  cases h with
  | row h d r => exact ⟨_, _, _, rfl, h, d, r⟩
theorem je_slR {o1 o2 : Option Expr} {p2 : Pos} {lo hi : Option Int} {m : R β} {f : α → D} {xs : β → List α} {ρ' : β → List Slot} (h : JE X B ρ a m (fun b => .val (eR f (xs b))) ρ') (h1 : ∀ b, JO X B (ρ' b) o1 lo) (h2 : ∀ b, JO X B (ρ' b) o2 hi) :
    JE X B ρ (.Subscript a (.Slice o1 o2 none p2) pos) m (fun b => .val (eR f (cut (xs b) lo hi))) ρ' := by
  have h1' : PO X o1 (fun σ H Q => ∃ b, tJO X.K B (ρ' b) lo σ H Q) := ⟨fun pins s σ H Q I ⟨b, q⟩ => (h1 b).run pins s σ H Q I q⟩
  have h2' : PO X o2 (fun σ H Q => ∃ b, tJO X.K B (ρ' b) hi σ H Q) := ⟨fun pins s σ H Q I ⟨b, q⟩ => (h2 b).run pins s σ H Q I q⟩
  refine PE_imp (pe_slice sl_tupR h h1' h2') fun σ H Q ⟨G, E, q⟩ => ⟨G, E, R.post_mono q fun b k v G1 H1 x1 E1 => ⟨b, G1, E1.pop, fun G2 H2 x2 E2 => ⟨b, G2, E2, fun G3 H3 x3 E3 => ?_⟩⟩⟩
  obtain ⟨p, ob, vs, rfl, hS, hd, hr⟩ := E1.top.row_inv
  have x13 := x2.trans x3
  have hr' := RpAll.ex x13 hr
  refine ⟨p, ob, vs, rfl, E3.sub _ _ (x13 _ _ hS), fun hw => ?_, fun hw q' ob' hq hd' => ?_⟩
  · rw [hr'.len] at hw
    refine k _ G3 _ (x1.trans x13) (E3.push ?_)
    rw [List.length_map] at hw
    rw [cut_whole hw]
    exact .row (x13 _ _ hS) hd hr'
  · have e := Ex.new (o := HO.frz ob' (.tup (cutV vs lo hi))) (E3.sub.back hq)
    refine k _ _ _ ((x1.trans x13).trans e) ((E3.new hq _).push (.row upd_same hd' (RpAll.ex e ?_)))
    rw [← cut_map]
    exact cut_rp hr'
theorem od_catRw {f : α → D} {xs ys : List α} : OpD K B (rCatRw K) (eR f xs) (eT f ys) (R.guard (xs ≠ [] ∧ xs.length + ys.length ≤ sizeLine)) (fun _ => .val (eR f (xs ++ ys))) := fun G H σ ρ vx vy Q E hx hy q => by
  obtain ⟨⟨hc, hl⟩, q⟩ := R.post_guard q
  obtain ⟨a, ob, vs, rfl, hS, hd, hr⟩ := hx.row_inv
  obtain ⟨b, ws, rfl, hS2, hr2⟩ := hy.tup_inv
  have l1 := hr.len
  have l2 := hr2.len
  rw [List.length_map] at l1 l2
  refine ⟨a, b, ob, vs, ws, rfl, rfl, E.sub _ _ hS, E.sub.t hS2, fun z => hc (List.length_eq_zero_iff.mp (by rw [← l1, z]; rfl)), by rw [l1, l2]; exact hl, fun z => ?_, fun z p ob' hp hd' => ?_⟩
  · have : ys = [] := List.length_eq_zero_iff.mp (by rw [← l2, z]; rfl)
    subst this
    refine q _ G H (Ex.refl G) (E.push ?_)
    rw [List.append_nil]
    exact .row hS hd hr
  · have e := Ex.new (o := HO.frz ob' (.tup (vs ++ ws))) (E.sub.back hp)
    refine q _ _ _ e ((E.new hp _).push (.row upd_same hd' ?_))
    rw [List.map_append]
    exact RpAll.ex e (hr.append hr2)
/-- zip of two tuples -/
theorem ji_zipT {m : R β} {as : β → List Ar} {xs : β → List α} {ys : β → List γ} {f : α → D} {g : γ → D} {ρ' : β → List Slot} {p tpos : Pos} {elts : List Expr} {kk : Nat} (hg : Gl X "zip") (hm : X.mg "zip" = none) (h : JA X B ρ [e, e2] m as ρ') (ha : ∀ b, as b = [.val (eT f (xs b)), .val (eT g (ys b))] := by intro _; rfl)
    (hs : starEach [e, e2] X.env = (false, eval e X.env) :: starEach [e2] X.env := by rfl) (hpl : (backTo pos (starEach [e2] X.env)).any (·.1) = false := by rfl) :
    JI X B ρ (.Tuple elts kk tpos) (.Call (.Name "zip" p) [e, e2] [] pos) m (fun b => ((xs b).zip (ys b)).map (eP2 f g)) ρ' :=
  PI_imp (RZ.pi_zipA hg hm h hs hpl) fun σ H Q ⟨G, E, q⟩ => ⟨G, E, R.post_mono q fun b q1 vs G' H' x E' ok => by
    rw [ha b] at ok
    cases ok with
    | val r ok =>
      cases ok with
      | val r2 ok =>
        cases ok
        obtain ⟨a, us, rfl, hS, hr⟩ := r.tup_inv
        obtain ⟨c, ws, rfl, hS2, hr2⟩ := r2.tup_inv
        have l1 : us.length = (xs b).length := by rw [hr.len, List.length_map]
        have l2 : ws.length = (ys b).length := by rw [hr2.len, List.length_map]
        have hl : (((xs b).zip (ys b)).map (eP2 f g)).length = min us.length ws.length := by rw [List.length_map, List.length_zip, l1, l2]
        refine ⟨a, c, us, ws, rfl, .inr ⟨E'.sub.t hS, E'.sub.t hS2, q1 _ G' H' x E' ⟨fun i H hi e => ?_, fun i H hi e => ?_, fun B i G1 H1 σ ρ w H' e E hy d hd => ?_⟩⟩⟩
        · rw [hl] at hi
          exact ⟨us, ws, us[i]'(by omega), ws[i]'(by omega), e.t hS, e.t hS2, List.getElem?_eq_getElem _, List.getElem?_eq_getElem _⟩
        · rw [hl] at hi
          exact ⟨us, ws, e.t hS, e.t hS2, by omega⟩
        · obtain ⟨T, y1, y2, rfl, hT, rfl, hy1, hy2⟩ := hy
          have i1 := hy1 us ((e.trans E.sub).t hS)
          have i2 := hy2 ws ((e.trans E.sub).t hS2)
          obtain ⟨d1, h1, h2⟩ := hr.getV i1
          obtain ⟨d2, h3, h4⟩ := hr2.getV i2
          rw [List.getElem?_map] at h1 h3 hd
          cases hx : (xs b)[i]? with
          | none => rw [hx] at h1; cases h1
          | some z1 =>
            cases hx2 : (ys b)[i]? with
            | none => rw [hx2] at h3; cases h3
            | some z2 =>
              have hz : ((xs b).zip (ys b))[i]? = some (z1, z2) := by
                rw [List.getElem?_zip_eq_some]
                exact ⟨hx, hx2⟩
              rw [hx] at h1
              rw [hx2] at h3
              rw [hz] at hd
              injection h1 with h1
              injection h3 with h3
              injection hd with hd
              subst h1
              subst h3
              subst hd
              have e1 := Ex.new (o := HO.tup [y1, y2]) (E.sub.back hT)
              exact ⟨_, e1, E.new hT _, .tup (.inl (.inl upd_same)) (.cons (h2.ex (e.trans e1)) (.cons (h4.ex (e.trans e1)) .nil))⟩⟩
/-- zip of two lists -/
theorem ji_zipL {m : R β} {as : β → List Ar} {xs : β → List α} {ys : β → List γ} {f : α → D} {g : γ → D} {ρ' : β → List Slot} {p tpos : Pos} {elts : List Expr} {kk : Nat} (hg : Gl X "zip") (hm : X.mg "zip" = none) (h : JA X B ρ [e, e2] m as ρ') (ha : ∀ b, as b = [.val (eL f (xs b)), .val (eL g (ys b))] := by intro _; rfl)
    (hs : starEach [e, e2] X.env = (false, eval e X.env) :: starEach [e2] X.env := by rfl) (hpl : (backTo pos (starEach [e2] X.env)).any (·.1) = false := by rfl) :
    JI X B ρ (.Tuple elts kk tpos) (.Call (.Name "zip" p) [e, e2] [] pos) m (fun b => ((xs b).zip (ys b)).map (eP2 f g)) ρ' :=
  PI_imp (RZ.pi_zipA hg hm h hs hpl) fun σ H Q ⟨G, E, q⟩ => ⟨G, E, R.post_mono q fun b q1 vs G' H' x E' ok => by
    rw [ha b] at ok
    cases ok with
    | val r ok =>
      cases ok with
      | val r2 ok =>
        cases ok
        obtain ⟨a, us, rfl, hS0, hr⟩ := r.lst_inv
        obtain ⟨c, ws, rfl, hS20, hr2⟩ := r2.lst_inv
        have hS : SqL X.K G' a us := .inl hS0
        have hS2 : SqL X.K G' c ws := .inl hS20
        have l1 : us.length = (xs b).length := by rw [hr.len, List.length_map]
        have l2 : ws.length = (ys b).length := by rw [hr2.len, List.length_map]
        have hl : (((xs b).zip (ys b)).map (eP2 f g)).length = min us.length ws.length := by rw [List.length_map, List.length_zip, l1, l2]
        refine ⟨a, c, us, ws, rfl, .inl ⟨E'.sub.l hS, E'.sub.l hS2, q1 _ G' H' x E' ⟨fun i H hi e => ?_, fun i H hi e => ?_, fun B i G1 H1 σ ρ w H' e E hy d hd => ?_⟩⟩⟩
        · rw [hl] at hi
          exact ⟨us, ws, us[i]'(by omega), ws[i]'(by omega), e.l hS, e.l hS2, List.getElem?_eq_getElem _, List.getElem?_eq_getElem _⟩
        · rw [hl] at hi
          exact ⟨us, ws, e.l hS, e.l hS2, by omega⟩
        · obtain ⟨T, y1, y2, rfl, hT, rfl, hy1, hy2⟩ := hy
          have i1 := hy1 us ((e.trans E.sub).l hS)
          have i2 := hy2 ws ((e.trans E.sub).l hS2)
          obtain ⟨d1, h1, h2⟩ := hr.getV i1
          obtain ⟨d2, h3, h4⟩ := hr2.getV i2
          rw [List.getElem?_map] at h1 h3 hd
          cases hx : (xs b)[i]? with
          | none => rw [hx] at h1; cases h1
          | some z1 =>
            cases hx2 : (ys b)[i]? with
            | none => rw [hx2] at h3; cases h3
            | some z2 =>
              have hz : ((xs b).zip (ys b))[i]? = some (z1, z2) := by
                rw [List.getElem?_zip_eq_some]
                exact ⟨hx, hx2⟩
              rw [hx] at h1
              rw [hx2] at h3
              rw [hz] at hd
              injection h1 with h1
              injection h3 with h3
              injection hd with hd
              subst h1
              subst h3
              subst hd
              have e1 := Ex.new (o := HO.tup [y1, y2]) (E.sub.back hT)
              exact ⟨_, e1, E.new hT _, .tup (.inl (.inl upd_same)) (.cons (h2.ex (e.trans e1)) (.cons (h4.ex (e.trans e1)) .nil))⟩⟩
end
/-! more ways of seeing -/
def asRI : D → Option (List Int)
  | .row ds => asIs ds
  | _ => none
theorem asRI_ok {d : D} {l : List Int} (h : asRI d = some l) : Wk d (eR D.int l) := by
  cases d with
  | row ds =>
    have := asIs_ok (show asIs ds = some l from h)
    rw [this]
    exact wk_refl _
  | _ => cases h
def asTIs : List D → Option (List (List Int))
  | [] => some []
  | d :: ds => match asTI d, asTIs ds with
    | some i, some l => some (i :: l)
    | _, _ => none
def asTTI (d : D) : Option (List (List Int)) := (asT d).bind asTIs
theorem asTIs_ok : ∀ {ds : List D} {l : List (List Int)}, asTIs ds = some l → ∀ {K : PySem.W.Frag} {G : Hp} {vs : List V}, RpAll K G vs ds → RpAll K G vs (l.map (eT D.int))
  | [], l, h, K, G, vs, r => by
    injection h with h
    subst h
    cases r
    exact .nil
  | d :: ds, l, h, K, G, vs, r => by
    rw [asTIs] at h
    cases e1 : asTI d with
    | none => rw [e1] at h; cases h
    | some i =>
      cases e2 : asTIs ds with
      | none => rw [e1, e2] at h; cases h
      | some m =>
        rw [e1, e2] at h
        injection h with h
        subst h
        cases r with
        | cons a b => exact .cons (asTI_ok e1 _ _ _ a) (asTIs_ok e2 b)
theorem asTTI_ok {d : D} {l : List (List Int)} (h : asTTI d = some l) : Wk d (eT (eT D.int) l) := by
  obtain ⟨ds, h1, h2⟩ := Option.bind_eq_some_iff.mp h
  intro K G v r
  have r2 := asT_ok h1 _ _ _ r
  have e : ds.map eD = ds := List.map_id _
  rw [eT, e] at r2
  obtain ⟨a, vs, rfl, hS, hr⟩ := r2.tup_inv
  exact .tup hS (asTIs_ok h2 hr)
/-- two such -/
def as2TT (d : D) : Option (List (List Int) × List (List Int)) := match asT d with
  | some [x, y] => match asTTI x, asTTI y with
    | some a, some b => some (a, b)
    | _, _ => none
  | _ => none
theorem as2TT_ok {d : D} {p : List (List Int) × List (List Int)} (h : as2TT d = some p) : Wk d (eP2 (eT (eT D.int)) (eT (eT D.int)) p) := by
  unfold as2TT at h
  split at h
  · rename_i x y e
    cases e1 : asTTI x with
    | none => rw [e1] at h; cases h
    | some a =>
      cases e2 : asTTI y with
      | none => rw [e1, e2] at h; cases h
      | some b =>
        rw [e1, e2] at h
        injection h with h
        subst h
        intro K G v r
        have r2 := asT_ok e _ _ _ r
        obtain ⟨q, vs, rfl, hS, hr⟩ := r2.tup_inv
        cases hr with
        | cons h1 hr =>
          cases hr with
          | cons h2 hr =>
            cases hr
            exact .tup hS (.cons (asTTI_ok e1 _ _ _ h1) (.cons (asTTI_ok e2 _ _ _ h2) .nil))
  · cases h
end DL

/-! DL50: slices whose ends have mirrors; what is never reached -/
namespace DL
open PySem PySem.Spec L2
section
variable {X : Cx} {B : Base} {ρ : List Slot} {pos : Pos} {a e : Expr} {β β1 β2 α : Type} {K : PySem.W.Frag}
def tJOm (K : PySem.W.Frag) (B : Base) (ρ : List Slot) (m : R β) (o : β → Option Int) : TO := fun σ H Q => ∃ G, En K B G H σ ρ [] ∧ m.post (fun b => ∀ G' H', Ex G G' → En K B G' H' σ ρ [] → Q (o b) H') B.rs
def JOm (X : Cx) (B : Base) (ρ : List Slot) (e : Option Expr) (m : R β) (o : β → Option Int) : Prop := PO X e (tJOm X.K B ρ m o)
theorem jom_none : JOm X B ρ none (R.ok ()) (fun _ => none) := PO_imp po_none fun σ H Q ⟨G, E, q⟩ => q G H (Ex.refl G) E
theorem jom_some {m : R β} {i : β → Int} (h : JE X B ρ e m (fun b => .val (.int (i b))) (fun _ => ρ)) : JOm X B ρ (some e) m (fun b => some (i b)) :=
  PO_imp (po_some h) fun σ H Q ⟨G, E, q⟩ => ⟨G, E, R.post_mono q fun b q v G1 H1 x1 E1 => ⟨i b, E1.top.int_inv, q G1 H1 x1 E1.pop⟩⟩
theorem jom_p {o : Option Expr} {i : Option Int} (h : JO X B ρ o i) : JOm X B ρ o (R.ok ()) (fun _ => i) := h
/-- t[lo:hi] of a plain row -/
theorem je_slRE {o1 o2 : Option Expr} {p2 : Pos} {m1 : R β1} {lo : β1 → Option Int} {m2 : R β2} {hi : β2 → Option Int} {m : R β} {f : α → D} {xs : β → List α} (h : JE X B ρ a m (fun b => .val (eR f (xs b))) (fun _ => ρ)) (h1 : JOm X B ρ o1 m1 lo) (h2 : JOm X B ρ o2 m2 hi) :
    JE X B ρ (.Subscript a (.Slice o1 o2 none p2) pos) (m.bind fun b => m1.bind fun b1 => m2.bind fun b2 => .ok (b, b1, b2)) (fun p => .val (eR f (cut (xs p.1) (lo p.2.1) (hi p.2.2)))) (fun _ => ρ) := by
  refine PE_imp (pe_slice sl_tupR h h1 h2) fun σ H Q ⟨G, E, q⟩ => ⟨G, E, R.post_mono (R.post_bind.mp q) fun b q1 v G1 H1 x1 E1 => ⟨G1, E1.pop, R.post_mono (R.post_bind.mp q1) fun b1 q2 G2 H2 x2 E2 => ⟨G2, E2, R.post_mono (R.post_bind.mp q2) fun b2 k G3 H3 x3 E3 => ?_⟩⟩⟩
  obtain ⟨p, ob, vs, rfl, hS, hd, hr⟩ := E1.top.row_inv
  have x13 := x2.trans x3
  have hr' := RpAll.ex x13 hr
  refine ⟨p, ob, vs, rfl, E3.sub _ _ (x13 _ _ hS), fun hw => ?_, fun hw q' ob' hq hd' => ?_⟩
  · rw [hr'.len] at hw
    refine k _ G3 _ (x1.trans x13) (E3.push ?_)
    rw [List.length_map] at hw
    rw [cut_whole hw]
    exact .row (x13 _ _ hS) hd hr'
  · have e := Ex.new (o := HO.frz ob' (.tup (cutV vs (lo b1) (hi b2)))) (E3.sub.back hq)
    refine k _ _ _ ((x1.trans x13).trans e) ((E3.new hq _).push (.row upd_same hd' (RpAll.ex e ?_)))
    rw [← cut_map]
    exact cut_rp hr'
/-- t[lo:hi] of a tuple -/
theorem je_slTE {o1 o2 : Option Expr} {p2 : Pos} {m1 : R β1} {lo : β1 → Option Int} {m2 : R β2} {hi : β2 → Option Int} {m : R β} {f : α → D} {xs : β → List α} (h : JE X B ρ a m (fun b => .val (eT f (xs b))) (fun _ => ρ)) (h1 : JOm X B ρ o1 m1 lo) (h2 : JOm X B ρ o2 m2 hi) :
    JE X B ρ (.Subscript a (.Slice o1 o2 none p2) pos) (m.bind fun b => m1.bind fun b1 => m2.bind fun b2 => .ok (b, b1, b2)) (fun p => .val (eT f (cut (xs p.1) (lo p.2.1) (hi p.2.2)))) (fun _ => ρ) := by
  refine PE_imp (pe_slice sl_tupA h h1 h2) fun σ H Q ⟨G, E, q⟩ => ⟨G, E, R.post_mono (R.post_bind.mp q) fun b q1 v G1 H1 x1 E1 => ⟨G1, E1.pop, R.post_mono (R.post_bind.mp q1) fun b1 q2 G2 H2 x2 E2 => ⟨G2, E2, R.post_mono (R.post_bind.mp q2) fun b2 k G3 H3 x3 E3 => ?_⟩⟩⟩
  obtain ⟨p, vs, rfl, hS, hr⟩ := E1.top.tup_inv
  have x13 := x2.trans x3
  have hr' := RpAll.ex x13 hr
  refine ⟨p, vs, rfl, E3.sub.t (x13.t hS), fun hw => ?_, fun hw q' hq => ?_⟩
  · rw [hr'.len] at hw
    refine k _ G3 _ (x1.trans x13) (E3.push ?_)
    rw [List.length_map] at hw
    rw [cut_whole hw]
    exact .tup (x13.t hS) hr'
  · have e := Ex.new (o := HO.tup (cutV vs (lo b1) (hi b2))) (E3.sub.back hq)
    refine k _ _ _ ((x1.trans x13).trans e) ((E3.new hq _).push (.tup (.inl (.inl upd_same)) (RpAll.ex e ?_)))
    rw [← cut_map]
    exact cut_rp hr'
theorem js_never {N L T : Type} {st : Stmt} {F : Fin N L T} : JS X B ρ st (R.bad : R (Fl N L T)) F := PS_imp ps_never fun D σ H ⟨G, E, q⟩ => q
end
end DL

/-! DM1: plain laws about mirrors -/
namespace DL
open PySem L2

section
variable {α β γ N N1 L T S : Type}
theorem bind_ok (a : α) (f : α → R β) : (R.ok a).bind f = f a := rfl
theorem bind_assoc (m : R α) (f : α → R β) (g : β → R γ) : (m.bind f).bind g = m.bind fun a => (f a).bind g := by cases m <;> rfl
theorem lt_eq (v : α) (k : α → β) : lt v k = k v := rfl
/-- the same, not by rfl: simp then leaves no great terms to the kernel -/
theorem bind_okN (a : α) (f : α → R β) : (R.ok a).bind f = f a := Eq.trans (Eq.refl _) (Eq.refl _)
theorem lt_eqN (v : α) (k : α → β) : lt v k = k v := Eq.trans (Eq.refl _) (Eq.refl _)
theorem bindF_nx (n : N1) (k : N1 → R (Fl N L T)) : bindF (.ok (.nx n)) k = k n := rfl
theorem bindF_rt (t : T) (k : N1 → R (Fl N L T)) : bindF (.ok (.rt t)) k = .ok (.rt t) := rfl
theorem bindF_ct (t : L) (k : N1 → R (Fl N L T)) : bindF (.ok (.ct t)) k = .ok (.ct t) := rfl
theorem bindF_bk (t : L) (k : N1 → R (Fl N L T)) : bindF (.ok (.bk t)) k = .ok (.bk t) := rfl
theorem fin0_rt (t : T) : fin0 (.ok (.rt t) : R (Fl N L T)) = .ok t := rfl
theorem finN_nx (t : N) : finN (.ok (.nx t) : R (Fl N L T)) = .ok t := rfl
theorem guard_ok {c : Prop} [Decidable c] (h : c) : R.guard c = .ok () := if_pos h
theorem some_ok (a : α) : R.some (.some a) = .ok a := rfl
theorem and2_ok (a : α) (f : α → Bool) (m : R Bool) : and2 (.ok a) f m = if f a = true then m else .ok false := rfl
theorem or2_ok (a : α) (f : α → Bool) (m : R Bool) : or2 (.ok a) f m = if f a = true then .ok true else m := rfl
theorem op2_ok {δ : Type} (a : α) (f : α → R β) (g : α → β → R δ) : op2 (.ok a) f g = (f a).bind fun y => (g a y).bind fun z => .ok (a, y, z) := rfl
/-- a loop that goes through -/
theorem forR_ok {f : α → S → R (Fl S S T)} (P : S → Prop) : ∀ {xs : List α} {s : S}, P s → (∀ x ∈ xs, ∀ s, P s → ∃ s', (f x s = .ok (.nx s') ∨ f x s = .ok (.ct s')) ∧ P s') → ∃ s', (forR f xs s : R (Fl S L T)) = .ok (.nx s') ∧ P s'
  | [], s, h, _ => ⟨s, rfl, h⟩
  | x :: xs, s, h, k => by
    obtain ⟨s', h1, h2⟩ := k x (List.mem_cons_self) s h
    obtain ⟨s2, h3, h4⟩ := forR_ok P (xs := xs) h2 fun y m => k y (List.mem_cons_of_mem _ m)
    refine ⟨s2, ?_, h4⟩
    rw [forR]
    rcases h1 with h1 | h1 <;> rw [h1] <;> exact h3
/-- .. with the turn told -/
theorem forR_okI {f : α → S → R (Fl S S T)} (P : Nat → S → Prop) : ∀ {xs : List α} {i : Nat} {s : S}, P i s → (∀ (k : Nat) x, xs[k]? = some x → ∀ s, P (i + k) s → ∃ s', (f x s = .ok (.nx s') ∨ f x s = .ok (.ct s')) ∧ P (i + k + 1) s') → ∃ s', (forR f xs s : R (Fl S L T)) = .ok (.nx s') ∧ P (i + xs.length) s'
  | [], i, s, h, _ => ⟨s, rfl, h⟩
  | x :: xs, i, s, h, k => by
    obtain ⟨s', h1, h2⟩ := k 0 x rfl s h
    obtain ⟨s2, h3, h4⟩ := forR_okI P (xs := xs) (i := i + 1) h2 fun j y m s hs => by
      have := k (j + 1) y (by simpa using m) s (by rw [show i + (j + 1) = i + 1 + j by omega]; exact hs)
      rw [show i + (j + 1) + 1 = i + 1 + j + 1 by omega] at this
      exact this
    refine ⟨s2, ?_, by rw [List.length_cons, show i + (xs.length + 1) = i + 1 + xs.length by omega]; exact h4⟩
    rw [forR]
    rcases h1 with h1 | h1 <;> rw [h1] <;> exact h3
theorem whR_true {c : S → R Bool} {f : S → R (Fl S S T)} {s s' : S} {y : Fl S L T} (hc : c s = .ok true) (hf : f s = .ok (.nx s')) (h : whR (L := L) c f s' = .ok y) : whR (L := L) c f s = .ok y := by
  have hx : ∃ n, whN (L := L) c f n s' ≠ .bad := by
    apply Classical.byContradiction
    intro z
    unfold whR at h
    rw [dif_neg z] at h
    cases h
  obtain ⟨n, hn⟩ := hx
  rw [whR_of hn] at h
  have e : whN (L := L) c f (n + 1) s = .ok y := by
    rw [whN, hc]
    simp only [R.bind, if_true, hf]
    exact h
  have e2 : whN (L := L) c f (n + 1) s ≠ .bad := by
    rw [e]
    exact fun z => nomatch z
  rw [whR_of e2]
  exact e
theorem whR_false {c : S → R Bool} {f : S → R (Fl S S T)} {s : S} (hc : c s = .ok false) : whR (L := L) c f s = .ok (.nx s) := by
  have e : whN (L := L) c f 1 s = .ok (.nx s) := by
    rw [whN, hc]
    rfl
  rw [whR_of (n := 1) (by rw [e]; exact fun z => nomatch z)]
  exact e
end
/-! ### numbers -/
theorem mulx {i j : Int} (a : Nat) (hi : i.natAbs < 2 ^ a) (hj : j.natAbs < 2 ^ a) (h : a ≤ 67108864 := by decide) : CMulX i j := mulx_ok hi hj (by omega)
theorem div_ok {i j : Int} (h : j ≠ 0) (hj : j.natAbs < 2 ^ 8000) : divOk i j := by
  refine ⟨h, PyProof.noPylong_of_log2 ?_⟩
  have := (Nat.log2_lt (n := j.natAbs) (k := 8000) (by omega)).mpr hj
  omega
theorem divp_ok' {i j : Int} (h : 0 < j) (hj : j < 2 ^ 8000) : CDivP i j := ⟨h, (div_ok (i := i) (j := j) (by omega) (by omega)).2⟩
theorem rng_ok {i : Int} (h : 0 ≤ i) (h2 : i < 1000000) : rngOk i := ⟨by omega, by omega⟩
theorem mem_rng {lo hi x : Int} (h : x ∈ rng lo hi) : lo ≤ x ∧ x < hi := by
  unfold rng at h
  obtain ⟨k, hk, rfl⟩ := List.mem_map.mp h
  have := List.mem_range.mp hk
  omega
/-- two whole numbers cleared: what stands behind -/
theorem fr_low {n d g : Int} (hg : g = (if d < 0 then -(Int.gcd n d : Int) else (Int.gcd n d : Int))) (hd : d ≠ 0) : g ≠ 0 ∧ n.fdiv g * g = n ∧ d.fdiv g * g = d ∧ 0 < d.fdiv g ∧ Int.gcd (n.fdiv g) (d.fdiv g) = 1 := by
  have h0 : 0 < Int.gcd n d := Nat.pos_of_ne_zero fun z => hd (Int.gcd_eq_zero_iff.mp z).2
  have hn : (Int.gcd n d : Int) ∣ n := Int.gcd_dvd_left ..
  have hdd : (Int.gcd n d : Int) ∣ d := Int.gcd_dvd_right ..
  have hg0 : g ≠ 0 := by
    rw [hg]
    split <;> omega
  have gn : g ∣ n := by
    rw [hg]
    split
    · exact Int.neg_dvd.mpr hn
    · exact hn
  have gd : g ∣ d := by
    rw [hg]
    split
    · exact Int.neg_dvd.mpr hdd
    · exact hdd
  have e1 : n.fdiv g * g = n := Int.fdiv_mul_cancel gn
  have e2 : d.fdiv g * g = d := Int.fdiv_mul_cancel gd
  refine ⟨hg0, e1, e2, ?_, ?_⟩
  · have hs : 0 < d.fdiv g * g * g := by
      rw [e2, hg]
      split
      · rename_i h
        exact Int.mul_pos_of_neg_of_neg h (by omega)
      · rename_i h
        exact Int.mul_pos (by omega) (by omega)
    have hgg : 0 < g * g := by
      rcases Int.lt_or_gt_of_ne hg0 with h | h
      · exact Int.mul_pos_of_neg_of_neg h h
      · exact Int.mul_pos h h
    rw [Int.mul_assoc] at hs
    apply Classical.byContradiction
    intro z
    have := Int.mul_nonneg (show 0 ≤ -(d.fdiv g) by omega) (Int.le_of_lt hgg)
    rw [Int.neg_mul] at this
    omega
  · have hgcd : Int.gcd (n.fdiv g * g) (d.fdiv g * g) = Int.gcd (n.fdiv g) (d.fdiv g) * g.natAbs := Int.gcd_mul_right ..
    rw [e1, e2] at hgcd
    have ga : g.natAbs = Int.gcd n d := by
      rw [hg]
      split <;> simp
    rw [ga] at hgcd
    have : Int.gcd n d * 1 = Int.gcd n d * Int.gcd (n.fdiv g) (d.fdiv g) := by
      rw [Nat.mul_one, Nat.mul_comm]
      exact hgcd
    exact (Nat.eq_of_mul_eq_mul_left h0 this).symm
theorem cell_ok (ns : List Int) (k : Int) (h0 : 0 ≤ k) : ∃ c, atI (cut ns (some k) (some (k + (1 : Int))) ++ [(0 : Int)]) (0 : Int) = some c ∧ (cut ns (some k) (some (k + (1 : Int)))).length ≤ 1 := by
  have hc : (cut ns (some k) (some (k + 1))).length ≤ 1 := by
    unfold cut
    rw [List.length_take]
    simp only [HT.sIx]
    rw [if_neg (by omega), if_neg (by omega)]
    omega
  generalize cut ns (some k) (some (k + 1)) = l at *
  match l, hc with
  | [], _ => exact ⟨0, rfl, by simp⟩
  | [c], _ => exact ⟨c, rfl, by simp⟩
theorem line_ok {n : Nat} (h : n ≤ 1000) : n ≤ sizeLine := Nat.le_of_lt (small1000 h)
end DL

/-! DM2: mirrors step by step -/
namespace DL
open PySem L2
/-- it comes to a value, of which P holds -/
def Ok {α : Type} (m : R α) (P : α → Prop) : Prop := ∃ a, m = .ok a ∧ P a
/-- what holds of a block's ends -/
def fl {N L T : Type} (Pn : N → Prop) (Pc Pb : L → Prop) (Pt : T → Prop) : Fl N L T → Prop
  | .nx n => Pn n
  | .ct l => Pc l
  | .bk l => Pb l
  | .rt t => Pt t
/-- .. of one that just goes on or returns -/
abbrev fn {N L T : Type} (Pn : N → Prop) (Pt : T → Prop) : Fl N L T → Prop := fl Pn (fun _ => False) (fun _ => False) Pt
namespace Ok
section
variable {α β γ δ ε N N1 L T S : Type}
theorem ret {a : α} {P : α → Prop} (h : P a) : Ok (.ok a) P := ⟨a, rfl, h⟩
theorem mono {m : R α} {P Q : α → Prop} (h : Ok m P) (k : ∀ a, P a → Q a) : Ok m Q := let ⟨a, e, p⟩ := h; ⟨a, e, k a p⟩
theorem bind {m : R α} {f : α → R β} {P : α → Prop} {Q : β → Prop} (h : Ok m P) (k : ∀ a, P a → Ok (f a) Q) : Ok (m.bind f) Q := by
  obtain ⟨a, rfl, p⟩ := h
  exact k a p
theorem bind1 {m : R α} {f : α → R β} {Q : β → Prop} {a : α} (h : m = .ok a) (k : Ok (f a) Q) : Ok (m.bind f) Q := by
  rw [h]
  exact k
theorem of_eq {m : R α} {a : α} {Q : α → Prop} (h : m = .ok a) (k : Q a) : Ok m Q := ⟨a, h, k⟩
theorem eq {m : R α} {a : α} (h : Ok m (fun b => b = a)) : m = .ok a := by
  obtain ⟨b, e, rfl⟩ := h
  exact e
theorem grd {c : Prop} [Decidable c] {P : Unit → Prop} (h : c) (k : P ()) : Ok (R.guard c) P := ⟨(), guard_ok h, k⟩
theorem grdB {c : Prop} [Decidable c] {f : Unit → R β} {Q : β → Prop} (h : c) (k : Ok (f ()) Q) : Ok ((R.guard c).bind f) Q := bind1 (guard_ok h) k
theorem som {o : Option α} {a : α} {P : α → Prop} (h : o = .some a) (k : P a) : Ok (R.some o) P := ⟨a, by rw [h]; rfl, k⟩
theorem somB {o : Option α} {a : α} {f : α → R β} {Q : β → Prop} (h : o = .some a) (k : Ok (f a) Q) : Ok ((R.some o).bind f) Q := bind1 (by rw [h]; rfl) k
theorem okB {a : α} {f : α → R β} {Q : β → Prop} (k : Ok (f a) Q) : Ok ((R.ok a).bind f) Q := k
theorem ltI {v : α} {k : α → R β} {Q : β → Prop} (h : Ok (k v) Q) : Ok (lt v k) Q := h
theorem ite {b : Bool} {m m' : R α} {Q : α → Prop} (h1 : b = true → Ok m Q) (h2 : b = false → Ok m' Q) : Ok (if b = true then m else m') Q := by
  cases b with
  | true => exact h1 rfl
  | false => exact h2 rfl
theorem iteT {b : Bool} {m m' : R α} {Q : α → Prop} (h : b = true) (h1 : Ok m Q) : Ok (if b = true then m else m') Q := by rw [if_pos h]; exact h1
theorem iteF {b : Bool} {m m' : R α} {Q : α → Prop} (h : b = false) (h1 : Ok m' Q) : Ok (if b = true then m else m') Q := by rw [if_neg (by rw [h]; decide)]; exact h1
theorem bF {m : R (Fl N1 L T)} {k : N1 → R (Fl N L T)} {Pn : N1 → Prop} {Qn : N → Prop} {Pc Pb : L → Prop} {Pt : T → Prop} (h : Ok m (fl Pn Pc Pb Pt)) (r : ∀ n, Pn n → Ok (k n) (fl Qn Pc Pb Pt)) : Ok (bindF m k) (fl Qn Pc Pb Pt) := by
  obtain ⟨a, rfl, p⟩ := h
  cases a with
  | nx n => exact r n p
  | ct n => exact ⟨_, rfl, p⟩
  | bk n => exact ⟨_, rfl, p⟩
  | rt n => exact ⟨_, rfl, p⟩
theorem nx {n : N} {Pn : N → Prop} {Pc Pb : L → Prop} {Pt : T → Prop} (h : Pn n) : Ok (.ok (.nx n) : R (Fl N L T)) (fl Pn Pc Pb Pt) := ⟨_, rfl, h⟩
theorem rt {n : T} {Pn : N → Prop} {Pc Pb : L → Prop} {Pt : T → Prop} (h : Pt n) : Ok (.ok (.rt n) : R (Fl N L T)) (fl Pn Pc Pb Pt) := ⟨_, rfl, h⟩
theorem ct {n : L} {Pn : N → Prop} {Pc Pb : L → Prop} {Pt : T → Prop} (h : Pc n) : Ok (.ok (.ct n) : R (Fl N L T)) (fl Pn Pc Pb Pt) := ⟨_, rfl, h⟩
theorem bk {n : L} {Pn : N → Prop} {Pc Pb : L → Prop} {Pt : T → Prop} (h : Pb n) : Ok (.ok (.bk n) : R (Fl N L T)) (fl Pn Pc Pb Pt) := ⟨_, rfl, h⟩
theorem f0 {m : R (Fl N L T)} {P : T → Prop} (h : Ok m (fl (fun _ => False) (fun _ => False) (fun _ => False) P)) : Ok (fin0 m) P := by
  obtain ⟨a, rfl, p⟩ := h
  cases a with
  | rt t => exact ⟨t, rfl, p⟩
  | nx _ => exact p.elim
  | ct _ => exact p.elim
  | bk _ => exact p.elim
theorem fN {m : R (Fl N L T)} {P : N → Prop} (h : Ok m (fl P (fun _ => False) (fun _ => False) (fun _ => False))) : Ok (finN m) P := by
  obtain ⟨a, rfl, p⟩ := h
  cases a with
  | nx t => exact ⟨t, rfl, p⟩
  | rt _ => exact p.elim
  | ct _ => exact p.elim
  | bk _ => exact p.elim
theorem and2 {ma : R α} {xa : α → Bool} {mb : R Bool} {P : α → Prop} {Q : Bool → Prop} (h : Ok ma P) (k1 : ∀ a, P a → xa a = true → Ok mb Q) (k2 : ∀ a, P a → xa a = false → Q false) : Ok (DL.and2 ma xa mb) Q := by
  obtain ⟨a, rfl, p⟩ := h
  unfold DL.and2
  cases e : xa a with
  | true => exact bind1 rfl (iteT e (k1 a p e))
  | false => exact bind1 rfl (iteF e (ret (k2 a p e)))
theorem or2 {ma : R α} {xa : α → Bool} {mb : R Bool} {P : α → Prop} {Q : Bool → Prop} (h : Ok ma P) (k1 : ∀ a, P a → xa a = true → Q true) (k2 : ∀ a, P a → xa a = false → Ok mb Q) : Ok (DL.or2 ma xa mb) Q := by
  obtain ⟨a, rfl, p⟩ := h
  unfold DL.or2
  cases e : xa a with
  | true => exact bind1 rfl (iteT e (ret (k1 a p e)))
  | false => exact bind1 rfl (iteF e (k2 a p e))
theorem op2 {ma : R α} {mb : α → R β} {mr : α → β → R γ} {P : α → Prop} {P2 : α → β → Prop} {Q : α × β × γ → Prop} (h : Ok ma P) (k : ∀ a, P a → Ok (mb a) (P2 a)) (r : ∀ a b, P a → P2 a b → Ok (mr a b) fun c => Q (a, b, c)) : Ok (DL.op2 ma mb mr) Q := by
  unfold DL.op2
  refine h.bind fun a pa => (k a pa).bind fun b pb => (r a b pa pb).bind fun c q => ret q
/-- a loop by the turn told -/
theorem forR {f : α → S → R (Fl S S T)} (I : Nat → S → Prop) {Pn : S → Prop} {Pc Pb : L → Prop} {Pt : T → Prop} {xs : List α} {s : S} (h0 : I 0 s)
    (hs : ∀ i x s, xs[i]? = some x → I i s → Ok (f x s) (fl (I (i + 1)) (I (i + 1)) Pn Pt)) (hn : ∀ s, I xs.length s → Pn s) : Ok (DL.forR f xs s : R (Fl S L T)) (fl Pn Pc Pb Pt) := by
  have go : ∀ (ys : List α) (i : Nat) (s : S), (∀ k, ys[k]? = xs[i + k]?) → i + ys.length = xs.length → I i s → Ok (DL.forR f ys s : R (Fl S L T)) (fl Pn Pc Pb Pt) := by
    intro ys
    induction ys with
    | nil =>
      intro i s hk hl h
      rw [List.length_nil, Nat.add_zero] at hl
      exact ⟨_, rfl, hn s (hl ▸ h)⟩
    | cons y ys ih =>
      intro i s hk hl h
      have h1 := hs i y s (by rw [← Nat.add_zero i, ← hk 0]; rfl) h
      have nxt : ∀ s', I (i + 1) s' → Ok (DL.forR f ys s' : R (Fl S L T)) (fl Pn Pc Pb Pt) := fun s' h' => ih (i + 1) s' (fun k => by
        have := hk (k + 1)
        rw [show i + 1 + k = i + (k + 1) by omega, ← this]
        rfl) (by rw [List.length_cons] at hl; omega) h'
      obtain ⟨a, e, p⟩ := h1
      rw [DL.forR, e]
      cases a with
      | nx s' => exact nxt s' p
      | ct s' => exact nxt s' p
      | bk s' => exact ⟨_, rfl, p⟩
      | rt t => exact ⟨_, rfl, p⟩
  exact go xs 0 s (fun k => by rw [Nat.zero_add]) (by rw [Nat.zero_add]) h0
/-- .. one invariant for all turns -/
theorem forC {f : α → S → R (Fl S S T)} (I : S → Prop) {Pc Pb : L → Prop} {Pt : T → Prop} {xs : List α} {s : S} (h0 : I s)
    (hs : ∀ x ∈ xs, ∀ s, I s → Ok (f x s) (fl I I I Pt)) : Ok (DL.forR f xs s : R (Fl S L T)) (fl I Pc Pb Pt) :=
  forR (fun _ => I) h0 (fun i x s e h => hs x (List.mem_of_getElem? e) s h) fun _ h => h
theorem whR {c : S → R Bool} {f : S → R (Fl S S T)} (I : S → Prop) (μ : S → Nat) {Pn : S → Prop} {Pc Pb : L → Prop} {Pt : T → Prop} {s : S} (h0 : I s)
    (hs : ∀ s, I s → ∃ b, c s = .ok b ∧ (b = true → Ok (f s) (fl (fun s' => I s' ∧ μ s' < μ s) (fun s' => I s' ∧ μ s' < μ s) Pn Pt)) ∧ (b = false → Pn s)) : Ok (DL.whR c f s : R (Fl S L T)) (fl Pn Pc Pb Pt) := by
  have go : ∀ (n : Nat) (s : S), μ s < n → I s → ∃ r : Fl S L T, (DL.whN c f n s : R (Fl S L T)) = .ok r ∧ fl Pn Pc Pb Pt r := by
    intro n
    induction n with
    | zero => intro s h; omega
    | succ n ih =>
      intro s hm h
      obtain ⟨b, e, h1, h2⟩ := hs s h
      rw [DL.whN, e]
      cases b with
      | false => exact ⟨_, rfl, h2 rfl⟩
      | true =>
        obtain ⟨a, e2, p⟩ := h1 rfl
        simp only [R.bind, if_true, e2]
        cases a with
        | nx s' => exact ih s' (by have := p.2; omega) p.1
        | ct s' => exact ih s' (by have := p.2; omega) p.1
        | bk s' => exact ⟨_, rfl, p⟩
        | rt t => exact ⟨_, rfl, p⟩
  obtain ⟨r, e, p⟩ := go (μ s + 1) s (Nat.lt_succ_self _) h0
  refine ⟨r, ?_, p⟩
  rw [whR_of (n := μ s + 1) (by rw [e]; exact fun z => nomatch z)]
  exact e
theorem compF {c : α → S → R δ} {bn : δ → Bool} {me : α → S → R ε} {v : ε → γ} {st : ε → S} {x : α} {s : S} {P : δ → Prop} {Q : Option γ × S → Prop} (h : Ok (c x s) P) (k1 : ∀ d, P d → bn d = true → Ok (me x s) fun y => Q (some (v y), st y)) (k2 : ∀ d, P d → bn d = false → Q (none, s)) :
    Ok (DL.compF c bn me v st x s) Q := by
  unfold DL.compF
  refine h.bind fun d p => ite (fun e => (k1 d p e).bind fun y q => ret q) fun e => ret (k2 d p e)
/-- a comprehension by the turn told -/
theorem compR {f : α → S → R (Option γ × S)} (I : Nat → List γ → S → Prop) {xs : List α} {s : S} (h0 : I 0 [] s)
    (hs : ∀ i x acc s, xs[i]? = some x → I i acc s → Ok (f x s) fun p => I (i + 1) (match p.1 with | some v => acc ++ [v] | none => acc) p.2) : Ok (DL.compR f xs [] s) fun p => I xs.length p.1 p.2 := by
  have go : ∀ (ys : List α) (i : Nat) (acc : List γ) (s : S), (∀ k, ys[k]? = xs[i + k]?) → i + ys.length = xs.length → I i acc s → Ok (DL.compR f ys acc s) fun p => I xs.length p.1 p.2 := by
    intro ys
    induction ys with
    | nil =>
      intro i acc s hk hl h
      rw [List.length_nil, Nat.add_zero] at hl
      exact ⟨_, rfl, hl ▸ h⟩
    | cons y ys ih =>
      intro i acc s hk hl h
      have h1 := hs i y acc s (by rw [← Nat.add_zero i, ← hk 0]; rfl) h
      rw [DL.compR]
      refine h1.bind fun p q => ih (i + 1) _ _ (fun k => by
        have := hk (k + 1)
        rw [show i + 1 + k = i + (k + 1) by omega, ← this]
        rfl) (by rw [List.length_cons] at hl; omega) q
  exact go xs 0 [] s (fun k => by rw [Nat.zero_add]) (by rw [Nat.zero_add]) h0
end
end Ok
theorem rng_get {lo hi : Int} {i : Nat} {x : Int} (h : (rng lo hi)[i]? = some x) : x = lo + i ∧ x < hi := by
  unfold rng at h
  rw [List.getElem?_map] at h
  cases e : (List.range (hi - lo).toNat)[i]? with
  | none => rw [e] at h; cases h
  | some k =>
    rw [e] at h
    have h : lo + (k : Int) = x := by simpa using h
    obtain ⟨h1, h2⟩ := List.getElem?_eq_some_iff.mp e
    rw [List.getElem_range] at h2
    rw [List.length_range] at h1
    omega
theorem rng_len (lo hi : Int) : (rng lo hi).length = (hi - lo).toNat := by
  unfold rng
  rw [List.length_map, List.length_range]
theorem atI_nat {α : Type} {l : List α} {k : Int} {x : α} (h0 : 0 ≤ k) (h : l[k.toNat]? = some x) : atI l k = some x := by
  have hl := (List.getElem?_eq_some_iff.mp h).1
  unfold atI ixN
  rw [if_pos h0, if_pos (by omega)]
  exact h
theorem ixN_nat {n : Nat} {k : Int} (h0 : 0 ≤ k) (h : k < n) : ixN n k = some k.toNat := by
  unfold ixN
  rw [if_pos h0, if_pos (by omega)]
theorem atI_ok {α : Type} {l : List α} {k : Int} (h0 : 0 ≤ k) (h : k < l.length) : ∃ x, atI l k = some x ∧ l[k.toNat]? = some x ∧ x ∈ l := by
  have hk : k.toNat < l.length := by omega
  exact ⟨l[k.toNat], atI_nat h0 (List.getElem?_eq_getElem hk), List.getElem?_eq_getElem hk, List.getElem_mem hk⟩
end DL

namespace W
open PySem PySem.Spec L2 DL
def topS (i : Nat) : Stmt := PySem.Challenge.pw_restdraw_k54_whole_rounds_and_stretches.main.body.getD i (.Pass ⟨0, 0, 0, 0⟩)
structure Top (K : PySem.W.Frag) (mg : Str → Option Value) where
  law_pot : DT K mg "_law_pot" (topS 37) ["_law_script", "_law_k"]
  law_digit : DT K mg "_law_digit" (topS 38) ["_law_pot_here", "_law_many"]
  law_put_over : DT K mg "_law_put_over" (topS 39) ["_law_rows_here", "_law_row", "_law_first", "_law_last"]
  law_rows : DT K mg "_law_rows" (topS 40) ["_law_pot_here", "_law_n"]
  law_names : DT K mg "_law_names" (topS 41) ["_law_pot_here", "_law_n"]
  law_web : DT K mg "_law_web" (topS 42) ["_law_rows_here", "_law_names_here"]
  steps : DT K mg "steps" (topS 10) ["web"]
  behind : DT K mg "behind" (topS 11) ["web", "step"]
  steps_round : DT K mg "steps_round" (topS 12) ["web", "step"]
  told_round : DT K mg "told_round" (topS 13) ["some"]
  faces : DT K mg "faces" (topS 14) ["web"]
  ties : DT K mg "ties" (topS 9) ["web"]
  is_flat : DT K mg "is_flat" (topS 15) ["web"]
  want_flat : DT K mg "want_flat" (topS 16) ["web"]
  other_faces : DT K mg "other_faces" (topS 20) ["web"]
  want_cornered : DT K mg "want_cornered" (topS 22) ["web"]
  is_whole : DT K mg "is_whole" (topS 7) ["thing"]
  is_place : DT K mg "is_place" (topS 19) ["web", "thing"]
  is_base : DT K mg "is_base" (topS 21) ["web", "thing"]
  want_base : DT K mg "want_base" (topS 23) ["web", "base"]
  is_row_of_all : DT K mg "is_row_of_all" (topS 25) ["web", "thing"]
  part_of : DT K mg "part_of" (topS 26) ["row", "some"]
  lies_over : DT K mg "lies_over" (topS 27) ["web", "place", "part"]
  round_behind : DT K mg "round_behind" (topS 28) ["row", "place", "part"]
  grown : DT K mg "grown" (topS 29) ["web", "order"]
  is_order_of : DT K mg "is_order_of" (topS 30) ["web", "base", "thing"]
  is_order : DT K mg "is_order" (topS 31) ["web", "base", "thing"]
  law_is : DT K mg "_law_is" (topS 44) ["_law_told", "_law_due"]
  want_order : DT K mg "want_order" (topS 32) ["web", "base", "order"]
  rounds : DT K mg "rounds" (topS 33) ["web", "base", "order"]
  law_named : DT K mg "_law_named" (topS 43) ["_law_names_here", "_law_some"]
  stretches_of : DT K mg "stretches_of" (topS 35) ["web", "order"]
  stretches : DT K mg "stretches" (topS 34) ["web", "base", "order"]
  law : DT K mg "law" (topS 45) ["_law_script"]
  z_abs : mg "abs" = none
  z_all : mg "all" = none
  z_bool : mg "bool" = none
  z_dict : mg "dict" = none
  z_divmod : mg "divmod" = none
  z_enumerate : mg "enumerate" = none
  z_int : mg "int" = none
  z_isinstance : mg "isinstance" = none
  z_len : mg "len" = none
  z_max : mg "max" = none
  z_min : mg "min" = none
  z_range : mg "range" = none
  z_set : mg "set" = none
  z_sorted : mg "sorted" = none
  z_tuple : mg "tuple" = none
  z_zip : mg "zip" = none
  g_CORNERS : ∃ t, mg "CORNERS" = some (.int 3 t)
/-! law_pot -/
abbrev s_law_pot : Stmt := topS 37
theorem sc_law_pot : FnScope ["_law_script", "_law_k", "_law_cell"] ["_law_script", "_law_k"] (defScope s_law_pot) := ⟨rfl, rfl, rfl, by decide +kernel, rfl, by decide +kernel, by decide +kernel⟩
noncomputable def mb_law_pot (v_script : List Int) (v_k : Int) : R (Fl Unit Unit (List Int)) :=
(((R.guard (List.length (cut v_script (some v_k) (some (v_k + (1 : Int)))) + List.length [(0 : Int)] ≤ sizeLine)).bind fun (x13 : Unit) => (R.some (atI ((cut v_script (some v_k) (some (v_k + (1 : Int)))) ++ [(0 : Int)]) (0 : Int))).bind fun (z15 : Int) => R.ok (x13, z15)).bind fun (b17 : (Unit × Int)) => lt b17.2 fun v_cell_16 =>
(R.ok (.rt [(max (0 : Int) (v_cell_16 - ((10 : Int) ^ (Int.toNat (18 : Int))))), (((((if v_cell_16 < 0 then -v_cell_16 else v_cell_16) + ((7919 : Int) * v_k)) + (3 : Int)) % (2147483629 : Int)) + (1 : Int))])))
noncomputable def m_law_pot (a : (List Int × Int)) : R (List Int) := fin0 (mb_law_pot a.1 a.2)
abbrev i_law_pot (a : (List Int × Int)) : List Slot := [.val (D.scr a.1), .val (D.int a.2)]
abbrev l_law_pot (b : (List Int)) : Slot := .own 0 ((oL D.int) b)
abbrev o_law_pot (b : (List Int)) : List Slot := [.non, .non]
theorem ok_law_pot {P : Program} {w : World} {K : PySem.W.Frag} {mg : Str → Option Value} {base : Heap} (T : Top K mg) : FnG P w K mg base CX0 1 T.law_pot.a T.law_pot.d ["_law_script", "_law_k"] (spM K i_law_pot m_law_pot l_law_pot o_law_pot) := by
  show FnG P w K mg base CX0 (0 + 1) T.law_pot.a T.law_pot.d ["_law_script", "_law_k"] (spM K i_law_pot (fun (a : (List Int × Int)) => fin0 (mb_law_pot a.1 a.2)) l_law_pot o_law_pot)
  refine fn_ok (n1 := fun _ => []) (c1 := fun _ => []) (k1 := fun _ => []) (ins := i_law_pot) (sl := l_law_pot) (outs := o_law_pot) (fun (a : (List Int × Int)) => mb_law_pot a.1 a.2) 1 T.law_pot.f sc_law_pot rfl (fun _ => rfl) (fun _ => rfl) (fun _ => rfl) (fun cdv A outer s H E hr B hB a => ?_)
  show JSs _ B _ _ (mb_law_pot a.1 a.2) _
  unfold mb_law_pot
  exact ((js_setEQ 2 D.int (fun (b17 : (Unit × Int)) => b17.2) (fun (b17 : (Unit × Int)) (v_cell_16 : Int) => [.val (D.scr a.1), .val (D.int a.2), .val (D.int v_cell_16)]) sc_law_pot.nd (je_opLG (ρa := fun _ => _) (s := fun (x13 : Unit) (z15 : Int) => (.val (D.int z15))) (xa := fun (x13 : Unit) => (eL D.int) ((cut a.1 (some a.2) (some (a.2 + (1 : Int)))) ++ [(0 : Int)])) (y := fun (x13 : Unit) => D.int (0 : Int)) (fun _ _ ha hb => pe_ix ix_list ha hb (fun _ _ => rfl)) (je_frzL (v := fun (b12 : Unit) => ((cut a.1 (some a.2) (some (a.2 + (1 : Int)))) ++ [(0 : Int)])) (je_op (fun _ _ ha hb => pe_op op_catR ha hb) (je_frzL (v := fun (b7 : Unit) => (cut a.1 (some a.2) (some (a.2 + (1 : Int))))) (je_slS (jp_var 0) (fun _ => (jo_some (jp_var 1))) (fun _ => (jo_some (je_op (fun _ _ ha hb => pe_op op_add ha hb) (jp_var 1) jp_int od_add))))) (je_frzL (v := fun (b11 : Unit) => [(0 : Int)]) (je_lstT D.int (fun (b10 : Unit) => ([(0 : Int)] : List Int)) (ja_p jp_int ja_nil))) od_catm)) (fun x13 => jp_int) (fun x13 => od_ixLm)) fun b17 v_cell_16 =>
(js_one (js_retP [(max (0 : Int) (v_cell_16 - ((10 : Int) ^ (Int.toNat (18 : Int))))), (((((if v_cell_16 < 0 then -v_cell_16 else v_cell_16) + ((7919 : Int) * a.2)) + (3 : Int)) % (2147483629 : Int)) + (1 : Int))] [false, false, false] (je_lstT D.int (fun (b32 : Unit) => ([(max (0 : Int) (v_cell_16 - ((10 : Int) ^ (Int.toNat (18 : Int))))), (((((if v_cell_16 < 0 then -v_cell_16 else v_cell_16) + ((7919 : Int) * a.2)) + (3 : Int)) % (2147483629 : Int)) + (1 : Int))] : List Int)) (ja_p (je_cb (fun _ ht => pe_callB (call_max2 rfl) (by rfl) T.z_max (by decide +kernel) ht) (ja_p jp_int (ja_p (je_op (fun _ _ ha hb => pe_op op_sub ha hb) (jp_var 2) (je_op (fun _ _ ha hb => pe_op op_pow ha hb) jp_int jp_int od_powC) od_sub) ja_nil)) cb_max) (ja_p (je_op (fun _ _ ha hb => pe_op op_add ha hb) (je_op (fun _ _ ha hb => pe_op op_mod ha hb) (je_op (fun _ _ ha hb => pe_op op_add ha hb) (je_op (fun _ _ ha hb => pe_op op_add ha hb) (je_cb (fun _ ht => pe_callB call_abs (by rfl) T.z_abs (by decide +kernel) ht) (ja_p (jp_var 2) ja_nil) cb_abs) (je_op (fun _ _ ha hb => pe_op op_mul ha hb) jp_int (jp_var 1) od_mulC) od_add) jp_int od_add) jp_int od_modC) jp_int od_add) ja_nil)))))))
/-! law_digit -/
abbrev s_law_digit : Stmt := topS 38
theorem sc_law_digit : FnScope ["_law_pot_here", "_law_many", "_law_digit_here"] ["_law_pot_here", "_law_many"] (defScope s_law_digit) := ⟨rfl, rfl, rfl, by decide +kernel, rfl, by decide +kernel, by decide +kernel⟩
noncomputable def mb_law_digit (v_pot_here : (List Int)) (v_many : Int) : R (Fl Unit Unit (Int × (List Int))) :=
(bindF ((R.some (atI v_pot_here (0 : Int))).bind fun (b40 : Int) => if (decide (b40 > (0 : Int))) = true then ((((R.some (atI v_pot_here (0 : Int))).bind fun (c42 : Int) => (R.guard (CDivP c42 v_many)).bind fun (z43 : Unit) => R.ok (c42, z43)).bind fun (b44 : (Int × Unit)) => ((R.some (ixN (List.length v_pot_here) (0 : Int))).bind fun (j45 : Nat) => (R.ok ()).bind fun (c_ : Unit) => R.ok (j45, c_)).bind fun (p46 : (Nat × Unit)) => R.ok (b44, p46)).bind fun (p47 : (Int × Unit) × (Nat × Unit)) =>
(R.ok (.rt ((p47.1.1 / v_many, p47.1.1 % v_many).2, (List.set v_pot_here p47.2.1 ((p47.1.1 / v_many, p47.1.1 % v_many).1)))))) else (R.ok (.nx ()))) fun n48 =>
(((R.some (atI v_pot_here (1 : Int))).bind fun (b58 : Int) => (R.some (ixN (List.length v_pot_here) (1 : Int))).bind fun (j59 : Nat) => R.ok (b58, j59)).bind fun (p60 : Int × Nat) =>
(((op2 (R.some (atI (List.set v_pot_here p60.2 (((p60.1 * (48271 : Int)) + (39373 : Int)) % (2147483647 : Int))) (1 : Int))) (fun (x61 : Int) => (R.some (atI (List.set v_pot_here p60.2 (((p60.1 * (48271 : Int)) + (39373 : Int)) % (2147483647 : Int))) (1 : Int)))) (fun (x61 : Int) (y62 : Int) => R.guard (CMulX x61 y62))).bind fun (x69 : (Int × Int × Unit)) => (R.guard (v_many ≠ (0 : Int))).bind fun (z71 : Unit) => R.ok (x69, z71)).bind fun (b72 : ((Int × Int × Unit) × Unit)) => R.ok (.rt ((Int.fmod (((b72.1.1 * b72.1.2.1) % (2147483629 : Int)) / (3 : Int)) v_many), (List.set v_pot_here p60.2 (((p60.1 * (48271 : Int)) + (39373 : Int)) % (2147483647 : Int))))))))
noncomputable def m_law_digit (a : ((List Int) × Int)) : R (Int × (List Int)) := fin0 (mb_law_digit a.1 a.2)
abbrev i_law_digit (a : ((List Int) × Int)) : List Slot := [.own 1 ((oL D.int) a.1), .val (D.int a.2)]
abbrev l_law_digit (b : (Int × (List Int))) : Slot := .val (D.int b.1)
abbrev o_law_digit (b : (Int × (List Int))) : List Slot := [.own 1 ((oL D.int) b.2), .non]
theorem ok_law_digit {P : Program} {w : World} {K : PySem.W.Frag} {mg : Str → Option Value} {base : Heap} (T : Top K mg) : FnG P w K mg base CX0 1 T.law_digit.a T.law_digit.d ["_law_pot_here", "_law_many"] (spM K i_law_digit m_law_digit l_law_digit o_law_digit) := by
  show FnG P w K mg base CX0 (0 + 1) T.law_digit.a T.law_digit.d ["_law_pot_here", "_law_many"] (spM K i_law_digit (fun (a : ((List Int) × Int)) => fin0 (mb_law_digit a.1 a.2)) l_law_digit o_law_digit)
  refine fn_ok (n1 := fun _ => []) (c1 := fun _ => []) (k1 := fun _ => []) (ins := i_law_digit) (sl := l_law_digit) (outs := o_law_digit) (fun (a : ((List Int) × Int)) => mb_law_digit a.1 a.2) 1 T.law_digit.f sc_law_digit rfl (fun _ => rfl) (fun _ => rfl) (fun _ => rfl) (fun cdv A outer s H E hr B hB a => ?_)
  show JSs _ B _ _ (mb_law_digit a.1 a.2) _
  unfold mb_law_digit
  exact ((js_cons (ρ1 := fun (n48 : Unit) => [.own 1 ((oL D.int) a.1), .val (D.int a.2), .non]) (js_if (jt_opL (ρa := fun _ => _) (bn := fun (x37 : Int) => (decide (x37 > (0 : Int)))) (xa := fun (x37 : Int) => D.int x37) (y := fun (x37 : Int) => D.int (0 : Int)) (fun _ _ ha hb => pt_cmpR op_gt ha hb (nomark _)) (je_ixO 0 (xs := a.1) (en := D.int) (k := (0 : Int)) rfl jp_int) (fun x37 => jp_int) (fun x37 => od_gt)) (fun b40 => (js_consQ1 (fun (p47 : (Int × Unit) × (Nat × Unit)) => [.own 1 ((oL D.int) (List.set a.1 p47.2.1 ((p47.1.1 / a.2, p47.1.1 % a.2).1))), .val (D.int a.2), .val (D.int ((p47.1.1 / a.2, p47.1.1 % a.2).2))]) (j1_asg (d := fun (b44 : (Int × Unit)) => (eP2 D.int D.int) (b44.1 / a.2, b44.1 % a.2)) (je_cb2 (ρa := fun _ => _) (s := fun (c42 : Int) (z43 : Unit) => .val ((eP2 D.int D.int) (c42 / a.2, c42 % a.2))) (fun _ ht => pe_callB call_divmodW (by rfl) T.z_divmod (by decide +kernel) ht) (ja_el (ρa := fun _ => _) (xa := fun (x41 : Int) => D.int x41) (je_ixO 0 (xs := a.1) (en := D.int) (k := (0 : Int)) rfl jp_int) (fun x41 => (ja_p (jp_var 1) ja_nil))) (fun c42 => cb_divmod)) (fun b44 => jg_tup rfl (jgs_cons (jg_sub 0 (xs := a.1) (en := D.int) (y := (b44.1 / a.2, b44.1 % a.2).1) (k := (0 : Int)) rfl jp_int) (fun j45 => (jgs_p (jg_name 2 sc_law_digit.nd) jgs_nil))))) fun p47 =>
(js_one (js_retP ((p47.1.1 / a.2, p47.1.1 % a.2).2, (List.set a.1 p47.2.1 ((p47.1.1 / a.2, p47.1.1 % a.2).1))) [true, false, false] (jp_var 2))))) (fun b40 => (js_nil [true, true, true] ()))) fun n48 =>
(js_consQ1 (fun (p60 : Int × Nat) => [.own 1 ((oL D.int) (List.set a.1 p60.2 (((p60.1 * (48271 : Int)) + (39373 : Int)) % (2147483647 : Int)))), .val (D.int a.2), .non]) (j1_asg (d := fun (b58 : Int) => D.int (((b58 * (48271 : Int)) + (39373 : Int)) % (2147483647 : Int))) (je_opL (ρa := fun _ => _) (s := fun (x55 : Int) => (.val (D.int (((x55 * (48271 : Int)) + (39373 : Int)) % (2147483647 : Int))))) (xa := fun (x55 : Int) => D.int ((x55 * (48271 : Int)) + (39373 : Int))) (y := fun (x55 : Int) => D.int (2147483647 : Int)) (fun _ _ ha hb => pe_op op_mod ha hb) (je_opL (ρa := fun _ => _) (s := fun (x52 : Int) => (.val (D.int ((x52 * (48271 : Int)) + (39373 : Int))))) (xa := fun (x52 : Int) => D.int (x52 * (48271 : Int))) (y := fun (x52 : Int) => D.int (39373 : Int)) (fun _ _ ha hb => pe_op op_add ha hb) (je_opL (ρa := fun _ => _) (s := fun (x49 : Int) => (.val (D.int (x49 * (48271 : Int))))) (xa := fun (x49 : Int) => D.int x49) (y := fun (x49 : Int) => D.int (48271 : Int)) (fun _ _ ha hb => pe_op op_mul ha hb) (je_ixO 0 (xs := a.1) (en := D.int) (k := (1 : Int)) rfl jp_int) (fun x49 => jp_int) (fun x49 => od_mulC)) (fun x52 => jp_int) (fun x52 => od_add)) (fun x55 => jp_int) (fun x55 => od_modC)) (fun b58 => (jg_sub 0 (xs := a.1) (en := D.int) (y := (((b58 * (48271 : Int)) + (39373 : Int)) % (2147483647 : Int))) (k := (1 : Int)) rfl jp_int))) fun p60 =>
(js_one (js_ret (fun (b72 : ((Int × Int × Unit) × Unit)) => ((Int.fmod (((b72.1.1 * b72.1.2.1) % (2147483629 : Int)) / (3 : Int)) a.2), (List.set a.1 p60.2 (((p60.1 * (48271 : Int)) + (39373 : Int)) % (2147483647 : Int))))) [true, false, true] (je_opLG (ρa := fun _ => _) (s := fun (x69 : (Int × Int × Unit)) (z71 : Unit) => (.val (D.int (Int.fmod (((x69.1 * x69.2.1) % (2147483629 : Int)) / (3 : Int)) a.2)))) (xa := fun (x69 : (Int × Int × Unit)) => D.int (((x69.1 * x69.2.1) % (2147483629 : Int)) / (3 : Int))) (y := fun (x69 : (Int × Int × Unit)) => D.int a.2) (fun _ _ ha hb => pe_op op_modN ha hb) (je_opL (ρa := fun _ => _) (s := fun (x66 : (Int × Int × Unit)) => (.val (D.int (((x66.1 * x66.2.1) % (2147483629 : Int)) / (3 : Int))))) (xa := fun (x66 : (Int × Int × Unit)) => D.int ((x66.1 * x66.2.1) % (2147483629 : Int))) (y := fun (x66 : (Int × Int × Unit)) => D.int (3 : Int)) (fun _ _ ha hb => pe_op op_fdiv ha hb) (je_opL (ρa := fun _ => _) (s := fun (x63 : (Int × Int × Unit)) => (.val (D.int ((x63.1 * x63.2.1) % (2147483629 : Int))))) (xa := fun (x63 : (Int × Int × Unit)) => D.int (x63.1 * x63.2.1)) (y := fun (x63 : (Int × Int × Unit)) => D.int (2147483629 : Int)) (fun _ _ ha hb => pe_op op_mod ha hb) (je_op2 (ρa := fun _ => _) (ρb := fun _ _ => _) (s := fun (x61 : Int) (y62 : Int) (z0 : Unit) => (.val (D.int (x61 * y62)))) (xa := fun (x61 : Int) => D.int x61) (xb := fun (x61 : Int) (y62 : Int) => D.int y62) (fun _ _ ha hb => pe_op op_mulX ha hb) (je_ixO 0 (xs := (List.set a.1 p60.2 (((p60.1 * (48271 : Int)) + (39373 : Int)) % (2147483647 : Int)))) (en := D.int) (k := (1 : Int)) rfl jp_int) (fun x61 => (je_ixO 0 (xs := (List.set a.1 p60.2 (((p60.1 * (48271 : Int)) + (39373 : Int)) % (2147483647 : Int)))) (en := D.int) (k := (1 : Int)) rfl jp_int)) (fun x61 y62 => od_mul)) (fun x63 => jp_int) (fun x63 => od_modC)) (fun x66 => jp_int) (fun x66 => od_fdivC)) (fun x69 => (jp_var 1)) (fun x69 => od_mod)))))))
/-! law_put_over -/
abbrev s_law_put_over : Stmt := topS 39
theorem sc_law_put_over : FnScope ["_law_rows_here", "_law_row", "_law_first", "_law_last", "_law_place", "_law_part", "_law_k"] ["_law_rows_here", "_law_row", "_law_first", "_law_last"] (defScope s_law_put_over) := ⟨rfl, rfl, rfl, by decide +kernel, rfl, by decide +kernel, by decide +kernel⟩
noncomputable def mb_law_put_over (v_rows_here : (List (List Int))) (v_row : (List Int)) (v_first : Int) (v_last : Int) : R (Fl Unit Unit ((List Int) × (List (List Int)))) :=
(lt ((List.length v_rows_here : Nat) : Int) fun v_place_149 =>
((R.ok ()).bind fun (b153 : Unit) => lt (cut v_row (some v_first) (some (v_last + (1 : Int)))) fun v_part_152 =>
(bindF ((R.guard (rngOk (((List.length v_part_152 : Nat) : Int) - (1 : Int)))).bind fun (b158 : Unit) => forR (fun (x161 : Int) (s159 : (List (List Int))) =>
((((R.some (atI v_part_152 x161)).bind fun (b162 : Int) => R.some (rowAt s159 b162)).bind fun (j179 : (Nat × List Int)) => ((((R.some (atI v_part_152 x161)).bind fun (y164 : Int) => (R.some (atI s159 y164)).bind fun (z165 : (List Int)) => R.ok (y164, z165)).bind fun (c172 : (Int × (List Int))) => (R.some (atI v_part_152 (x161 + (1 : Int)))).bind fun (b173 : Int) => (R.some (ixOf b173 c172.2)).bind fun (z174 : Nat) => R.ok (c172, b173, z174))).bind fun (b180 : ((Int × (List Int)) × Int × Nat)) => (R.guard (List.length j179.2 < sizeLine ∧ 0 ≤ (((b180.2.2 : Nat) : Int) + (1 : Int)) ∧ (((b180.2.2 : Nat) : Int) + (1 : Int)) < 2 ^ 63)).bind fun (c181 : Unit) => R.ok (j179, b180, c181)).bind fun (b184 : ((Nat × List Int) × ((Int × (List Int)) × Int × Nat) × Unit)) =>
(R.ok (.nx (List.set s159 b184.1.1 (List.take (Int.toNat (((b184.2.1.2.2 : Nat) : Int) + (1 : Int))) b184.1.2 ++ [v_place_149] ++ List.drop (Int.toNat (((b184.2.1.2.2 : Nat) : Int) + (1 : Int))) b184.1.2)))))) (rng 0 (((List.length v_part_152 : Nat) : Int) - (1 : Int))) v_rows_here) fun n160 =>
((((R.some (atI v_part_152 (-(1 : Int)))).bind fun (b185 : Int) => R.some (rowAt n160 b185)).bind fun (j193 : (Nat × List Int)) => ((((R.some (atI v_part_152 (-(1 : Int)))).bind fun (y187 : Int) => (R.some (atI n160 y187)).bind fun (z188 : (List Int)) => R.ok (y187, z188)).bind fun (c189 : (Int × (List Int))) => (R.some (atI v_part_152 (-(2 : Int)))).bind fun (b190 : Int) => (R.some (ixOf b190 c189.2)).bind fun (z191 : Nat) => R.ok (c189, b190, z191))).bind fun (b194 : ((Int × (List Int)) × Int × Nat)) => (R.guard (List.length j193.2 < sizeLine ∧ 0 ≤ ((b194.2.2 : Nat) : Int) ∧ ((b194.2.2 : Nat) : Int) < 2 ^ 63)).bind fun (c195 : Unit) => R.ok (j193, b194, c195)).bind fun (b198 : ((Nat × List Int) × ((Int × (List Int)) × Int × Nat) × Unit)) =>
(((R.ok ()).bind fun (b199 : Unit) => (R.guard (List.length (List.set n160 b198.1.1 (List.take (Int.toNat ((b198.2.1.2.2 : Nat) : Int)) b198.1.2 ++ [v_place_149] ++ List.drop (Int.toNat ((b198.2.1.2.2 : Nat) : Int)) b198.1.2)) < sizeLine)).bind fun _ => R.ok b199).bind fun (b200 : Unit) =>
(((R.guard (List.length (cut v_row none (some (v_first + (1 : Int)))) + List.length [v_place_149] ≤ sizeLine)).bind fun (x209 : Unit) => (R.guard (List.length ((cut v_row none (some (v_first + (1 : Int)))) ++ [v_place_149]) + List.length (cut v_row (some v_last) none) ≤ sizeLine)).bind fun (z212 : Unit) => R.ok (x209, z212)).bind fun (b213 : (Unit × Unit)) => R.ok (.rt ((((cut v_row none (some (v_first + (1 : Int)))) ++ [v_place_149]) ++ (cut v_row (some v_last) none)), ((List.set n160 b198.1.1 (List.take (Int.toNat ((b198.2.1.2.2 : Nat) : Int)) b198.1.2 ++ [v_place_149] ++ List.drop (Int.toNat ((b198.2.1.2.2 : Nat) : Int)) b198.1.2)) ++ [v_part_152])))))))))
noncomputable def m_law_put_over (a : ((List (List Int)) × (List Int) × Int × Int)) : R ((List Int) × (List (List Int))) := fin0 (mb_law_put_over a.1 a.2.1 a.2.2.1 a.2.2.2)
abbrev i_law_put_over (a : ((List (List Int)) × (List Int) × Int × Int)) : List Slot := [.own 1 ((oLL D.int) a.1), .val ((eL D.int) a.2.1), .val (D.int a.2.2.1), .val (D.int a.2.2.2)]
abbrev l_law_put_over (b : ((List Int) × (List (List Int)))) : Slot := .own 0 ((oL D.int) b.1)
abbrev o_law_put_over (b : ((List Int) × (List (List Int)))) : List Slot := [.own 1 ((oLL D.int) b.2), .non, .non, .non]
theorem ok_law_put_over {P : Program} {w : World} {K : PySem.W.Frag} {mg : Str → Option Value} {base : Heap} (T : Top K mg) : FnG P w K mg base CX0 1 T.law_put_over.a T.law_put_over.d ["_law_rows_here", "_law_row", "_law_first", "_law_last"] (spM K i_law_put_over m_law_put_over l_law_put_over o_law_put_over) := by
  show FnG P w K mg base CX0 (0 + 1) T.law_put_over.a T.law_put_over.d ["_law_rows_here", "_law_row", "_law_first", "_law_last"] (spM K i_law_put_over (fun (a : ((List (List Int)) × (List Int) × Int × Int)) => fin0 (mb_law_put_over a.1 a.2.1 a.2.2.1 a.2.2.2)) l_law_put_over o_law_put_over)
  refine fn_ok (n1 := fun _ => []) (c1 := fun _ => []) (k1 := fun _ => []) (ins := i_law_put_over) (sl := l_law_put_over) (outs := o_law_put_over) (fun (a : ((List (List Int)) × (List Int) × Int × Int)) => mb_law_put_over a.1 a.2.1 a.2.2.1 a.2.2.2) 3 T.law_put_over.f sc_law_put_over rfl (fun _ => rfl) (fun _ => rfl) (fun _ => rfl) (fun cdv A outer s H E hr B hB a => ?_)
  show JSs _ B _ _ (mb_law_put_over a.1 a.2.1 a.2.2.1 a.2.2.2) _
  unfold mb_law_put_over
  exact ((js_setPQ 4 D.int ((List.length a.1 : Nat) : Int) (fun (v_place_149 : Int) => [.own 1 ((oLL D.int) a.1), .val ((eL D.int) a.2.1), .val (D.int a.2.2.1), .val (D.int a.2.2.2), .val (D.int v_place_149), .non, .non]) sc_law_put_over.nd (je_bor 0 (d := (eL (eL D.int)) a.1) (ρ1 := fun (b147 : Unit) => [.val ((eL (eL D.int)) a.1), .val ((eL D.int) a.2.1), .val (D.int a.2.2.1), .val (D.int a.2.2.2), .non, .non, .non]) (ρ2 := fun (b147 : Unit) => [.non, .val ((eL D.int) a.2.1), .val (D.int a.2.2.1), .val (D.int a.2.2.2), .non, .non, .non]) (ρ' := fun (b147 : Unit) => [.own 1 ((oLL D.int) a.1), .val ((eL D.int) a.2.1), .val (D.int a.2.2.1), .val (D.int a.2.2.2), .non, .non, .non]) (sl := fun (b147 : Unit) => .val (D.int ((List.length a.1 : Nat) : Int))) rfl (toD_oLL _ _) (fun _ hB148 => (have hB := noRs hB148 hB; (je_cb (fun _ ht => pe_callB call_len_seq (by rfl) T.z_len (by decide +kernel) ht) (ja_p (jp_var 0) ja_nil) cb_lenLm))) (fun (b147 : Unit) => (.cons .f (.cons .k (.cons .k (.cons .k (.cons .f (.cons .f (.cons .f .nil)))))))) (fun (b147 : Unit) => fl_int ((List.length a.1 : Nat) : Int)) (fun _ => rfl)) fun v_place_149 =>
(js_setOQ 5 (oL D.int) (fun (b153 : Unit) => (cut a.2.1 (some a.2.2.1) (some (a.2.2.2 + (1 : Int))))) (fun (b153 : Unit) (v_part_152 : (List Int)) => [.own 1 ((oLL D.int) a.1), .val ((eL D.int) a.2.1), .val (D.int a.2.2.1), .val (D.int a.2.2.2), .val (D.int v_place_149), .own 0 ((oL D.int) v_part_152), .non]) sc_law_put_over.nd (je_slLm (jp_var 1) (fun _ => (jo_some (jp_var 2))) (fun _ => (jo_some (je_op (fun _ _ ha hb => pe_op op_add ha hb) (jp_var 3) jp_int od_add)))) fun b153 v_part_152 =>
(js_cons (ρ1 := fun (n160 : (List (List Int))) => [.own 1 ((oLL D.int) n160), .val ((eL D.int) a.2.1), .val (D.int a.2.2.1), .val (D.int a.2.2.2), .val (D.int v_place_149), .own 0 ((oL D.int) v_part_152), .non]) (js_for (en := D.int) (xs := fun (b158 : Unit) => (rng 0 (((List.length v_part_152 : Nat) : Int) - (1 : Int)))) (s0 := fun (b158 : Unit) => a.1) (fun (s159 : (List (List Int))) => [.own 1 ((oLL D.int) s159), .val ((eL D.int) a.2.1), .val (D.int a.2.2.1), .val (D.int a.2.2.2), .val (D.int v_place_149), .own 0 ((oL D.int) v_part_152), .non]) (fun (x161 : Int) (s159 : (List (List Int))) => [.own 1 ((oLL D.int) s159), .val ((eL D.int) a.2.1), .val (D.int a.2.2.1), .val (D.int a.2.2.2), .val (D.int v_place_149), .own 0 ((oL D.int) v_part_152), .val (D.int x161)]) PassesOwn.never rfl (ji_rng1P (i := (((List.length v_part_152 : Nat) : Int) - (1 : Int))) T.z_range (ja_p (je_op (fun _ _ ha hb => pe_op op_sub ha hb) (je_bor 5 (d := (eL D.int) v_part_152) (ρ1 := fun (b154 : Unit) => [.own 1 ((oLL D.int) a.1), .val ((eL D.int) a.2.1), .val (D.int a.2.2.1), .val (D.int a.2.2.2), .val (D.int v_place_149), .val ((eL D.int) v_part_152), .non]) (ρ2 := fun (b154 : Unit) => [.own 1 ((oLL D.int) a.1), .val ((eL D.int) a.2.1), .val (D.int a.2.2.1), .val (D.int a.2.2.2), .val (D.int v_place_149), .non, .non]) (ρ' := fun (b154 : Unit) => [.own 1 ((oLL D.int) a.1), .val ((eL D.int) a.2.1), .val (D.int a.2.2.1), .val (D.int a.2.2.2), .val (D.int v_place_149), .own 0 ((oL D.int) v_part_152), .non]) (sl := fun (b154 : Unit) => .val (D.int ((List.length v_part_152 : Nat) : Int))) rfl (toD_oL _ _) (fun _ hB155 => (have hB := noRs hB155 hB; (je_cb (fun _ ht => pe_callB call_len_seq (by rfl) T.z_len (by decide +kernel) ht) (ja_p (jp_var 5) ja_nil) cb_lenLm))) (fun (b154 : Unit) => (.cons (.o (fl_oLL fl_int a.1)) (.cons .k (.cons .k (.cons .k (.cons .k (.cons .f (.cons .f .nil)))))))) (fun (b154 : Unit) => fl_int ((List.length v_part_152 : Nat) : Int)) (fun _ => rfl)) jp_int od_sub) ja_nil)) [true, true, true, true, true, true, true] (fun _ => rfl) (fun x161 s159 => (jg_name 6 sc_law_put_over.nd)) (fun x161 s159 =>
(js_consQ1 (fun (b184 : ((Nat × List Int) × ((Int × (List Int)) × Int × Nat) × Unit)) => [.own 1 ((oLL D.int) (List.set s159 b184.1.1 (List.take (Int.toNat (((b184.2.1.2.2 : Nat) : Int) + (1 : Int))) b184.1.2 ++ [v_place_149] ++ List.drop (Int.toNat (((b184.2.1.2.2 : Nat) : Int) + (1 : Int))) b184.1.2))), .val ((eL D.int) a.2.1), .val (D.int a.2.2.1), .val (D.int a.2.2.2), .val (D.int v_place_149), .own 0 ((oL D.int) v_part_152), .val (D.int x161)]) (j1_expr (je_mth 0 (d := (eL (eL D.int)) s159) (m0 := ((R.some (atI v_part_152 x161)).bind fun (b162 : Int) => R.some (rowAt s159 b162))) (path := (fun (j : Nat × List Int) => [j.1])) (m := fun _ => (((R.some (atI v_part_152 x161)).bind fun (y164 : Int) => (R.some (atI s159 y164)).bind fun (z165 : (List Int)) => R.ok (y164, z165)).bind fun (c172 : (Int × (List Int))) => (R.some (atI v_part_152 (x161 + (1 : Int)))).bind fun (b173 : Int) => (R.some (ixOf b173 c172.2)).bind fun (z174 : Nat) => R.ok (c172, b173, z174))) (as := fun (j179 : (Nat × List Int)) (b180 : ((Int × (List Int)) × Int × Nat)) => [D.int (((b180.2.2 : Nat) : Int) + (1 : Int)), D.int v_place_149]) (m2 := fun (j179 : (Nat × List Int)) (b180 : ((Int × (List Int)) × Int × Nat)) => R.guard (List.length j179.2 < sizeLine ∧ 0 ≤ (((b180.2.2 : Nat) : Int) + (1 : Int)) ∧ (((b180.2.2 : Nat) : Int) + (1 : Int)) < 2 ^ 63)) (ds := fun (j179 : (Nat × List Int)) => List.map D.int j179.2) (res := fun _ _ (c181 : Unit) => .none) (ds' := fun (j179 : (Nat × List Int)) (b180 : ((Int × (List Int)) × Int × Nat)) (c181 : Unit) => List.map D.int (List.take (Int.toNat (((b180.2.2 : Nat) : Int) + (1 : Int))) j179.2 ++ [v_place_149] ++ List.drop (Int.toNat (((b180.2.2 : Nat) : Int) + (1 : Int))) j179.2)) (ρ1 := fun _ (b180 : ((Int × (List Int)) × Int × Nat)) => [.val ((eL (eL D.int)) s159), .val ((eL D.int) a.2.1), .val (D.int a.2.2.1), .val (D.int a.2.2.2), .val (D.int v_place_149), .own 0 ((oL D.int) v_part_152), .val (D.int x161)]) (ρ2 := fun _ (b180 : ((Int × (List Int)) × Int × Nat)) => [.non, .val ((eL D.int) a.2.1), .val (D.int a.2.2.1), .val (D.int a.2.2.2), .val (D.int v_place_149), .own 0 ((oL D.int) v_part_152), .val (D.int x161)]) (ρ' := fun (p183 : ((Nat × List Int) × ((Int × (List Int)) × Int × Nat) × Unit)) => [.own 1 ((oLL D.int) (List.set s159 p183.1.1 (List.take (Int.toNat (((p183.2.1.2.2 : Nat) : Int) + (1 : Int))) p183.1.2 ++ [v_place_149] ++ List.drop (Int.toNat (((p183.2.1.2.2 : Nat) : Int) + (1 : Int))) p183.1.2))), .val ((eL D.int) a.2.1), .val (D.int a.2.2.1), .val (D.int a.2.2.2), .val (D.int v_place_149), .own 0 ((oL D.int) v_part_152), .val (D.int x161)]) PySem.F.slot_list_insert PySem.F.type_list_insert mt_insert (jl_ixE 0 (f := D.int) (rows := s159) (k := fun (b162 : Int) => b162) (je_ixO 5 (xs := v_part_152) (en := D.int) (k := x161) rfl (jp_var 6))) rfl (toD_oLL _ _) sub1E (fun _ hB182 j179 => (have hB := noRs hB182 hB; (ja_el (ρa := fun _ => _) (xa := fun (x178 : ((Int × (List Int)) × Int × Nat)) => D.int (((x178.2.2 : Nat) : Int) + (1 : Int))) (je_opL (ρa := fun _ => _) (s := fun (x175 : ((Int × (List Int)) × Int × Nat)) => (.val (D.int (((x175.2.2 : Nat) : Int) + (1 : Int))))) (xa := fun (x175 : ((Int × (List Int)) × Int × Nat)) => D.int ((x175.2.2 : Nat) : Int)) (y := fun (x175 : ((Int × (List Int)) × Int × Nat)) => D.int (1 : Int)) (fun _ _ ha hb => pe_op op_add ha hb) (je_lixE (m0 := ((R.some (atI v_part_152 x161)).bind fun (y164 : Int) => (R.some (atI s159 y164)).bind fun (z165 : (List Int)) => R.ok (y164, z165))) (m := (R.some (atI v_part_152 (x161 + (1 : Int))))) (xs := fun (c172 : (Int × (List Int))) => c172.2) (y := fun (b173 : Int) => b173) (un65 hr) ee_int (je_opRG (ρb := fun _ => _) (s := fun (y164 : Int) (z165 : (List Int)) => (.val ((eL D.int) z165))) (xb := fun (y164 : Int) => D.int y164) (fun _ _ ha hb => pe_ix ix_list ha hb (fun _ _ => rfl)) (jp_var 0) (je_ixO 5 (xs := v_part_152) (en := D.int) (k := x161) rfl (jp_var 6)) (fun y164 => od_ixLm)) (je_ixO 5 (xs := v_part_152) (en := D.int) (k := (x161 + (1 : Int))) rfl (je_op (fun _ _ ha hb => pe_op op_add ha hb) (jp_var 6) jp_int od_add))) (fun x175 => jp_int) (fun x175 => od_add)) (fun x178 => (ja_p (jp_var 4) ja_nil))))) (fun j179 b180 => (fl_cons (fl_int (((b180.2.2 : Nat) : Int) + (1 : Int))) (fl_cons (fl_int v_place_149) fl_nil))) (fun j179 b180 => md_insert) (fun j179 b180 => (.cons .f (.cons .k (.cons .k (.cons .k (.cons .k (.cons (.o (fl_oL fl_int v_part_152)) (.cons .k .nil)))))))) (fun _ _ _ hs => putS1 hs))) fun b184 =>
(js_nil [true, true, true, true, true, true, false] (List.set s159 b184.1.1 (List.take (Int.toNat (((b184.2.1.2.2 : Nat) : Int) + (1 : Int))) b184.1.2 ++ [v_place_149] ++ List.drop (Int.toNat (((b184.2.1.2.2 : Nat) : Int) + (1 : Int))) b184.1.2)))))) fun n160 =>
(js_consQ1 (fun (b198 : ((Nat × List Int) × ((Int × (List Int)) × Int × Nat) × Unit)) => [.own 1 ((oLL D.int) (List.set n160 b198.1.1 (List.take (Int.toNat ((b198.2.1.2.2 : Nat) : Int)) b198.1.2 ++ [v_place_149] ++ List.drop (Int.toNat ((b198.2.1.2.2 : Nat) : Int)) b198.1.2))), .val ((eL D.int) a.2.1), .val (D.int a.2.2.1), .val (D.int a.2.2.2), .val (D.int v_place_149), .own 0 ((oL D.int) v_part_152), .non]) (j1_expr (je_mth 0 (d := (eL (eL D.int)) n160) (m0 := ((R.some (atI v_part_152 (-(1 : Int)))).bind fun (b185 : Int) => R.some (rowAt n160 b185))) (path := (fun (j : Nat × List Int) => [j.1])) (m := fun _ => (((R.some (atI v_part_152 (-(1 : Int)))).bind fun (y187 : Int) => (R.some (atI n160 y187)).bind fun (z188 : (List Int)) => R.ok (y187, z188)).bind fun (c189 : (Int × (List Int))) => (R.some (atI v_part_152 (-(2 : Int)))).bind fun (b190 : Int) => (R.some (ixOf b190 c189.2)).bind fun (z191 : Nat) => R.ok (c189, b190, z191))) (as := fun (j193 : (Nat × List Int)) (b194 : ((Int × (List Int)) × Int × Nat)) => [D.int ((b194.2.2 : Nat) : Int), D.int v_place_149]) (m2 := fun (j193 : (Nat × List Int)) (b194 : ((Int × (List Int)) × Int × Nat)) => R.guard (List.length j193.2 < sizeLine ∧ 0 ≤ ((b194.2.2 : Nat) : Int) ∧ ((b194.2.2 : Nat) : Int) < 2 ^ 63)) (ds := fun (j193 : (Nat × List Int)) => List.map D.int j193.2) (res := fun _ _ (c195 : Unit) => .none) (ds' := fun (j193 : (Nat × List Int)) (b194 : ((Int × (List Int)) × Int × Nat)) (c195 : Unit) => List.map D.int (List.take (Int.toNat ((b194.2.2 : Nat) : Int)) j193.2 ++ [v_place_149] ++ List.drop (Int.toNat ((b194.2.2 : Nat) : Int)) j193.2)) (ρ1 := fun _ (b194 : ((Int × (List Int)) × Int × Nat)) => [.val ((eL (eL D.int)) n160), .val ((eL D.int) a.2.1), .val (D.int a.2.2.1), .val (D.int a.2.2.2), .val (D.int v_place_149), .own 0 ((oL D.int) v_part_152), .non]) (ρ2 := fun _ (b194 : ((Int × (List Int)) × Int × Nat)) => [.non, .val ((eL D.int) a.2.1), .val (D.int a.2.2.1), .val (D.int a.2.2.2), .val (D.int v_place_149), .own 0 ((oL D.int) v_part_152), .non]) (ρ' := fun (p197 : ((Nat × List Int) × ((Int × (List Int)) × Int × Nat) × Unit)) => [.own 1 ((oLL D.int) (List.set n160 p197.1.1 (List.take (Int.toNat ((p197.2.1.2.2 : Nat) : Int)) p197.1.2 ++ [v_place_149] ++ List.drop (Int.toNat ((p197.2.1.2.2 : Nat) : Int)) p197.1.2))), .val ((eL D.int) a.2.1), .val (D.int a.2.2.1), .val (D.int a.2.2.2), .val (D.int v_place_149), .own 0 ((oL D.int) v_part_152), .non]) PySem.F.slot_list_insert PySem.F.type_list_insert mt_insert (jl_ixE 0 (f := D.int) (rows := n160) (k := fun (b185 : Int) => b185) (je_ixO 5 (xs := v_part_152) (en := D.int) (k := (-(1 : Int))) rfl (jp_neg jp_int))) rfl (toD_oLL _ _) sub1E (fun _ hB196 j193 => (have hB := noRs hB196 hB; (ja_el (ρa := fun _ => _) (xa := fun (x192 : ((Int × (List Int)) × Int × Nat)) => D.int ((x192.2.2 : Nat) : Int)) (je_lixE (m0 := ((R.some (atI v_part_152 (-(1 : Int)))).bind fun (y187 : Int) => (R.some (atI n160 y187)).bind fun (z188 : (List Int)) => R.ok (y187, z188))) (m := (R.some (atI v_part_152 (-(2 : Int))))) (xs := fun (c189 : (Int × (List Int))) => c189.2) (y := fun (b190 : Int) => b190) (un65 hr) ee_int (je_opRG (ρb := fun _ => _) (s := fun (y187 : Int) (z188 : (List Int)) => (.val ((eL D.int) z188))) (xb := fun (y187 : Int) => D.int y187) (fun _ _ ha hb => pe_ix ix_list ha hb (fun _ _ => rfl)) (jp_var 0) (je_ixO 5 (xs := v_part_152) (en := D.int) (k := (-(1 : Int))) rfl (jp_neg jp_int)) (fun y187 => od_ixLm)) (je_ixO 5 (xs := v_part_152) (en := D.int) (k := (-(2 : Int))) rfl (jp_neg jp_int))) (fun x192 => (ja_p (jp_var 4) ja_nil))))) (fun j193 b194 => (fl_cons (fl_int ((b194.2.2 : Nat) : Int)) (fl_cons (fl_int v_place_149) fl_nil))) (fun j193 b194 => md_insert) (fun j193 b194 => (.cons .f (.cons .k (.cons .k (.cons .k (.cons .k (.cons (.o (fl_oL fl_int v_part_152)) (.cons .f .nil)))))))) (fun _ _ _ hs => putS1 hs))) fun b198 =>
(js_consQ1 (fun (b200 : Unit) => [.own 1 ((oLL D.int) ((List.set n160 b198.1.1 (List.take (Int.toNat ((b198.2.1.2.2 : Nat) : Int)) b198.1.2 ++ [v_place_149] ++ List.drop (Int.toNat ((b198.2.1.2.2 : Nat) : Int)) b198.1.2)) ++ [v_part_152])), .val ((eL D.int) a.2.1), .val (D.int a.2.2.1), .val (D.int a.2.2.2), .val (D.int v_place_149), .non, .non]) (j1_expr (je_appOL 0 (f := D.int) (y := fun (b199 : Unit) => v_part_152) (ρ' := fun (b199 : Unit) => [.own 1 ((oLL D.int) (List.set n160 b198.1.1 (List.take (Int.toNat ((b198.2.1.2.2 : Nat) : Int)) b198.1.2 ++ [v_place_149] ++ List.drop (Int.toNat ((b198.2.1.2.2 : Nat) : Int)) b198.1.2))), .val ((eL D.int) a.2.1), .val (D.int a.2.2.1), .val (D.int a.2.2.2), .val (D.int v_place_149), .non, .non]) (fun (b199 : Unit) => (List.set n160 b198.1.1 (List.take (Int.toNat ((b198.2.1.2.2 : Nat) : Int)) b198.1.2 ++ [v_place_149] ++ List.drop (Int.toNat ((b198.2.1.2.2 : Nat) : Int)) b198.1.2))) (je_nameO 5))) fun b200 =>
(js_one (js_ret (fun (b213 : (Unit × Unit)) => ((((cut a.2.1 none (some (a.2.2.1 + (1 : Int)))) ++ [v_place_149]) ++ (cut a.2.1 (some a.2.2.2) none)), ((List.set n160 b198.1.1 (List.take (Int.toNat ((b198.2.1.2.2 : Nat) : Int)) b198.1.2 ++ [v_place_149] ++ List.drop (Int.toNat ((b198.2.1.2.2 : Nat) : Int)) b198.1.2)) ++ [v_part_152]))) [true, false, false, false, false, true, true] (je_opLG (ρa := fun _ => _) (s := fun (x209 : Unit) (z212 : Unit) => (.own 0 ((oL D.int) (((cut a.2.1 none (some (a.2.2.1 + (1 : Int)))) ++ [v_place_149]) ++ (cut a.2.1 (some a.2.2.2) none))))) (xa := fun (x209 : Unit) => (eL D.int) ((cut a.2.1 none (some (a.2.2.1 + (1 : Int)))) ++ [v_place_149])) (y := fun (x209 : Unit) => (eL D.int) (cut a.2.1 (some a.2.2.2) none)) (fun _ _ ha hb => pe_op op_catR ha hb) (je_frzL (v := fun (b208 : Unit) => ((cut a.2.1 none (some (a.2.2.1 + (1 : Int)))) ++ [v_place_149])) (je_op (fun _ _ ha hb => pe_op op_catR ha hb) (je_frzL (v := fun (b203 : Unit) => (cut a.2.1 none (some (a.2.2.1 + (1 : Int))))) (je_slLm (jp_var 1) (fun _ => jo_none) (fun _ => (jo_some (je_op (fun _ _ ha hb => pe_op op_add ha hb) (jp_var 2) jp_int od_add))))) (je_frzL (v := fun (b207 : Unit) => [v_place_149]) (je_lstT D.int (fun (b206 : Unit) => ([v_place_149] : List Int)) (ja_p (jp_var 4) ja_nil))) od_catm)) (fun x209 => (je_frzL (v := fun (b211 : Unit) => (cut a.2.1 (some a.2.2.2) none)) (je_slLm (jp_var 1) (fun _ => (jo_some (jp_var 3))) (fun _ => jo_none)))) (fun x209 => od_catm))))))))))
/-! law_rows -/
abbrev s_law_rows : Stmt := topS 40
theorem sc_law_rows : FnScope ["_law_pot_here", "_law_n", "_law_rows_here", "_law_told", "_law_parts", "_law_k", "_law_row", "_law_first", "_law_last"] ["_law_pot_here", "_law_n"] (defScope s_law_rows) := ⟨rfl, rfl, rfl, by decide +kernel, rfl, by decide +kernel, by decide +kernel⟩
noncomputable def mb_law_rows (v_pot_here : (List Int)) (v_n : Int) : R (Fl Unit Unit (((List (List Int)) × (List (List Int)) × (List (List Int))) × (List Int))) :=
(((R.ok ()).bind fun (x87 : Unit) => (((R.ok ()).bind fun (x90 : Unit) => (R.ok ()).bind fun (z91 : Unit) => R.ok (x90, z91))).bind fun (z88 : (Unit × Unit)) => R.ok (x87, z88)).bind fun (b96 : (Unit × (Unit × Unit))) => lt [[(1 : Int)], [(0 : Int)]] fun v_rows_here_95 =>
((R.ok ()).bind fun (b101 : Unit) => lt [[(0 : Int), (1 : Int)]] fun v_told_100 =>
((R.ok ()).bind fun (b103 : Unit) => lt ([] : List (List Int)) fun v_parts_102 =>
(bindF ((R.guard (rngOk (v_n - (2 : Int)))).bind fun (b106 : Unit) => forR (fun (x109 : Int) (s107 : ((List Int) × (List (List Int)) × (List (List Int)) × (List (List Int)))) =>
((R.some (atI s107.2.2.1 (-(1 : Int)))).bind fun (b111 : (List Int)) => lt b111 fun v_row_110 =>
((m_law_digit (s107.1, (((List.length v_row_110 : Nat) : Int) - (1 : Int)))).bind fun (b116 : (Int × (List Int))) => lt b116.1 fun v_first_115 =>
((m_law_digit (b116.2, ((((List.length v_row_110 : Nat) : Int) - (1 : Int)) - v_first_115))).bind fun (b128 : (Int × (List Int))) => lt ((v_first_115 + (1 : Int)) + b128.1) fun v_last_127 =>
(bindF (if (decide (x109 = (v_n - (3 : Int)))) = true then (R.ok (.nx ((0 : Int), (((List.length v_row_110 : Nat) : Int) - (1 : Int))))) else (R.ok (.nx (v_first_115, v_last_127)))) fun n140 =>
(((R.ok ()).bind fun (b141 : Unit) => (R.guard (List.length s107.2.2.2 < sizeLine)).bind fun _ => R.ok b141).bind fun (b145 : Unit) =>
(((m_law_put_over (s107.2.1, v_row_110, n140.1, n140.2)).bind fun (b146 : ((List Int) × (List (List Int)))) => (R.guard (List.length s107.2.2.1 < sizeLine)).bind fun _ => R.ok b146).bind fun (b216 : ((List Int) × (List (List Int)))) =>
(R.ok (.nx (b128.2, b216.2, (s107.2.2.1 ++ [b216.1]), (s107.2.2.2 ++ [(cut v_row_110 (some n140.1) (some (n140.2 + (1 : Int))))]))))))))))) (rng 0 (v_n - (2 : Int))) (v_pot_here, v_rows_here_95, v_told_100, v_parts_102)) fun n108 =>
(R.ok (.rt ((n108.2.1, n108.2.2.1, n108.2.2.2), n108.1)))))))
noncomputable def m_law_rows (a : ((List Int) × Int)) : R (((List (List Int)) × (List (List Int)) × (List (List Int))) × (List Int)) := fin0 (mb_law_rows a.1 a.2)
abbrev i_law_rows (a : ((List Int) × Int)) : List Slot := [.own 1 ((oL D.int) a.1), .val (D.int a.2)]
abbrev l_law_rows (b : (((List (List Int)) × (List (List Int)) × (List (List Int))) × (List Int))) : Slot := .val ((eP3 (eL (eL D.int)) (eL (eL D.int)) (eL (eL D.int))) b.1)
abbrev o_law_rows (b : (((List (List Int)) × (List (List Int)) × (List (List Int))) × (List Int))) : List Slot := [.own 1 ((oL D.int) b.2), .non]
theorem ok_law_rows {P : Program} {w : World} {K : PySem.W.Frag} {mg : Str → Option Value} {base : Heap} (T : Top K mg) : FnG P w K mg base CX0 2 T.law_rows.a T.law_rows.d ["_law_pot_here", "_law_n"] (spM K i_law_rows m_law_rows l_law_rows o_law_rows) := by
  show FnG P w K mg base CX0 (1 + 1) T.law_rows.a T.law_rows.d ["_law_pot_here", "_law_n"] (spM K i_law_rows (fun (a : ((List Int) × Int)) => fin0 (mb_law_rows a.1 a.2)) l_law_rows o_law_rows)
  refine fn_ok (n1 := fun _ => []) (c1 := fun _ => []) (k1 := fun _ => []) (ins := i_law_rows) (sl := l_law_rows) (outs := o_law_rows) (fun (a : ((List Int) × Int)) => mb_law_rows a.1 a.2) 7 T.law_rows.f sc_law_rows rfl (fun _ => rfl) (fun _ => rfl) (fun _ => rfl) (fun cdv A outer s H E hr B hB a => ?_)
  show JSs _ B _ _ (mb_law_rows a.1 a.2) _
  unfold mb_law_rows
  exact ((js_setOQ 2 (oLL D.int) (fun (b96 : (Unit × (Unit × Unit))) => [[(1 : Int)], [(0 : Int)]]) (fun (b96 : (Unit × (Unit × Unit))) (v_rows_here_95 : (List (List Int))) => [.own 1 ((oL D.int) a.1), .val (D.int a.2), .own 0 ((oLL D.int) v_rows_here_95), .non, .non, .non, .non, .non, .non]) sc_law_rows.nd (je_lstO (os := fun (b94 : (Unit × (Unit × Unit))) => List.map (oL D.int) ([[(1 : Int)], [(0 : Int)]] : List (List Int))) (jao_cons (xo := fun (x87 : Unit) => (oL D.int) [(1 : Int)]) (ρa := fun _ => _) (ρ' := fun _ _ => _) (je_lstT D.int (fun (b86 : Unit) => ([(1 : Int)] : List Int)) (ja_p jp_int ja_nil)) (fun _ hB93 x87 => (have hB := noRs hB93 hB; (jao_cons (xo := fun (x90 : Unit) => (oL D.int) [(0 : Int)]) (ρa := fun _ => _) (ρ' := fun _ _ => _) (je_lstT D.int (fun (b89 : Unit) => ([(0 : Int)] : List Int)) (ja_p jp_int ja_nil)) (fun _ hB92 x90 => (have hB := noRs hB92 hB; jao_nil))))))) fun b96 v_rows_here_95 =>
(js_setOQ 3 (oL (eL D.int)) (fun (b101 : Unit) => [[(0 : Int), (1 : Int)]]) (fun (b101 : Unit) (v_told_100 : (List (List Int))) => [.own 1 ((oL D.int) a.1), .val (D.int a.2), .own 0 ((oLL D.int) v_rows_here_95), .own 0 ((oL (eL D.int)) v_told_100), .non, .non, .non, .non, .non]) sc_law_rows.nd (je_lstT (eL D.int) (fun (b99 : Unit) => ([[(0 : Int), (1 : Int)]] : List (List Int))) (ja_p (je_frzL (v := fun (b98 : Unit) => [(0 : Int), (1 : Int)]) (je_lstT D.int (fun (b97 : Unit) => ([(0 : Int), (1 : Int)] : List Int)) (ja_p jp_int (ja_p jp_int ja_nil)))) ja_nil)) fun b101 v_told_100 =>
(js_setOQ 4 (oL (eL D.int)) (fun (b103 : Unit) => ([] : List (List Int))) (fun (b103 : Unit) (v_parts_102 : (List (List Int))) => [.own 1 ((oL D.int) a.1), .val (D.int a.2), .own 0 ((oLL D.int) v_rows_here_95), .own 0 ((oL (eL D.int)) v_told_100), .own 0 ((oL (eL D.int)) v_parts_102), .non, .non, .non, .non]) sc_law_rows.nd (je_lstT (eL D.int) (fun (_ : Unit) => ([] : List (List Int))) ja_nil) fun b103 v_parts_102 =>
(js_cons (ρ1 := fun (n108 : ((List Int) × (List (List Int)) × (List (List Int)) × (List (List Int)))) => [.own 1 ((oL D.int) n108.1), .val (D.int a.2), .own 0 ((oLL D.int) n108.2.1), .own 0 ((oL (eL D.int)) n108.2.2.1), .own 0 ((oL (eL D.int)) n108.2.2.2), .non, .non, .non, .non]) (js_for (en := D.int) (xs := fun (b106 : Unit) => (rng 0 (a.2 - (2 : Int)))) (s0 := fun (b106 : Unit) => (a.1, v_rows_here_95, v_told_100, v_parts_102)) (fun (s107 : ((List Int) × (List (List Int)) × (List (List Int)) × (List (List Int)))) => [.own 1 ((oL D.int) s107.1), .val (D.int a.2), .own 0 ((oLL D.int) s107.2.1), .own 0 ((oL (eL D.int)) s107.2.2.1), .own 0 ((oL (eL D.int)) s107.2.2.2), .non, .non, .non, .non]) (fun (x109 : Int) (s107 : ((List Int) × (List (List Int)) × (List (List Int)) × (List (List Int)))) => [.own 1 ((oL D.int) s107.1), .val (D.int a.2), .own 0 ((oLL D.int) s107.2.1), .own 0 ((oL (eL D.int)) s107.2.2.1), .own 0 ((oL (eL D.int)) s107.2.2.2), .val (D.int x109), .non, .non, .non]) PassesOwn.never rfl (ji_rng1P (i := (a.2 - (2 : Int))) T.z_range (ja_p (je_op (fun _ _ ha hb => pe_op op_sub ha hb) (jp_var 1) jp_int od_sub) ja_nil)) [true, true, true, true, true, true, true, true, true] (fun _ => rfl) (fun x109 s107 => (jg_name 5 sc_law_rows.nd)) (fun x109 s107 =>
(js_setEQ 6 (eL D.int) (fun (b111 : (List Int)) => b111) (fun (b111 : (List Int)) (v_row_110 : (List Int)) => [.own 1 ((oL D.int) s107.1), .val (D.int a.2), .own 0 ((oLL D.int) s107.2.1), .own 0 ((oL (eL D.int)) s107.2.2.1), .own 0 ((oL (eL D.int)) s107.2.2.2), .val (D.int x109), .val ((eL D.int) v_row_110), .non, .non]) sc_law_rows.nd (je_ixO 3 (xs := s107.2.2.1) (en := (eL D.int)) (k := (-(1 : Int))) rfl (jp_neg jp_int)) fun b111 v_row_110 =>
(js_setEQ 7 D.int (fun (b116 : (Int × (List Int))) => b116.1) (fun (b116 : (Int × (List Int))) (v_first_115 : Int) => [.own 1 ((oL D.int) b116.2), .val (D.int a.2), .own 0 ((oLL D.int) s107.2.1), .own 0 ((oL (eL D.int)) s107.2.2.1), .own 0 ((oL (eL D.int)) s107.2.2.2), .val (D.int x109), .val ((eL D.int) v_row_110), .val (D.int v_first_115), .non]) sc_law_rows.nd (je_callQ (ins := i_law_digit) (mf := m_law_digit) (sl := l_law_digit) (outs := o_law_digit) (ok_law_digit T) (hr.mono (by decide)) (by rfl) T.law_digit.g T.law_digit.f.kp T.law_digit.b pass0 (arg := (s107.1, (((List.length v_row_110 : Nat) : Int) - (1 : Int)))) (fun (b114 : (Int × (List Int))) => [.own 1 ((oL D.int) b114.2), .val (D.int a.2), .own 0 ((oLL D.int) s107.2.1), .own 0 ((oL (eL D.int)) s107.2.2.1), .own 0 ((oL (eL D.int)) s107.2.2.2), .val (D.int x109), .val ((eL D.int) v_row_110), .non, .non]) (ja_s 0 (ja_p (je_op (fun _ _ ha hb => pe_op op_sub ha hb) (je_cb (fun _ ht => pe_callB call_len_seq (by rfl) T.z_len (by decide +kernel) ht) (ja_p (jp_var 6) ja_nil) cb_lenLm) jp_int od_sub) ja_nil)) hB) fun b116 v_first_115 =>
(js_setEQ 8 D.int (fun (b128 : (Int × (List Int))) => ((v_first_115 + (1 : Int)) + b128.1)) (fun (b128 : (Int × (List Int))) (v_last_127 : Int) => [.own 1 ((oL D.int) b128.2), .val (D.int a.2), .own 0 ((oLL D.int) s107.2.1), .own 0 ((oL (eL D.int)) s107.2.2.1), .own 0 ((oL (eL D.int)) s107.2.2.2), .val (D.int x109), .val ((eL D.int) v_row_110), .val (D.int v_first_115), .val (D.int v_last_127)]) sc_law_rows.nd (je_opR (s := fun (y120 : (Int × (List Int))) => (.val (D.int ((v_first_115 + (1 : Int)) + y120.1)))) (xb := fun (y120 : (Int × (List Int))) => D.int y120.1) (fun _ _ ha hb => pe_op op_add ha hb) (je_op (fun _ _ ha hb => pe_op op_add ha hb) (jp_var 7) jp_int od_add) (je_callQ (ins := i_law_digit) (mf := m_law_digit) (sl := l_law_digit) (outs := o_law_digit) (ok_law_digit T) (hr.mono (by decide)) (by rfl) T.law_digit.g T.law_digit.f.kp T.law_digit.b pass0 (arg := (b116.2, ((((List.length v_row_110 : Nat) : Int) - (1 : Int)) - v_first_115))) (fun (b125 : (Int × (List Int))) => [.own 1 ((oL D.int) b125.2), .val (D.int a.2), .own 0 ((oLL D.int) s107.2.1), .own 0 ((oL (eL D.int)) s107.2.2.1), .own 0 ((oL (eL D.int)) s107.2.2.2), .val (D.int x109), .val ((eL D.int) v_row_110), .val (D.int v_first_115), .non]) (ja_s 0 (ja_p (je_op (fun _ _ ha hb => pe_op op_sub ha hb) (je_op (fun _ _ ha hb => pe_op op_sub ha hb) (je_cb (fun _ ht => pe_callB call_len_seq (by rfl) T.z_len (by decide +kernel) ht) (ja_p (jp_var 6) ja_nil) cb_lenLm) jp_int od_sub) (jp_var 7) od_sub) ja_nil)) hB) (fun y120 => od_add)) fun b128 v_last_127 =>
(js_cons (ρ1 := fun (n140 : (Int × Int)) => [.own 1 ((oL D.int) b128.2), .val (D.int a.2), .own 0 ((oLL D.int) s107.2.1), .own 0 ((oL (eL D.int)) s107.2.2.1), .own 0 ((oL (eL D.int)) s107.2.2.2), .val (D.int x109), .val ((eL D.int) v_row_110), .val (D.int n140.1), .val (D.int n140.2)]) (js_ifP (jt_op (fun _ _ ha hb => pt_cmpR op_eq ha hb (nomark _)) (jp_var 5) (je_op (fun _ _ ha hb => pe_op op_sub ha hb) (jp_var 1) jp_int od_sub) od_eqI) (js_consQP [.own 1 ((oL D.int) b128.2), .val (D.int a.2), .own 0 ((oLL D.int) s107.2.1), .own 0 ((oL (eL D.int)) s107.2.2.1), .own 0 ((oL (eL D.int)) s107.2.2.2), .val (D.int x109), .val ((eL D.int) v_row_110), .val (D.int (0 : Int)), .val (D.int (((List.length v_row_110 : Nat) : Int) - (1 : Int)))] (j1_par 7 8 (d1 := fun (b139 : Unit) => D.int (0 : Int)) (d2 := fun (b139 : Unit) => D.int (((List.length v_row_110 : Nat) : Int) - (1 : Int))) rfl sc_law_rows.nd (ja_p jp_int (ja_p (je_op (fun _ _ ha hb => pe_op op_sub ha hb) (je_cb (fun _ ht => pe_callB call_len_seq (by rfl) T.z_len (by decide +kernel) ht) (ja_p (jp_var 6) ja_nil) cb_lenLm) jp_int od_sub) ja_nil)))
(js_nil [true, true, true, true, true, true, true, true, true] ((0 : Int), (((List.length v_row_110 : Nat) : Int) - (1 : Int))))) (js_nil [true, true, true, true, true, true, true, true, true] (v_first_115, v_last_127))) fun n140 =>
(js_consQ1 (fun (b145 : Unit) => [.own 1 ((oL D.int) b128.2), .val (D.int a.2), .own 0 ((oLL D.int) s107.2.1), .own 0 ((oL (eL D.int)) s107.2.2.1), .own 0 ((oL (eL D.int)) (s107.2.2.2 ++ [(cut v_row_110 (some n140.1) (some (n140.2 + (1 : Int))))])), .val (D.int x109), .val ((eL D.int) v_row_110), .val (D.int n140.1), .val (D.int n140.2)]) (j1_expr (je_app 4 (f := (eL D.int)) (y := fun (b141 : Unit) => (cut v_row_110 (some n140.1) (some (n140.2 + (1 : Int))))) (ρ' := fun (b141 : Unit) => [.own 1 ((oL D.int) b128.2), .val (D.int a.2), .own 0 ((oLL D.int) s107.2.1), .own 0 ((oL (eL D.int)) s107.2.2.1), .own 0 ((oL (eL D.int)) s107.2.2.2), .val (D.int x109), .val ((eL D.int) v_row_110), .val (D.int n140.1), .val (D.int n140.2)]) (fun (b141 : Unit) => s107.2.2.2) (je_frzL (v := fun (b144 : Unit) => (cut v_row_110 (some n140.1) (some (n140.2 + (1 : Int))))) (je_slLm (jp_var 6) (fun _ => (jo_some (jp_var 7))) (fun _ => (jo_some (je_op (fun _ _ ha hb => pe_op op_add ha hb) (jp_var 8) jp_int od_add))))))) fun b145 =>
(js_consQ1 (fun (b216 : ((List Int) × (List (List Int)))) => [.own 1 ((oL D.int) b128.2), .val (D.int a.2), .own 0 ((oLL D.int) b216.2), .own 0 ((oL (eL D.int)) (s107.2.2.1 ++ [b216.1])), .own 0 ((oL (eL D.int)) (s107.2.2.2 ++ [(cut v_row_110 (some n140.1) (some (n140.2 + (1 : Int))))])), .val (D.int x109), .val ((eL D.int) v_row_110), .val (D.int n140.1), .val (D.int n140.2)]) (j1_expr (je_app 3 (f := (eL D.int)) (y := fun (b146 : ((List Int) × (List (List Int)))) => b146.1) (ρ' := fun (b146 : ((List Int) × (List (List Int)))) => [.own 1 ((oL D.int) b128.2), .val (D.int a.2), .own 0 ((oLL D.int) b146.2), .own 0 ((oL (eL D.int)) s107.2.2.1), .own 0 ((oL (eL D.int)) (s107.2.2.2 ++ [(cut v_row_110 (some n140.1) (some (n140.2 + (1 : Int))))])), .val (D.int x109), .val ((eL D.int) v_row_110), .val (D.int n140.1), .val (D.int n140.2)]) (fun (b146 : ((List Int) × (List (List Int)))) => s107.2.2.1) (je_frzL (v := fun (b215 : ((List Int) × (List (List Int)))) => b215.1) (je_callQ (ins := i_law_put_over) (mf := m_law_put_over) (sl := l_law_put_over) (outs := o_law_put_over) (ok_law_put_over T) (hr.mono (by decide)) (by rfl) T.law_put_over.g T.law_put_over.f.kp T.law_put_over.b pass0 (arg := (s107.2.1, v_row_110, n140.1, n140.2)) (fun (b214 : ((List Int) × (List (List Int)))) => [.own 1 ((oL D.int) b128.2), .val (D.int a.2), .own 0 ((oLL D.int) b214.2), .own 0 ((oL (eL D.int)) s107.2.2.1), .own 0 ((oL (eL D.int)) (s107.2.2.2 ++ [(cut v_row_110 (some n140.1) (some (n140.2 + (1 : Int))))])), .val (D.int x109), .val ((eL D.int) v_row_110), .val (D.int n140.1), .val (D.int n140.2)]) (ja_s 2 (ja_p (jp_var 6) (ja_p (jp_var 7) (ja_p (jp_var 8) ja_nil)))) hB)))) fun b216 =>
(js_nil [true, true, true, true, true, false, false, false, false] (b128.2, b216.2, (s107.2.2.1 ++ [b216.1]), (s107.2.2.2 ++ [(cut v_row_110 (some n140.1) (some (n140.2 + (1 : Int))))]))))))))))) fun n108 =>
(js_frz 2 rfl (toD_oLL _ _) (js_frz 3 rfl (toD_oL _ _) (js_frz 4 rfl (toD_oL _ _) (js_one (js_retP ((n108.2.1, n108.2.2.1, n108.2.2.2), n108.1) [true, false, false, false, false, true, true, true, true] (je_tup (ja_p (jp_var 2) (ja_p (jp_var 3) (ja_p (jp_var 4) ja_nil))))))))))))))
/-! law_names -/
abbrev s_law_names : Stmt := topS 41
theorem sc_law_names : FnScope ["_law_pot_here", "_law_n", "_law_found", "_law_k"] ["_law_pot_here", "_law_n"] (defScope s_law_names) := ⟨rfl, rfl, rfl, by decide +kernel, rfl, by decide +kernel, by decide +kernel⟩
noncomputable def mb_law_names (v_pot_here : (List Int)) (v_n : Int) : R (Fl Unit Unit ((List Int) × (List Int))) :=
((R.ok ()).bind fun (b220 : Unit) => lt ([] : List Int) fun v_found_219 =>
(bindF ((R.guard (rngOk v_n)).bind fun (b221 : Unit) => forR (fun (x224 : Int) (s222 : ((List Int) × (List Int))) =>
(((R.ok ()).bind fun (j229 : Unit) => ((m_law_digit (s222.1, (x224 + (1 : Int))))).bind fun (b230 : (Int × (List Int))) => (R.guard (List.length s222.2 < sizeLine ∧ 0 ≤ b230.1 ∧ b230.1 < 2 ^ 63)).bind fun (c231 : Unit) => R.ok (j229, b230, c231)).bind fun (b234 : (Unit × (Int × (List Int)) × Unit)) =>
(R.ok (.nx (b234.2.1.2, (List.take (Int.toNat b234.2.1.1) s222.2 ++ [x224] ++ List.drop (Int.toNat b234.2.1.1) s222.2)))))) (rng 0 v_n) (v_pot_here, v_found_219)) fun n223 =>
((R.ok ()).bind fun (b235 : Unit) => R.ok (.rt (n223.2, n223.1)))))
noncomputable def m_law_names (a : ((List Int) × Int)) : R ((List Int) × (List Int)) := fin0 (mb_law_names a.1 a.2)
abbrev i_law_names (a : ((List Int) × Int)) : List Slot := [.own 1 ((oL D.int) a.1), .val (D.int a.2)]
abbrev l_law_names (b : ((List Int) × (List Int))) : Slot := .own 0 ((oL D.int) b.1)
abbrev o_law_names (b : ((List Int) × (List Int))) : List Slot := [.own 1 ((oL D.int) b.2), .non]
theorem ok_law_names {P : Program} {w : World} {K : PySem.W.Frag} {mg : Str → Option Value} {base : Heap} (T : Top K mg) : FnG P w K mg base CX0 2 T.law_names.a T.law_names.d ["_law_pot_here", "_law_n"] (spM K i_law_names m_law_names l_law_names o_law_names) := by
  show FnG P w K mg base CX0 (1 + 1) T.law_names.a T.law_names.d ["_law_pot_here", "_law_n"] (spM K i_law_names (fun (a : ((List Int) × Int)) => fin0 (mb_law_names a.1 a.2)) l_law_names o_law_names)
  refine fn_ok (n1 := fun _ => []) (c1 := fun _ => []) (k1 := fun _ => []) (ins := i_law_names) (sl := l_law_names) (outs := o_law_names) (fun (a : ((List Int) × Int)) => mb_law_names a.1 a.2) 2 T.law_names.f sc_law_names rfl (fun _ => rfl) (fun _ => rfl) (fun _ => rfl) (fun cdv A outer s H E hr B hB a => ?_)
  show JSs _ B _ _ (mb_law_names a.1 a.2) _
  unfold mb_law_names
  exact ((js_setOQ 2 (oL D.int) (fun (b220 : Unit) => ([] : List Int)) (fun (b220 : Unit) (v_found_219 : (List Int)) => [.own 1 ((oL D.int) a.1), .val (D.int a.2), .own 0 ((oL D.int) v_found_219), .non]) sc_law_names.nd (je_lstT D.int (fun (_ : Unit) => ([] : List Int)) ja_nil) fun b220 v_found_219 =>
(js_cons (ρ1 := fun (n223 : ((List Int) × (List Int))) => [.own 1 ((oL D.int) n223.1), .val (D.int a.2), .own 0 ((oL D.int) n223.2), .non]) (js_for (en := D.int) (xs := fun (b221 : Unit) => (rng 0 a.2)) (s0 := fun (b221 : Unit) => (a.1, v_found_219)) (fun (s222 : ((List Int) × (List Int))) => [.own 1 ((oL D.int) s222.1), .val (D.int a.2), .own 0 ((oL D.int) s222.2), .non]) (fun (x224 : Int) (s222 : ((List Int) × (List Int))) => [.own 1 ((oL D.int) s222.1), .val (D.int a.2), .own 0 ((oL D.int) s222.2), .val (D.int x224)]) PassesOwn.never rfl (ji_rng1P (i := a.2) T.z_range (ja_p (jp_var 1) ja_nil)) [true, true, true, true] (fun _ => rfl) (fun x224 s222 => (jg_name 3 sc_law_names.nd)) (fun x224 s222 =>
(js_consQ1 (fun (b234 : (Unit × (Int × (List Int)) × Unit)) => [.own 1 ((oL D.int) b234.2.1.2), .val (D.int a.2), .own 0 ((oL D.int) (List.take (Int.toNat b234.2.1.1) s222.2 ++ [x224] ++ List.drop (Int.toNat b234.2.1.1) s222.2)), .val (D.int x224)]) (j1_expr (je_mth 2 (d := (eL D.int) s222.2) (m0 := (R.ok ())) (path := (fun _ => [])) (m := fun _ => (m_law_digit (s222.1, (x224 + (1 : Int))))) (as := fun (j229 : Unit) (b230 : (Int × (List Int))) => [D.int b230.1, D.int x224]) (m2 := fun (j229 : Unit) (b230 : (Int × (List Int))) => R.guard (List.length s222.2 < sizeLine ∧ 0 ≤ b230.1 ∧ b230.1 < 2 ^ 63)) (ds := fun (j229 : Unit) => List.map D.int s222.2) (res := fun _ _ (c231 : Unit) => .none) (ds' := fun (j229 : Unit) (b230 : (Int × (List Int))) (c231 : Unit) => List.map D.int (List.take (Int.toNat b230.1) s222.2 ++ [x224] ++ List.drop (Int.toNat b230.1) s222.2)) (ρ1 := fun _ (b230 : (Int × (List Int))) => [.own 1 ((oL D.int) b230.2), .val (D.int a.2), .val ((eL D.int) s222.2), .val (D.int x224)]) (ρ2 := fun _ (b230 : (Int × (List Int))) => [.own 1 ((oL D.int) b230.2), .val (D.int a.2), .non, .val (D.int x224)]) (ρ' := fun (p233 : (Unit × (Int × (List Int)) × Unit)) => [.own 1 ((oL D.int) p233.2.1.2), .val (D.int a.2), .own 0 ((oL D.int) (List.take (Int.toNat p233.2.1.1) s222.2 ++ [x224] ++ List.drop (Int.toNat p233.2.1.1) s222.2)), .val (D.int x224)]) PySem.F.slot_list_insert PySem.F.type_list_insert mt_insert (jl_name 2) rfl (toD_oL _ _) sub0 (fun _ hB232 j229 => (have hB := noRs hB232 hB; (ja_el (xa := fun (x228 : (Int × (List Int))) => D.int x228.1) (je_callQ (ins := i_law_digit) (mf := m_law_digit) (sl := l_law_digit) (outs := o_law_digit) (ok_law_digit T) (hr.mono (by decide)) (by rfl) T.law_digit.g T.law_digit.f.kp T.law_digit.b pass0 (arg := (s222.1, (x224 + (1 : Int)))) (fun (b227 : (Int × (List Int))) => [.own 1 ((oL D.int) b227.2), .val (D.int a.2), .val ((eL D.int) s222.2), .val (D.int x224)]) (ja_s 0 (ja_p (je_op (fun _ _ ha hb => pe_op op_add ha hb) (jp_var 3) jp_int od_add) ja_nil)) hB) (fun x228 => (ja_p (jp_var 3) ja_nil))))) (fun j229 b230 => (fl_cons (fl_int b230.1) (fl_cons (fl_int x224) fl_nil))) (fun j229 b230 => md_insert) (fun j229 b230 => (.cons (.o (fl_oL fl_int b230.2)) (.cons .k (.cons .f (.cons .k .nil))))) (fun _ _ _ _ => putS0))) fun b234 =>
(js_nil [true, true, true, false] (b234.2.1.2, (List.take (Int.toNat b234.2.1.1) s222.2 ++ [x224] ++ List.drop (Int.toNat b234.2.1.1) s222.2)))))) fun n223 =>
(js_one (js_ret (fun (b235 : Unit) => (n223.2, n223.1)) [true, false, true, true] (je_nameO 2))))))
/-! law_web -/
abbrev s_law_web : Stmt := topS 42
theorem sc_law_web : FnScope ["_law_rows_here", "_law_names_here", "_law_found", "_law_p", "_law_row", "_law_renewed", "_law_k", "_law_q"] ["_law_rows_here", "_law_names_here"] (defScope s_law_web) := ⟨rfl, rfl, rfl, by decide +kernel, rfl, by decide +kernel, by decide +kernel⟩
noncomputable def mb_law_web (v_rows_here : (List (List Int))) (v_names_here : (List Int)) : R (Fl Unit Unit (List (List Int))) :=
(((R.ok ()).bind fun (x241 : Unit) => (R.ok ()).bind fun (y242 : Unit) => (R.guard (-(2 ^ 63) ≤ ((List.length v_rows_here : Nat) : Int) ∧ ((List.length v_rows_here : Nat) : Int) < 2 ^ 63 ∧ List.length [([] : List Int)] * Int.toNat ((List.length v_rows_here : Nat) : Int) ≤ sizeLine)).bind fun _ => R.ok (x241, y242)).bind fun (b245 : (Unit × Unit)) => lt (repL [([] : List Int)] ((List.length v_rows_here : Nat) : Int)) fun v_found_244 =>
(bindF (forR (fun (x250 : (Int × (List Int))) (s248 : (List (List Int))) =>
(((R.ok ()).bind fun (b251 : Unit) => (R.guard (List.length x250.2 ≤ sizeLine)).bind fun _ => compR (compF (fun (x253 : Int) (s252 : Unit) => R.ok ()) (fun (z258 : Unit) => true) (fun (x253 : Int) (s252 : Unit) => ((R.some (atI v_names_here x253)).bind fun (y257 : Int) => R.ok (y257, ()))) Prod.fst Prod.snd) x250.2 [] ()).bind fun (b260 : ((List Int) × Unit)) => lt b260.1 fun v_renewed_261 =>
(((R.guard (v_renewed_261 ≠ [])).bind fun (b262 : Unit) => (R.some (ixOf (minL v_renewed_261) v_renewed_261)).bind fun (z263 : Nat) => R.ok (b262, z263)).bind fun (b265 : (Unit × Nat)) => lt ((b265.2 : Nat) : Int) fun v_k_264 =>
(((R.guard (List.length (cut v_renewed_261 (some v_k_264) none) + List.length (cut v_renewed_261 none (some v_k_264)) ≤ sizeLine)).bind fun (b279 : Unit) => ((R.some (atI v_names_here x250.1)).bind fun (b283 : Int) => R.some (ixN (List.length s248) b283)).bind fun (j282 : Nat) => R.ok (b279, j282)).bind fun (p284 : Unit × Nat) =>
(R.ok (.nx (List.set s248 p284.2 ((cut v_renewed_261 (some v_k_264) none) ++ (cut v_renewed_261 none (some v_k_264)))))))))) (enumL v_rows_here) v_found_244) fun n249 =>
(R.ok (.rt n249))))
noncomputable def m_law_web (a : ((List (List Int)) × (List Int))) : R (List (List Int)) := fin0 (mb_law_web a.1 a.2)
abbrev i_law_web (a : ((List (List Int)) × (List Int))) : List Slot := [.val ((eL (eL D.int)) a.1), .val ((eL D.int) a.2)]
abbrev l_law_web (b : (List (List Int))) : Slot := .val ((eT (eR D.int)) b)
abbrev o_law_web (b : (List (List Int))) : List Slot := [.non, .non]
theorem ok_law_web {P : Program} {w : World} {K : PySem.W.Frag} {mg : Str → Option Value} {base : Heap} (T : Top K mg) : FnG P w K mg base CX0 1 T.law_web.a T.law_web.d ["_law_rows_here", "_law_names_here"] (spM K i_law_web m_law_web l_law_web o_law_web) := by
  show FnG P w K mg base CX0 (0 + 1) T.law_web.a T.law_web.d ["_law_rows_here", "_law_names_here"] (spM K i_law_web (fun (a : ((List (List Int)) × (List Int))) => fin0 (mb_law_web a.1 a.2)) l_law_web o_law_web)
  refine fn_ok (n1 := fun _ => []) (c1 := fun _ => []) (k1 := fun _ => []) (ins := i_law_web) (sl := l_law_web) (outs := o_law_web) (fun (a : ((List (List Int)) × (List Int))) => mb_law_web a.1 a.2) 6 T.law_web.f sc_law_web rfl (fun _ => rfl) (fun _ => rfl) (fun _ => rfl) (fun cdv A outer s H E hr B hB a => ?_)
  show JSs _ B _ _ (mb_law_web a.1 a.2) _
  unfold mb_law_web
  exact ((js_setOQ 2 (oL (eR D.int)) (fun (b245 : (Unit × Unit)) => (repL [([] : List Int)] ((List.length a.1 : Nat) : Int))) (fun (b245 : (Unit × Unit)) (v_found_244 : (List (List Int))) => [.val ((eL (eL D.int)) a.1), .val ((eL D.int) a.2), .own 0 ((oL (eR D.int)) v_found_244), .non, .non, .non, .non, .non]) sc_law_web.nd (je_rep (f := (eR D.int)) (xs := fun (x241 : Unit) => [([] : List Int)]) (k := fun (x241 : Unit) (y242 : Unit) => ((List.length a.1 : Nat) : Int)) (ρa := fun _ => _) (ρ' := fun _ _ => _) (je_lstT (eR D.int) (fun (b240 : Unit) => ([([] : List Int)] : List (List Int))) (ja_p (je_nilR (f := D.int)) ja_nil)) (fun _ hB243 x241 => (have hB := noRs hB243 hB; (je_cb (fun _ ht => pe_callB call_len_seq (by rfl) T.z_len (by decide +kernel) ht) (ja_p (jp_var 0) ja_nil) cb_lenLm)))) fun b245 v_found_244 =>
(js_cons (ρ1 := fun (n249 : (List (List Int))) => [.val ((eL (eL D.int)) a.1), .val ((eL D.int) a.2), .own 0 ((oL (eR D.int)) n249), .non, .non, .non, .non, .non]) (js_forP (en := (eP2 D.int (eL D.int))) (fun (s248 : (List (List Int))) => [.val ((eL (eL D.int)) a.1), .val ((eL D.int) a.2), .own 0 ((oL (eR D.int)) s248), .non, .non, .non, .non, .non]) (fun (x250 : (Int × (List Int))) (s248 : (List (List Int))) => [.val ((eL (eL D.int)) a.1), .val ((eL D.int) a.2), .own 0 ((oL (eR D.int)) s248), .val (D.int x250.1), .val ((eL D.int) x250.2), .non, .non, .non]) PassesOwn.never rfl (ji_enum (f := (eL D.int)) (xs := fun (b246 : Unit) => a.1) (by rfl) T.z_enumerate (jp_var 0)) [true, true, true, true, true, true, true, true] rfl (fun x250 s248 => (jg_tup rfl (jgs_p (jg_name 3 sc_law_web.nd) (jgs_p (jg_name 4 sc_law_web.nd) jgs_nil)))) (fun x250 s248 =>
(js_cons1 (j1_setLc 5 (xs := fun (b251 : Unit) => x250.2) (ea := D.int) (ts := [7]) (c := fun (x253 : Int) (s252 : Unit) => R.ok ()) (bn := fun (z258 : Unit) => true) (me := fun (x253 : Int) (s252 : Unit) => ((R.some (atI a.2 x253)).bind fun (y257 : Int) => R.ok (y257, ()))) [("_law_q", 7)] D.int (fun (s252 : Unit) => [.val ((eL (eL D.int)) a.1), .val ((eL D.int) a.2), .own 0 ((oL (eR D.int)) s248), .val (D.int x250.1), .val ((eL D.int) x250.2), .non, .non, .non]) (fun (b251 : Unit) => ()) (fun (x253 : Int) (s252 : Unit) => [.val ((eL (eL D.int)) a.1), .val ((eL D.int) a.2), .own 0 ((oL (eR D.int)) s248), .val (D.int x250.1), .val ((eL D.int) x250.2), .non, .non, .val (D.int x253)]) Prod.fst Prod.snd rfl sc_law_web.nd (ji_list (jp_var 4)) (blkOk_by (N := ["_law_rows_here", "_law_names_here", "_law_found", "_law_p", "_law_row", "_law_renewed", "_law_k", "_law_q"]) (sc := defScope s_law_web) (by decide +kernel)) (fun _ => rfl) (fun _ _ _ _ _ _ hB254 x253 s252 => (have hB := noRs hB254 hB; (jn_name 7 sc_law_web.nd))) (fun _ _ _ _ _ _ hB254 x253 s252 => (have hB := noRs hB254 hB; jts_nil)) (fun _ _ _ _ _ _ hB254 x253 s252 => (have hB := noRs hB254 hB; (je_mapS (en := D.int) (v := fun (y257 : Int) => y257) (st := fun (y257 : Int) => ()) (ρ' := fun (s259 : Unit) => [.val ((eL (eL D.int)) a.1), .val ((eL D.int) a.2), .own 0 ((oL (eR D.int)) s248), .val (D.int x250.1), .val ((eL D.int) x250.2), .non, .non, .val (D.int x253)]) (je_op (fun _ _ ha hb => pe_ix ix_list ha hb (fun _ _ => rfl)) (jp_var 1) (jp_var 7) od_ixLm))))) fun (b260 : ((List Int) × Unit)) => (js_lt (fun (v_renewed_261 : List Int) => [.val ((eL (eL D.int)) a.1), .val ((eL D.int) a.2), .own 0 ((oL (eR D.int)) s248), .val (D.int x250.1), .val ((eL D.int) x250.2), .own 0 ((oL D.int) v_renewed_261), .non, .non]) b260.1 fun v_renewed_261 =>
(js_frz 5 rfl (toD_oL _ _) (js_setEQ 6 D.int (fun (b265 : (Unit × Nat)) => ((b265.2 : Nat) : Int)) (fun (b265 : (Unit × Nat)) (v_k_264 : Int) => [.val ((eL (eL D.int)) a.1), .val ((eL D.int) a.2), .own 0 ((oL (eR D.int)) s248), .val (D.int x250.1), .val ((eL D.int) x250.2), .val ((eL D.int) v_renewed_261), .val (D.int v_k_264), .non]) sc_law_web.nd (je_lix (y := fun (b262 : Unit) => (minL v_renewed_261)) (un65 hr) ee_int (jp_var 5) (je_cb (fun _ ht => pe_callB (cr_min rfl) (by rfl) T.z_min (by decide +kernel) ht) (ja_p (jp_var 5) ja_nil) cb_minL)) fun b265 v_k_264 =>
(js_consQ1 (fun (p284 : Unit × Nat) => [.val ((eL (eL D.int)) a.1), .val ((eL D.int) a.2), .own 0 ((oL (eR D.int)) (List.set s248 p284.2 ((cut v_renewed_261 (some v_k_264) none) ++ (cut v_renewed_261 none (some v_k_264))))), .val (D.int x250.1), .val ((eL D.int) x250.2), .val ((eL D.int) v_renewed_261), .val (D.int v_k_264), .non]) (j1_asg (d := fun (b279 : Unit) => (eR D.int) ((cut v_renewed_261 (some v_k_264) none) ++ (cut v_renewed_261 none (some v_k_264)))) (je_cbN (ρa := fun _ => _) (s := fun (c277 : Unit) => .val ((eR D.int) ((cut v_renewed_261 (some v_k_264) none) ++ (cut v_renewed_261 none (some v_k_264))))) (fun _ ht => pe_callTy cr_tupF (by rfl) T.z_tuple (by decide +kernel) ht) (ja_el (ρa := fun _ => _) (xa := fun (x276 : Unit) => (eL D.int) ((cut v_renewed_261 (some v_k_264) none) ++ (cut v_renewed_261 none (some v_k_264)))) (je_frzL (v := fun (b275 : Unit) => ((cut v_renewed_261 (some v_k_264) none) ++ (cut v_renewed_261 none (some v_k_264)))) (je_op (fun _ _ ha hb => pe_op op_catR ha hb) (je_frzL (v := fun (b271 : Unit) => (cut v_renewed_261 (some v_k_264) none)) (je_slLm (jp_var 5) (fun _ => (jo_some (jp_var 6))) (fun _ => jo_none))) (je_frzL (v := fun (b274 : Unit) => (cut v_renewed_261 none (some v_k_264))) (je_slLm (jp_var 5) (fun _ => jo_none) (fun _ => (jo_some (jp_var 6))))) od_catm)) (fun x276 => ja_nil)) (fun c277 => cb_tupF)) (fun b279 => (jg_subE 2 (xs := s248) (en := (eR D.int)) (y := ((cut v_renewed_261 (some v_k_264) none) ++ (cut v_renewed_261 none (some v_k_264)))) (k := fun (b283 : Int) => b283) rfl (je_op (fun _ _ ha hb => pe_ix ix_list ha hb (fun _ _ => rfl)) (jp_var 1) (jp_var 3) od_ixLm)))) fun p284 =>
(js_nil [true, true, true, false, false, false, false, true] (List.set s248 p284.2 ((cut v_renewed_261 (some v_k_264) none) ++ (cut v_renewed_261 none (some v_k_264)))))))))))) fun n249 =>
(js_one (js_retP n249 [false, false, false, true, true, true, true, true] (je_wk (d := fun (b287 : Unit) => (eR (eR D.int)) n249) (d' := fun (b287 : Unit) => (eT (eR D.int)) n249) (fun b287 => (fun _ => wk_R _ _) (n249)) (je_bor 2 (d := (eL (eR D.int)) n249) (ρ1 := fun (b285 : Unit) => [.val ((eL (eL D.int)) a.1), .val ((eL D.int) a.2), .val ((eL (eR D.int)) n249), .non, .non, .non, .non, .non]) (ρ2 := fun (b285 : Unit) => [.val ((eL (eL D.int)) a.1), .val ((eL D.int) a.2), .non, .non, .non, .non, .non, .non]) (ρ' := fun (b285 : Unit) => [.val ((eL (eL D.int)) a.1), .val ((eL D.int) a.2), .own 0 ((oL (eR D.int)) n249), .non, .non, .non, .non, .non]) (sl := fun (b285 : Unit) => .val ((eR (eR D.int)) n249)) rfl (toD_oL _ _) (fun _ hB286 => (have hB := noRs hB286 hB; (je_cb (fun _ ht => pe_callTy cr_tupF (by rfl) T.z_tuple (by decide +kernel) ht) (ja_p (jp_var 2) ja_nil) cb_tupF))) (fun (b285 : Unit) => (.cons .k (.cons .k (.cons .f (.cons .f (.cons .f (.cons .f (.cons .f (.cons .f .nil))))))))) (fun (b285 : Unit) => (fl_R (fl_R fl_int)) n249) (fun _ => rfl))))))))
/-! steps -/
abbrev s_steps : Stmt := topS 10
theorem sc_steps : FnScope ["web", "found", "place", "row", "other"] ["web"] (defScope s_steps) := ⟨rfl, rfl, rfl, by decide +kernel, rfl, by decide +kernel, by decide +kernel⟩
noncomputable def mb_steps (v_web : (List (List Int))) : R (Fl Unit Unit (List (Int × Int))) :=
((R.ok ()).bind fun (b311 : Unit) => lt ([] : List (Int × Int)) fun v_found_310 =>
(bindF (forR (fun (x316 : (Int × (List Int))) (s314 : (List (Int × Int))) =>
((((R.ok ()).bind fun (b318 : Unit) => (R.guard (List.length x316.2 ≤ sizeLine)).bind fun _ => R.ok b318).bind fun (b323 : Unit) => (R.guard (List.length s314 + List.length (List.map (fun (x320 : Int) => (x316.1, x320)) (List.filter (fun (x320 : Int) => true) x316.2)) ≤ sizeLine)).bind fun _ => R.ok b323).bind fun (b324 : Unit) =>
(R.ok (.nx (s314 ++ (List.map (fun (x320 : Int) => (x316.1, x320)) (List.filter (fun (x320 : Int) => true) x316.2))))))) (enumL v_web) v_found_310) fun n315 =>
((R.guard True).bind fun (b327 : Unit) => R.ok (.rt (srtD eK2 n315)))))
noncomputable def m_steps (a : (List (List Int))) : R (List (Int × Int)) := fin0 (mb_steps a)
abbrev i_steps (a : (List (List Int))) : List Slot := [.val ((eT (eR D.int)) a)]
abbrev l_steps (b : (List (Int × Int))) : Slot := .own 0 ((oL eK2) b)
abbrev o_steps (b : (List (Int × Int))) : List Slot := [.non]
theorem ok_steps {P : Program} {w : World} {K : PySem.W.Frag} {mg : Str → Option Value} {base : Heap} (T : Top K mg) : FnG P w K mg base CX0 1 T.steps.a T.steps.d ["web"] (spM K i_steps m_steps l_steps o_steps) := by
  show FnG P w K mg base CX0 (0 + 1) T.steps.a T.steps.d ["web"] (spM K i_steps (fun (a : (List (List Int))) => fin0 (mb_steps a)) l_steps o_steps)
  refine fn_ok (n1 := fun _ => []) (c1 := fun _ => []) (k1 := fun _ => []) (ins := i_steps) (sl := l_steps) (outs := o_steps) (fun (a : (List (List Int))) => mb_steps a) 4 T.steps.f sc_steps rfl (fun _ => rfl) (fun _ => rfl) (fun _ => rfl) (fun cdv A outer s H E hr B hB a => ?_)
  show JSs _ B _ _ (mb_steps a) _
  unfold mb_steps
  exact ((js_setOQ 1 (oL eK2) (fun (b311 : Unit) => ([] : List (Int × Int))) (fun (b311 : Unit) (v_found_310 : (List (Int × Int))) => [.val ((eT (eR D.int)) a), .own 0 ((oL eK2) v_found_310), .non, .non, .non]) sc_steps.nd (je_lstT eK2 (fun (_ : Unit) => ([] : List (Int × Int))) ja_nil) fun b311 v_found_310 =>
(js_cons (ρ1 := fun (n315 : (List (Int × Int))) => [.val ((eT (eR D.int)) a), .own 0 ((oL eK2) n315), .non, .non, .non]) (js_forP (en := (eP2 D.int (eR D.int))) (fun (s314 : (List (Int × Int))) => [.val ((eT (eR D.int)) a), .own 0 ((oL eK2) s314), .non, .non, .non]) (fun (x316 : (Int × (List Int))) (s314 : (List (Int × Int))) => [.val ((eT (eR D.int)) a), .own 0 ((oL eK2) s314), .val (D.int x316.1), .val ((eR D.int) x316.2), .non]) PassesOwn.never rfl (ji_enumT (f := (eR D.int)) (xs := fun (b312 : Unit) => a) (by rfl) T.z_enumerate (jp_var 0)) [true, true, true, true, true] rfl (fun x316 s314 => (jg_tup rfl (jgs_p (jg_name 2 sc_steps.nd) (jgs_p (jg_name 3 sc_steps.nd) jgs_nil)))) (fun x316 s314 =>
(js_consQ1 (fun (b324 : Unit) => [.val ((eT (eR D.int)) a), .own 0 ((oL eK2) (s314 ++ (List.map (fun (x320 : Int) => (x316.1, x320)) (List.filter (fun (x320 : Int) => true) x316.2)))), .val (D.int x316.1), .val ((eR D.int) x316.2), .non]) (j1_expr (je_extO 1 (f := eK2) (y := fun (b323 : Unit) => (List.map (fun (x320 : Int) => (x316.1, x320)) (List.filter (fun (x320 : Int) => true) x316.2))) (ρ' := fun (b323 : Unit) => [.val ((eT (eR D.int)) a), .own 0 ((oL eK2) s314), .val (D.int x316.1), .val ((eR D.int) x316.2), .non]) (fun (b323 : Unit) => s314) (je_lcP (xs := fun (b318 : Unit) => x316.2) (ea := D.int) (ts := [4]) [("other", 4)] eK2 (fun (x320 : Int) => [.val ((eT (eR D.int)) a), .own 0 ((oL eK2) s314), .val (D.int x316.1), .val ((eR D.int) x316.2), .val (D.int x320)]) (fun (x320 : Int) => true) (fun (x320 : Int) => (x316.1, x320)) rfl sc_steps.nd (ji_tup (je_wk (d := fun (b317 : Unit) => (eR D.int) x316.2) (d' := fun (b317 : Unit) => (eT D.int) x316.2) (fun b317 => (fun _ => wk_R _ _) (x316.2)) (jp_var 3))) (blkOk_by (N := ["web", "found", "place", "row", "other"]) (sc := defScope s_steps) (by decide +kernel)) (fun _ _ _ _ _ _ hB321 x320 => (have hB := noRs hB321 hB; (jn_name 4 sc_steps.nd))) (fun _ _ _ _ _ _ hB321 x320 => (have hB := noRs hB321 hB; jts_t)) (fun _ _ _ _ _ _ hB321 x320 => (have hB := noRs hB321 hB; (je_tupK (p := fun (b322 : Unit) => (x316.1, x320)) (ja_p (jp_var 2) (ja_p (jp_var 4) ja_nil)))))))) fun b324 =>
(js_nil [true, true, false, false, true] (s314 ++ (List.map (fun (x320 : Int) => (x316.1, x320)) (List.filter (fun (x320 : Int) => true) x316.2))))))) fun n315 =>
(js_one (js_ret (fun (b327 : Unit) => (srtD eK2 n315)) [false, false, true, true, true] (je_bor 1 (d := (eL eK2) n315) (ρ1 := fun (b325 : Unit) => [.val ((eT (eR D.int)) a), .val ((eL eK2) n315), .non, .non, .non]) (ρ2 := fun (b325 : Unit) => [.val ((eT (eR D.int)) a), .non, .non, .non, .non]) (ρ' := fun (b325 : Unit) => [.val ((eT (eR D.int)) a), .own 0 ((oL eK2) n315), .non, .non, .non]) (sl := fun (b325 : Unit) => .own 0 ((oL eK2) (srtD eK2 n315))) rfl (toD_oL _ _) (fun _ hB326 => (have hB := noRs hB326 hB; (je_cb (fun _ ht => pe_callB (cr_sortD _ _ (un64 hr)) (by rfl) T.z_sorted (by decide +kernel) ht) (ja_p (jp_var 1) ja_nil) cb_sortK2))) (fun (b325 : Unit) => (.cons .k (.cons .f (.cons .f (.cons .f (.cons .f .nil)))))) (fun (b325 : Unit) => fl_oL fl_K2 (srtD eK2 n315)) (fun _ => rfl)))))))
/-! behind -/
abbrev s_behind : Stmt := topS 11
theorem sc_behind : FnScope ["web", "step", "place", "other", "row"] ["web", "step"] (defScope s_behind) := ⟨rfl, rfl, rfl, by decide +kernel, rfl, by decide +kernel, by decide +kernel⟩
noncomputable def mb_behind (v_web : (List (List Int))) (v_step : (Int × Int)) : R (Fl Unit Unit (Int × Int)) :=
((R.some (atI v_web v_step.2)).bind fun (b342 : (List Int)) => lt b342 fun v_row_341 =>
((((R.ok ()).bind fun (b346 : Unit) => (R.some (ixOf v_step.1 v_row_341)).bind fun (z347 : Nat) => R.ok (b346, z347)).bind fun (y345 : (Unit × Nat)) => (R.some (atI v_row_341 (((y345.2 : Nat) : Int) - (1 : Int)))).bind fun (z351 : Int) => R.ok (y345, z351)).bind fun (b354 : ((Unit × Nat) × Int)) => R.ok (.rt (v_step.2, b354.2))))
noncomputable def m_behind (a : ((List (List Int)) × (Int × Int))) : R (Int × Int) := fin0 (mb_behind a.1 a.2)
abbrev i_behind (a : ((List (List Int)) × (Int × Int))) : List Slot := [.val ((eT (eR D.int)) a.1), .val (eK2 a.2)]
abbrev l_behind (b : (Int × Int)) : Slot := .val (eK2 b)
abbrev o_behind (b : (Int × Int)) : List Slot := [.non, .non]
theorem ok_behind {P : Program} {w : World} {K : PySem.W.Frag} {mg : Str → Option Value} {base : Heap} (T : Top K mg) : FnG P w K mg base CX0 1 T.behind.a T.behind.d ["web", "step"] (spM K i_behind m_behind l_behind o_behind) := by
  show FnG P w K mg base CX0 (0 + 1) T.behind.a T.behind.d ["web", "step"] (spM K i_behind (fun (a : ((List (List Int)) × (Int × Int))) => fin0 (mb_behind a.1 a.2)) l_behind o_behind)
  refine fn_ok (n1 := fun _ => []) (c1 := fun _ => []) (k1 := fun _ => []) (ins := i_behind) (sl := l_behind) (outs := o_behind) (fun (a : ((List (List Int)) × (Int × Int))) => mb_behind a.1 a.2) 3 T.behind.f sc_behind rfl (fun _ => rfl) (fun _ => rfl) (fun _ => rfl) (fun cdv A outer s H E hr B hB a => ?_)
  show JSs _ B _ _ (mb_behind a.1 a.2) _
  unfold mb_behind
  exact ((js_consQP [.val ((eT (eR D.int)) a.1), .val (eK2 a.2), .val (D.int a.2.1), .val (D.int a.2.2), .non] (j1_asgN (d := fun (b338 : Unit) => (eP2 D.int D.int) a.2) (je_wk (d := fun (b337 : Unit) => eK2 a.2) (d' := fun (b337 : Unit) => (eP2 D.int D.int) a.2) (fun b337 => (fun _ => wk_K2 _) (a.2)) (jp_var 1)) (fun b338 => jg_tup rfl (jgs_p (jg_name 2 sc_behind.nd) (jgs_p (jg_name 3 sc_behind.nd) jgs_nil))))
(js_setEQ 4 (eR D.int) (fun (b342 : (List Int)) => b342) (fun (b342 : (List Int)) (v_row_341 : (List Int)) => [.val ((eT (eR D.int)) a.1), .val (eK2 a.2), .val (D.int a.2.1), .val (D.int a.2.2), .val ((eR D.int) v_row_341)]) sc_behind.nd (je_op (fun _ _ ha hb => pe_ix ix_tup ha hb (fun _ _ => rfl)) (jp_var 0) (jp_var 3) od_ixTm) fun b342 v_row_341 =>
(js_one (js_ret (fun (b354 : ((Unit × Nat) × Int)) => (a.2.2, b354.2)) [false, false, false, false, false] (je_tupK (p := fun (b353 : ((Unit × Nat) × Int)) => (a.2.2, b353.2)) (ja_p (jp_var 3) (ja_el (ρa := fun _ => _) (xa := fun (x352 : ((Unit × Nat) × Int)) => D.int x352.2) (je_opRG (ρb := fun _ => _) (s := fun (y345 : (Unit × Nat)) (z351 : Int) => (.val (D.int z351))) (xb := fun (y345 : (Unit × Nat)) => D.int (((y345.2 : Nat) : Int) - (1 : Int))) (fun _ _ ha hb => pe_ix ix_tup ha hb (fun _ _ => rfl)) (je_wk (d := fun (b343 : Unit) => (eR D.int) v_row_341) (d' := fun (b343 : Unit) => (eT D.int) v_row_341) (fun b343 => (fun _ => wk_R _ _) (v_row_341)) (jp_var 4)) (je_opL (ρa := fun _ => _) (s := fun (x348 : (Unit × Nat)) => (.val (D.int (((x348.2 : Nat) : Int) - (1 : Int))))) (xa := fun (x348 : (Unit × Nat)) => D.int ((x348.2 : Nat) : Int)) (y := fun (x348 : (Unit × Nat)) => D.int (1 : Int)) (fun _ _ ha hb => pe_op op_sub ha hb) (je_rix (k := fun (b346 : Unit) => a.2.1) (jp_var 4) (jp_var 2)) (fun x348 => jp_int) (fun x348 => od_sub)) (fun y345 => od_ixTm)) (fun x352 => ja_nil)))))))))
/-! steps_round -/
abbrev s_steps_round : Stmt := topS 12
theorem sc_steps_round : FnScope ["web", "step", "found", "here"] ["web", "step"] (defScope s_steps_round) := ⟨rfl, rfl, rfl, by decide +kernel, rfl, by decide +kernel, by decide +kernel⟩
noncomputable def mb_steps_round (v_web : (List (List Int))) (v_step : (Int × Int)) : R (Fl Unit Unit (List (Int × Int))) :=
((R.ok ()).bind fun (b336 : Unit) => lt [v_step] fun v_found_335 =>
((m_behind (v_web, v_step)).bind fun (b356 : (Int × Int)) => lt b356 fun v_here_355 =>
(bindF (whR (fun (s357 : ((List (Int × Int)) × (Int × Int))) => R.ok (!decide (s357.2 = v_step))) (fun s357 =>
(((R.ok ()).bind fun (b364 : Unit) => (R.guard (List.length s357.1 < sizeLine)).bind fun _ => R.ok b364).bind fun (b365 : Unit) =>
((m_behind (v_web, s357.2)).bind fun (b367 : (Int × Int)) => lt b367 fun v_here_366 =>
(R.ok (.nx ((s357.1 ++ [s357.2]), v_here_366)))))) (v_found_335, v_here_355)) fun n358 =>
((R.ok ()).bind fun (b368 : Unit) => R.ok (.rt n358.1)))))
noncomputable def m_steps_round (a : ((List (List Int)) × (Int × Int))) : R (List (Int × Int)) := fin0 (mb_steps_round a.1 a.2)
abbrev i_steps_round (a : ((List (List Int)) × (Int × Int))) : List Slot := [.val ((eT (eR D.int)) a.1), .val (eK2 a.2)]
abbrev l_steps_round (b : (List (Int × Int))) : Slot := .own 0 ((oL eK2) b)
abbrev o_steps_round (b : (List (Int × Int))) : List Slot := [.non, .non]
theorem ok_steps_round {P : Program} {w : World} {K : PySem.W.Frag} {mg : Str → Option Value} {base : Heap} (T : Top K mg) : FnG P w K mg base CX0 2 T.steps_round.a T.steps_round.d ["web", "step"] (spM K i_steps_round m_steps_round l_steps_round o_steps_round) := by
  show FnG P w K mg base CX0 (1 + 1) T.steps_round.a T.steps_round.d ["web", "step"] (spM K i_steps_round (fun (a : ((List (List Int)) × (Int × Int))) => fin0 (mb_steps_round a.1 a.2)) l_steps_round o_steps_round)
  refine fn_ok (n1 := fun _ => []) (c1 := fun _ => []) (k1 := fun _ => []) (ins := i_steps_round) (sl := l_steps_round) (outs := o_steps_round) (fun (a : ((List (List Int)) × (Int × Int))) => mb_steps_round a.1 a.2) 2 T.steps_round.f sc_steps_round rfl (fun _ => rfl) (fun _ => rfl) (fun _ => rfl) (fun cdv A outer s H E hr B hB a => ?_)
  show JSs _ B _ _ (mb_steps_round a.1 a.2) _
  unfold mb_steps_round
  exact ((js_setOQ 2 (oL eK2) (fun (b336 : Unit) => [a.2]) (fun (b336 : Unit) (v_found_335 : (List (Int × Int))) => [.val ((eT (eR D.int)) a.1), .val (eK2 a.2), .own 0 ((oL eK2) v_found_335), .non]) sc_steps_round.nd (je_lstT eK2 (fun (b334 : Unit) => ([a.2] : List (Int × Int))) (ja_p (jp_var 1) ja_nil)) fun b336 v_found_335 =>
(js_setEQ 3 eK2 (fun (b356 : (Int × Int)) => b356) (fun (b356 : (Int × Int)) (v_here_355 : (Int × Int)) => [.val ((eT (eR D.int)) a.1), .val (eK2 a.2), .own 0 ((oL eK2) v_found_335), .val (eK2 v_here_355)]) sc_steps_round.nd (je_callV (ins := i_behind) (mf := m_behind) (sl := l_behind) (outs := o_behind) (ok_behind T) (hr.mono (by decide)) (by rfl) T.behind.g T.behind.f.kp T.behind.b pass0 (arg := (a.1, a.2)) (ja_p (jp_var 0) (ja_p (jp_var 1) ja_nil)) hB) fun b356 v_here_355 =>
(js_cons (ρ1 := fun (n358 : ((List (Int × Int)) × (Int × Int))) => [.val ((eT (eR D.int)) a.1), .val (eK2 a.2), .own 0 ((oL eK2) n358.1), .val (eK2 n358.2)]) (js_while (fun (s357 : ((List (Int × Int)) × (Int × Int))) => [.val ((eT (eR D.int)) a.1), .val (eK2 a.2), .own 0 ((oL eK2) s357.1), .val (eK2 s357.2)]) PassesOwn.never (v_found_335, v_here_355) [true, true, true, true] rfl (fun s357 => (jt_pb (jt_op (fun _ _ ha hb => pt_cmpR (op_neD (un64 hr)) ha hb (nomark _)) (je_wk (d := fun (b359 : Unit) => eK2 s357.2) (d' := fun (b359 : Unit) => (eP2 D.int D.int) s357.2) (fun b359 => (fun _ => wk_K2 _) (s357.2)) (jp_var 3)) (je_wk (d := fun (b362 : Unit) => eK2 a.2) (d' := fun (b362 : Unit) => (eP2 D.int D.int) a.2) (fun b362 => (fun _ => wk_K2 _) (a.2)) (jp_var 1)) (od_neD (ee_p2 ee_int ee_int))))) (fun s357 =>
(js_consQ1 (fun (b365 : Unit) => [.val ((eT (eR D.int)) a.1), .val (eK2 a.2), .own 0 ((oL eK2) (s357.1 ++ [s357.2])), .val (eK2 s357.2)]) (j1_expr (je_app 2 (f := eK2) (y := fun (b364 : Unit) => s357.2) (ρ' := fun (b364 : Unit) => [.val ((eT (eR D.int)) a.1), .val (eK2 a.2), .own 0 ((oL eK2) s357.1), .val (eK2 s357.2)]) (fun (b364 : Unit) => s357.1) (jp_var 3))) fun b365 =>
(js_setEQ 3 eK2 (fun (b367 : (Int × Int)) => b367) (fun (b367 : (Int × Int)) (v_here_366 : (Int × Int)) => [.val ((eT (eR D.int)) a.1), .val (eK2 a.2), .own 0 ((oL eK2) (s357.1 ++ [s357.2])), .val (eK2 v_here_366)]) sc_steps_round.nd (je_callV (ins := i_behind) (mf := m_behind) (sl := l_behind) (outs := o_behind) (ok_behind T) (hr.mono (by decide)) (by rfl) T.behind.g T.behind.f.kp T.behind.b pass0 (arg := (a.1, s357.2)) (ja_p (jp_var 0) (ja_p (jp_var 3) ja_nil)) hB) fun b367 v_here_366 =>
(js_nil [true, true, true, true] ((s357.1 ++ [s357.2]), v_here_366)))))) fun n358 =>
(js_one (js_ret (fun (b368 : Unit) => n358.1) [false, false, true, false] (je_nameO 2)))))))
/-! told_round -/
abbrev s_told_round : Stmt := topS 13
theorem sc_told_round : FnScope ["some", "at", "step"] ["some"] (defScope s_told_round) := ⟨rfl, rfl, rfl, by decide +kernel, rfl, by decide +kernel, by decide +kernel⟩
noncomputable def mb_told_round (v_some : (List (Int × Int))) : R (Fl Unit Unit (List Int)) :=
(((R.guard (v_some ≠ [])).bind fun (b390 : Unit) => (R.some (ixOf (minP v_some) v_some)).bind fun (z391 : Nat) => R.ok (b390, z391)).bind fun (b393 : (Unit × Nat)) => lt ((b393.2 : Nat) : Int) fun v_at_392 =>
(((R.guard (List.length (cut v_some (some v_at_392) none) + List.length (cut v_some none (some v_at_392)) ≤ sizeLine)).bind fun (b415 : Unit) => (R.guard (List.length ((cut v_some (some v_at_392) none) ++ (cut v_some none (some v_at_392))) ≤ sizeLine)).bind fun _ => R.ok b415).bind fun (b426 : Unit) => R.ok (.rt (List.map (fun (x417 : (Int × Int)) => x417.1) (List.filter (fun (x417 : (Int × Int)) => true) ((cut v_some (some v_at_392) none) ++ (cut v_some none (some v_at_392))))))))
noncomputable def m_told_round (a : (List (Int × Int))) : R (List Int) := fin0 (mb_told_round a)
abbrev i_told_round (a : (List (Int × Int))) : List Slot := [.val ((eL eK2) a)]
abbrev l_told_round (b : (List Int)) : Slot := .val ((eT D.int) b)
abbrev o_told_round (b : (List Int)) : List Slot := [.non]
theorem ok_told_round {P : Program} {w : World} {K : PySem.W.Frag} {mg : Str → Option Value} {base : Heap} (T : Top K mg) : FnG P w K mg base CX0 1 T.told_round.a T.told_round.d ["some"] (spM K i_told_round m_told_round l_told_round o_told_round) := by
  show FnG P w K mg base CX0 (0 + 1) T.told_round.a T.told_round.d ["some"] (spM K i_told_round (fun (a : (List (Int × Int))) => fin0 (mb_told_round a)) l_told_round o_told_round)
  refine fn_ok (n1 := fun _ => []) (c1 := fun _ => []) (k1 := fun _ => []) (ins := i_told_round) (sl := l_told_round) (outs := o_told_round) (fun (a : (List (Int × Int))) => mb_told_round a) 2 T.told_round.f sc_told_round rfl (fun _ => rfl) (fun _ => rfl) (fun _ => rfl) (fun cdv A outer s H E hr B hB a => ?_)
  show JSs _ B _ _ (mb_told_round a) _
  unfold mb_told_round
  exact ((js_setEQ 1 D.int (fun (b393 : (Unit × Nat)) => ((b393.2 : Nat) : Int)) (fun (b393 : (Unit × Nat)) (v_at_392 : Int) => [.val ((eL eK2) a), .val (D.int v_at_392), .non]) sc_told_round.nd (je_lix (y := fun (b390 : Unit) => (minP a)) (un65 hr) (ee_p2 ee_int ee_int) (je_wk (d := fun (b388 : Unit) => (eL eK2) a) (d' := fun (b388 : Unit) => (eL (eP2 D.int D.int)) a) (fun b388 => (fun _ => wk_L (f := eK2) (g := (eP2 D.int D.int)) (fun _ => wk_K2 _) _) (a)) (jp_var 0)) (je_wk (d := fun (b389 : Unit) => eK2 (minP a)) (d' := fun (b389 : Unit) => (eP2 D.int D.int) (minP a)) (fun b389 => (fun _ => wk_K2 _) ((minP a))) (je_cb (fun _ ht => pe_callB (cr_minK2 rfl (un64 hr)) (by rfl) T.z_min (by decide +kernel) ht) (ja_p (jp_var 0) ja_nil) cb_minK2))) fun b393 v_at_392 =>
(js_one (js_ret (fun (b426 : Unit) => (List.map (fun (x417 : (Int × Int)) => x417.1) (List.filter (fun (x417 : (Int × Int)) => true) ((cut a (some v_at_392) none) ++ (cut a none (some v_at_392)))))) [false, false, true] (je_wk (d := fun (b425 : Unit) => (eR D.int) (List.map (fun (x417 : (Int × Int)) => x417.1) (List.filter (fun (x417 : (Int × Int)) => true) ((cut a (some v_at_392) none) ++ (cut a none (some v_at_392)))))) (d' := fun (b425 : Unit) => (eT D.int) (List.map (fun (x417 : (Int × Int)) => x417.1) (List.filter (fun (x417 : (Int × Int)) => true) ((cut a (some v_at_392) none) ++ (cut a none (some v_at_392)))))) (fun b425 => (fun _ => wk_R _ _) ((List.map (fun (x417 : (Int × Int)) => x417.1) (List.filter (fun (x417 : (Int × Int)) => true) ((cut a (some v_at_392) none) ++ (cut a none (some v_at_392))))))) (je_cbN (ρa := fun _ => _) (s := fun (c423 : Unit) => .val ((eR D.int) (List.map (fun (x417 : (Int × Int)) => x417.1) (List.filter (fun (x417 : (Int × Int)) => true) ((cut a (some v_at_392) none) ++ (cut a none (some v_at_392))))))) (fun _ ht => pe_callTy cr_tupF (by rfl) T.z_tuple (by decide +kernel) ht) (ja_el (ρa := fun _ => _) (xa := fun (x422 : Unit) => (eL D.int) (List.map (fun (x417 : (Int × Int)) => x417.1) (List.filter (fun (x417 : (Int × Int)) => true) ((cut a (some v_at_392) none) ++ (cut a none (some v_at_392)))))) (je_frzL (v := fun (b421 : Unit) => (List.map (fun (x417 : (Int × Int)) => x417.1) (List.filter (fun (x417 : (Int × Int)) => true) ((cut a (some v_at_392) none) ++ (cut a none (some v_at_392)))))) (je_lcP (xs := fun (b415 : Unit) => ((cut a (some v_at_392) none) ++ (cut a none (some v_at_392)))) (ea := (eP2 D.int D.int)) (ts := [2]) [("step", 2)] D.int (fun (x417 : (Int × Int)) => [.val ((eL eK2) a), .val (D.int v_at_392), .val ((eP2 D.int D.int) x417)]) (fun (x417 : (Int × Int)) => true) (fun (x417 : (Int × Int)) => x417.1) rfl sc_told_round.nd (ji_list (je_frzL (v := fun (b414 : Unit) => ((cut a (some v_at_392) none) ++ (cut a none (some v_at_392)))) (je_op (fun _ _ ha hb => pe_op op_catR ha hb) (je_frzL (v := fun (b409 : Unit) => (cut a (some v_at_392) none)) (je_slLm (je_wk (d := fun (b408 : Unit) => (eL eK2) a) (d' := fun (b408 : Unit) => (eL (eP2 D.int D.int)) a) (fun b408 => (fun _ => wk_L (f := eK2) (g := (eP2 D.int D.int)) (fun _ => wk_K2 _) _) (a)) (jp_var 0)) (fun _ => (jo_some (jp_var 1))) (fun _ => jo_none))) (je_frzL (v := fun (b413 : Unit) => (cut a none (some v_at_392))) (je_slLm (je_wk (d := fun (b412 : Unit) => (eL eK2) a) (d' := fun (b412 : Unit) => (eL (eP2 D.int D.int)) a) (fun b412 => (fun _ => wk_L (f := eK2) (g := (eP2 D.int D.int)) (fun _ => wk_K2 _) _) (a)) (jp_var 0)) (fun _ => jo_none) (fun _ => (jo_some (jp_var 1))))) od_catm))) (blkOk_by (N := ["some", "at", "step"]) (sc := defScope s_told_round) (by decide +kernel)) (fun _ _ _ _ _ _ hB418 x417 => (have hB := noRs hB418 hB; (jn_name 2 sc_told_round.nd))) (fun _ _ _ _ _ _ hB418 x417 => (have hB := noRs hB418 hB; jts_t)) (fun _ _ _ _ _ _ hB418 x417 => (have hB := noRs hB418 hB; (je_op (fun _ _ ha hb => pe_ix ix_tup ha hb (fun _ _ => rfl)) (jp_var 2) jp_int (od_ixTs rfl)))))) (fun x422 => ja_nil)) (fun c423 => cb_tupF)))))))
/-! faces -/
abbrev s_faces : Stmt := topS 14
theorem sc_faces : FnScope ["web", "known", "found", "step", "some", "one"] ["web"] (defScope s_faces) := ⟨rfl, rfl, rfl, by decide +kernel, rfl, by decide +kernel, by decide +kernel⟩
noncomputable def mb_faces (v_web : (List (List Int))) : R (Fl Unit Unit (List (List Int))) :=
((R.ok ()).bind fun (b307 : Unit) => lt ([] : List ((Int × Int) × Bool)) fun v_known_306 =>
((R.ok ()).bind fun (b309 : Unit) => lt ([] : List (List Int)) fun v_found_308 =>
(bindF ((m_steps v_web).bind fun (b329 : (List (Int × Int))) => forR (fun (x332 : (Int × Int)) (s330 : ((List ((Int × Int) × Bool)) × (List (List Int)))) =>
(bindF (if (!(hasT x332 s330.1)) = true then ((m_steps_round (v_web, x332)).bind fun (b430 : (List (Int × Int))) => lt b430 fun v_some_429 =>
((((R.ok ()).bind fun (b436 : Unit) => (R.guard (List.length v_some_429 ≤ sizeLine)).bind fun _ => R.ok b436).bind fun (b444 : Unit) => (R.guard ((s330.1 ≠ [] ∨ (List.map (fun p => khash p.1) (mergeT [] (List.map (fun (x438 : (Int × Int)) => (x438, true)) (List.filter (fun (x438 : (Int × Int)) => true) v_some_429)))).Nodup) ∧ List.length s330.1 + List.length (mergeT [] (List.map (fun (x438 : (Int × Int)) => (x438, true)) (List.filter (fun (x438 : (Int × Int)) => true) v_some_429))) ≤ sizeLine)).bind fun _ => R.ok b444).bind fun (b445 : Unit) =>
(((m_told_round v_some_429).bind fun (b446 : (List Int)) => (R.guard (List.length s330.2 < sizeLine)).bind fun _ => R.ok b446).bind fun (b447 : (List Int)) =>
(R.ok (.nx ((mergeT s330.1 (mergeT [] (List.map (fun (x438 : (Int × Int)) => (x438, true)) (List.filter (fun (x438 : (Int × Int)) => true) v_some_429)))), (s330.2 ++ [b447]))))))) else (R.ok (.nx (s330.1, s330.2)))) fun n448 =>
(R.ok (.nx (n448.1, n448.2))))) b329 (v_known_306, v_found_308)) fun n331 =>
((R.guard (∀ x ∈ n331.2, x ≠ [])).bind fun (b451 : Unit) => R.ok (.rt (srtD (eT D.int) n331.2))))))
noncomputable def m_faces (a : (List (List Int))) : R (List (List Int)) := fin0 (mb_faces a)
abbrev i_faces (a : (List (List Int))) : List Slot := [.val ((eT (eR D.int)) a)]
abbrev l_faces (b : (List (List Int))) : Slot := .own 0 ((oL (eT D.int)) b)
abbrev o_faces (b : (List (List Int))) : List Slot := [.non]
theorem ok_faces {P : Program} {w : World} {K : PySem.W.Frag} {mg : Str → Option Value} {base : Heap} (T : Top K mg) : FnG P w K mg base CX0 3 T.faces.a T.faces.d ["web"] (spM K i_faces m_faces l_faces o_faces) := by
  show FnG P w K mg base CX0 (2 + 1) T.faces.a T.faces.d ["web"] (spM K i_faces (fun (a : (List (List Int))) => fin0 (mb_faces a)) l_faces o_faces)
  refine fn_ok (n1 := fun _ => []) (c1 := fun _ => []) (k1 := fun _ => []) (ins := i_faces) (sl := l_faces) (outs := o_faces) (fun (a : (List (List Int))) => mb_faces a) 5 T.faces.f sc_faces rfl (fun _ => rfl) (fun _ => rfl) (fun _ => rfl) (fun cdv A outer s H E hr B hB a => ?_)
  show JSs _ B _ _ (mb_faces a) _
  unfold mb_faces
  exact ((js_setOQ 1 (odT D.bool) (fun (b307 : Unit) => ([] : List ((Int × Int) × Bool))) (fun (b307 : Unit) (v_known_306 : (List ((Int × Int) × Bool))) => [.val ((eT (eR D.int)) a), .own 0 ((odT D.bool) v_known_306), .non, .non, .non, .non]) sc_faces.nd (je_newT (f := D.bool)) fun b307 v_known_306 =>
(js_setOQ 2 (oL (eT D.int)) (fun (b309 : Unit) => ([] : List (List Int))) (fun (b309 : Unit) (v_found_308 : (List (List Int))) => [.val ((eT (eR D.int)) a), .own 0 ((odT D.bool) v_known_306), .own 0 ((oL (eT D.int)) v_found_308), .non, .non, .non]) sc_faces.nd (je_lstT (eT D.int) (fun (_ : Unit) => ([] : List (List Int))) ja_nil) fun b309 v_found_308 =>
(js_cons (ρ1 := fun (n331 : ((List ((Int × Int) × Bool)) × (List (List Int)))) => [.val ((eT (eR D.int)) a), .own 0 ((odT D.bool) n331.1), .own 0 ((oL (eT D.int)) n331.2), .non, .non, .non]) (js_for (en := eK2) (xs := fun (b329 : (List (Int × Int))) => b329) (s0 := fun (b329 : (List (Int × Int))) => (v_known_306, v_found_308)) (fun (s330 : ((List ((Int × Int) × Bool)) × (List (List Int)))) => [.val ((eT (eR D.int)) a), .own 0 ((odT D.bool) s330.1), .own 0 ((oL (eT D.int)) s330.2), .non, .non, .non]) (fun (x332 : (Int × Int)) (s330 : ((List ((Int × Int) × Bool)) × (List (List Int)))) => [.val ((eT (eR D.int)) a), .own 0 ((odT D.bool) s330.1), .own 0 ((oL (eT D.int)) s330.2), .val (eK2 x332), .non, .non]) PassesOwn.never rfl (ji_list (je_frzL (v := fun (b328 : (List (Int × Int))) => b328) (je_callV (ins := i_steps) (mf := m_steps) (sl := l_steps) (outs := o_steps) (ok_steps T) (hr.mono (by decide)) (by rfl) T.steps.g T.steps.f.kp T.steps.b pass0 (arg := a) (ja_p (jp_var 0) ja_nil) hB))) [true, true, true, true, true, true] (fun _ => rfl) (fun x332 s330 => (jg_name 3 sc_faces.nd)) (fun x332 s330 =>
(js_cons (ρ1 := fun (n448 : ((List ((Int × Int) × Bool)) × (List (List Int)))) => [.val ((eT (eR D.int)) a), .own 0 ((odT D.bool) n448.1), .own 0 ((oL (eT D.int)) n448.2), .val (eK2 x332), .non, .non]) (js_ifP (jt_dniT 1 (f := D.bool) (un64 hr) rfl (jp_var 3)) (js_setEQ 4 (eL eK2) (fun (b430 : (List (Int × Int))) => b430) (fun (b430 : (List (Int × Int))) (v_some_429 : (List (Int × Int))) => [.val ((eT (eR D.int)) a), .own 0 ((odT D.bool) s330.1), .own 0 ((oL (eT D.int)) s330.2), .val (eK2 x332), .val ((eL eK2) v_some_429), .non]) sc_faces.nd (je_frzL (v := fun (b428 : (List (Int × Int))) => b428) (je_callV (ins := i_steps_round) (mf := m_steps_round) (sl := l_steps_round) (outs := o_steps_round) (ok_steps_round T) (hr.mono (by decide)) (by rfl) T.steps_round.g T.steps_round.f.kp T.steps_round.b pass0 (arg := (a, x332)) (ja_p (jp_var 0) (ja_p (jp_var 3) ja_nil)) hB)) fun b430 v_some_429 =>
(js_consQ1 (fun (b445 : Unit) => [.val ((eT (eR D.int)) a), .own 0 ((odT D.bool) (mergeT s330.1 (mergeT [] (List.map (fun (x438 : (Int × Int)) => (x438, true)) (List.filter (fun (x438 : (Int × Int)) => true) v_some_429))))), .own 0 ((oL (eT D.int)) s330.2), .val (eK2 x332), .val ((eL eK2) v_some_429), .non]) (j1_expr (je_updT 1 (f := D.bool) (y := fun (b444 : Unit) => (mergeT [] (List.map (fun (x438 : (Int × Int)) => (x438, true)) (List.filter (fun (x438 : (Int × Int)) => true) v_some_429)))) (ρ' := fun (b444 : Unit) => [.val ((eT (eR D.int)) a), .own 0 ((odT D.bool) s330.1), .own 0 ((oL (eT D.int)) s330.2), .val (eK2 x332), .val ((eL eK2) v_some_429), .non]) (fun (b444 : Unit) => s330.1) (un64 hr) (je_cbN (ρa := fun _ => _) (s := fun (c442 : Unit) => .own 0 ((odT D.bool) (mergeT [] (List.map (fun (x438 : (Int × Int)) => (x438, true)) (List.filter (fun (x438 : (Int × Int)) => true) v_some_429))))) (fun _ ht => pe_callTy (cr_dictT rfl (un64 hr)) (by rfl) T.z_dict (by decide +kernel) ht) (ja_el (ρa := fun _ => _) (xa := fun (x441 : Unit) => (eL (eP2 eK2 D.bool)) (List.map (fun (x438 : (Int × Int)) => (x438, true)) (List.filter (fun (x438 : (Int × Int)) => true) v_some_429))) (je_frzL (v := fun (b440 : Unit) => (List.map (fun (x438 : (Int × Int)) => (x438, true)) (List.filter (fun (x438 : (Int × Int)) => true) v_some_429))) (je_lcP (xs := fun (b436 : Unit) => v_some_429) (ea := eK2) (ts := [5]) [("one", 5)] (eP2 eK2 D.bool) (fun (x438 : (Int × Int)) => [.val ((eT (eR D.int)) a), .own 0 ((odT D.bool) s330.1), .own 0 ((oL (eT D.int)) s330.2), .val (eK2 x332), .val ((eL eK2) v_some_429), .val (eK2 x438)]) (fun (x438 : (Int × Int)) => true) (fun (x438 : (Int × Int)) => (x438, true)) rfl sc_faces.nd (ji_list (jp_var 4)) (blkOk_by (N := ["web", "known", "found", "step", "some", "one"]) (sc := defScope s_faces) (by decide +kernel)) (fun _ _ _ _ _ _ hB439 x438 => (have hB := noRs hB439 hB; (jn_name 5 sc_faces.nd))) (fun _ _ _ _ _ _ hB439 x438 => (have hB := noRs hB439 hB; jts_t)) (fun _ _ _ _ _ _ hB439 x438 => (have hB := noRs hB439 hB; (je_tup (ja_p (jp_var 5) (ja_p jp_bl ja_nil))))))) (fun x441 => ja_nil)) (fun c442 => cb_dictT)))) fun b445 =>
(js_consQ1 (fun (b447 : (List Int)) => [.val ((eT (eR D.int)) a), .own 0 ((odT D.bool) (mergeT s330.1 (mergeT [] (List.map (fun (x438 : (Int × Int)) => (x438, true)) (List.filter (fun (x438 : (Int × Int)) => true) v_some_429))))), .own 0 ((oL (eT D.int)) (s330.2 ++ [b447])), .val (eK2 x332), .val ((eL eK2) v_some_429), .non]) (j1_expr (je_app 2 (f := (eT D.int)) (y := fun (b446 : (List Int)) => b446) (ρ' := fun (b446 : (List Int)) => [.val ((eT (eR D.int)) a), .own 0 ((odT D.bool) (mergeT s330.1 (mergeT [] (List.map (fun (x438 : (Int × Int)) => (x438, true)) (List.filter (fun (x438 : (Int × Int)) => true) v_some_429))))), .own 0 ((oL (eT D.int)) s330.2), .val (eK2 x332), .val ((eL eK2) v_some_429), .non]) (fun (b446 : (List Int)) => s330.2) (je_callV (ins := i_told_round) (mf := m_told_round) (sl := l_told_round) (outs := o_told_round) (ok_told_round T) (hr.mono (by decide)) (by rfl) T.told_round.g T.told_round.f.kp T.told_round.b pass0 (arg := v_some_429) (ja_p (jp_var 4) ja_nil) hB))) fun b447 =>
(js_nil [true, true, true, true, false, true] ((mergeT s330.1 (mergeT [] (List.map (fun (x438 : (Int × Int)) => (x438, true)) (List.filter (fun (x438 : (Int × Int)) => true) v_some_429)))), (s330.2 ++ [b447])))))) (js_nil [true, true, true, true, true, true] (s330.1, s330.2))) fun n448 =>
(js_nil [true, true, true, false, true, true] (n448.1, n448.2))))) fun n331 =>
(js_one (js_ret (fun (b451 : Unit) => (srtD (eT D.int) n331.2)) [false, false, false, true, true, true] (je_bor 2 (d := (eL (eT D.int)) n331.2) (ρ1 := fun (b449 : Unit) => [.val ((eT (eR D.int)) a), .own 0 ((odT D.bool) n331.1), .val ((eL (eT D.int)) n331.2), .non, .non, .non]) (ρ2 := fun (b449 : Unit) => [.val ((eT (eR D.int)) a), .own 0 ((odT D.bool) n331.1), .non, .non, .non, .non]) (ρ' := fun (b449 : Unit) => [.val ((eT (eR D.int)) a), .own 0 ((odT D.bool) n331.1), .own 0 ((oL (eT D.int)) n331.2), .non, .non, .non]) (sl := fun (b449 : Unit) => .own 0 ((oL (eT D.int)) (srtD (eT D.int) n331.2))) rfl (toD_oL _ _) (fun _ hB450 => (have hB := noRs hB450 hB; (je_cb (fun _ ht => pe_callB (cr_sortD _ _ (un64 hr)) (by rfl) T.z_sorted (by decide +kernel) ht) (ja_p (jp_var 2) ja_nil) cb_sortTI))) (fun (b449 : Unit) => (.cons .k (.cons (.o (fl_odT fl_bool n331.1)) (.cons .f (.cons .f (.cons .f (.cons .f .nil))))))) (fun (b449 : Unit) => fl_oL (fl_T fl_int) (srtD (eT D.int) n331.2)) (fun _ => rfl))))))))
/-! ties -/
abbrev s_ties : Stmt := topS 9
theorem sc_ties : FnScope ["web", "found", "place", "row", "other"] ["web"] (defScope s_ties) := ⟨rfl, rfl, rfl, by decide +kernel, rfl, by decide +kernel, by decide +kernel⟩
noncomputable def mb_ties (v_web : (List (List Int))) : R (Fl Unit Unit (List (List Int))) :=
((R.ok ()).bind fun (b461 : Unit) => lt ([] : List (List Int)) fun v_found_460 =>
(bindF (forR (fun (x466 : (Int × (List Int))) (s464 : (List (List Int))) =>
((((R.ok ()).bind fun (b468 : Unit) => (R.guard (List.length x466.2 ≤ sizeLine)).bind fun _ => R.ok b468).bind fun (b476 : Unit) => (R.guard (List.length s464 + List.length (List.map (fun (x470 : Int) => [(x466.1, x470).1, (x466.1, x470).2]) (List.filter (fun (x470 : Int) => (decide (x466.1 < x470))) x466.2)) ≤ sizeLine)).bind fun _ => R.ok b476).bind fun (b477 : Unit) =>
(R.ok (.nx (s464 ++ (List.map (fun (x470 : Int) => [(x466.1, x470).1, (x466.1, x470).2]) (List.filter (fun (x470 : Int) => (decide (x466.1 < x470))) x466.2))))))) (enumL v_web) v_found_460) fun n465 =>
((R.guard (∀ x ∈ n465, x ≠ [])).bind fun (b480 : Unit) => R.ok (.rt (srtD (eT D.int) n465)))))
noncomputable def m_ties (a : (List (List Int))) : R (List (List Int)) := fin0 (mb_ties a)
abbrev i_ties (a : (List (List Int))) : List Slot := [.val ((eT (eR D.int)) a)]
abbrev l_ties (b : (List (List Int))) : Slot := .own 0 ((oL (eT D.int)) b)
abbrev o_ties (b : (List (List Int))) : List Slot := [.non]
theorem ok_ties {P : Program} {w : World} {K : PySem.W.Frag} {mg : Str → Option Value} {base : Heap} (T : Top K mg) : FnG P w K mg base CX0 1 T.ties.a T.ties.d ["web"] (spM K i_ties m_ties l_ties o_ties) := by
  show FnG P w K mg base CX0 (0 + 1) T.ties.a T.ties.d ["web"] (spM K i_ties (fun (a : (List (List Int))) => fin0 (mb_ties a)) l_ties o_ties)
  refine fn_ok (n1 := fun _ => []) (c1 := fun _ => []) (k1 := fun _ => []) (ins := i_ties) (sl := l_ties) (outs := o_ties) (fun (a : (List (List Int))) => mb_ties a) 4 T.ties.f sc_ties rfl (fun _ => rfl) (fun _ => rfl) (fun _ => rfl) (fun cdv A outer s H E hr B hB a => ?_)
  show JSs _ B _ _ (mb_ties a) _
  unfold mb_ties
  exact ((js_setOQ 1 (oL (eT D.int)) (fun (b461 : Unit) => ([] : List (List Int))) (fun (b461 : Unit) (v_found_460 : (List (List Int))) => [.val ((eT (eR D.int)) a), .own 0 ((oL (eT D.int)) v_found_460), .non, .non, .non]) sc_ties.nd (je_lstT (eT D.int) (fun (_ : Unit) => ([] : List (List Int))) ja_nil) fun b461 v_found_460 =>
(js_cons (ρ1 := fun (n465 : (List (List Int))) => [.val ((eT (eR D.int)) a), .own 0 ((oL (eT D.int)) n465), .non, .non, .non]) (js_forP (en := (eP2 D.int (eR D.int))) (fun (s464 : (List (List Int))) => [.val ((eT (eR D.int)) a), .own 0 ((oL (eT D.int)) s464), .non, .non, .non]) (fun (x466 : (Int × (List Int))) (s464 : (List (List Int))) => [.val ((eT (eR D.int)) a), .own 0 ((oL (eT D.int)) s464), .val (D.int x466.1), .val ((eR D.int) x466.2), .non]) PassesOwn.never rfl (ji_enumT (f := (eR D.int)) (xs := fun (b462 : Unit) => a) (by rfl) T.z_enumerate (jp_var 0)) [true, true, true, true, true] rfl (fun x466 s464 => (jg_tup rfl (jgs_p (jg_name 2 sc_ties.nd) (jgs_p (jg_name 3 sc_ties.nd) jgs_nil)))) (fun x466 s464 =>
(js_consQ1 (fun (b477 : Unit) => [.val ((eT (eR D.int)) a), .own 0 ((oL (eT D.int)) (s464 ++ (List.map (fun (x470 : Int) => [(x466.1, x470).1, (x466.1, x470).2]) (List.filter (fun (x470 : Int) => (decide (x466.1 < x470))) x466.2)))), .val (D.int x466.1), .val ((eR D.int) x466.2), .non]) (j1_expr (je_extO 1 (f := (eT D.int)) (y := fun (b476 : Unit) => (List.map (fun (x470 : Int) => [(x466.1, x470).1, (x466.1, x470).2]) (List.filter (fun (x470 : Int) => (decide (x466.1 < x470))) x466.2))) (ρ' := fun (b476 : Unit) => [.val ((eT (eR D.int)) a), .own 0 ((oL (eT D.int)) s464), .val (D.int x466.1), .val ((eR D.int) x466.2), .non]) (fun (b476 : Unit) => s464) (je_lcP (xs := fun (b468 : Unit) => x466.2) (ea := D.int) (ts := [4]) [("other", 4)] (eT D.int) (fun (x470 : Int) => [.val ((eT (eR D.int)) a), .own 0 ((oL (eT D.int)) s464), .val (D.int x466.1), .val ((eR D.int) x466.2), .val (D.int x470)]) (fun (x470 : Int) => (decide (x466.1 < x470))) (fun (x470 : Int) => [(x466.1, x470).1, (x466.1, x470).2]) rfl sc_ties.nd (ji_tup (je_wk (d := fun (b467 : Unit) => (eR D.int) x466.2) (d' := fun (b467 : Unit) => (eT D.int) x466.2) (fun b467 => (fun _ => wk_R _ _) (x466.2)) (jp_var 3))) (blkOk_by (N := ["web", "found", "place", "row", "other"]) (sc := defScope s_ties) (by decide +kernel)) (fun _ _ _ _ _ _ hB471 x470 => (have hB := noRs hB471 hB; (jn_name 4 sc_ties.nd))) (fun _ _ _ _ _ _ hB471 x470 => (have hB := noRs hB471 hB; (jts_one (jt_pb (jt_op (fun _ _ ha hb => pt_cmpR op_lt ha hb (nomark _)) (jp_var 2) (jp_var 4) od_lt))))) (fun _ _ _ _ _ _ hB471 x470 => (have hB := noRs hB471 hB; (show JP _ _ _ _ ((eT D.int) [(x466.1, x470).1, (x466.1, x470).2]) from (je_wk (d := fun (b475 : Unit) => eK2 (x466.1, x470)) (d' := fun (b475 : Unit) => (eP2 D.int D.int) (x466.1, x470)) (fun b475 => (fun _ => wk_K2 _) ((x466.1, x470))) (je_tupK (p := fun (b474 : Unit) => (x466.1, x470)) (ja_p (jp_var 2) (ja_p (jp_var 4) ja_nil)))))))))) fun b477 =>
(js_nil [true, true, false, false, true] (s464 ++ (List.map (fun (x470 : Int) => [(x466.1, x470).1, (x466.1, x470).2]) (List.filter (fun (x470 : Int) => (decide (x466.1 < x470))) x466.2))))))) fun n465 =>
(js_one (js_ret (fun (b480 : Unit) => (srtD (eT D.int) n465)) [false, false, true, true, true] (je_bor 1 (d := (eL (eT D.int)) n465) (ρ1 := fun (b478 : Unit) => [.val ((eT (eR D.int)) a), .val ((eL (eT D.int)) n465), .non, .non, .non]) (ρ2 := fun (b478 : Unit) => [.val ((eT (eR D.int)) a), .non, .non, .non, .non]) (ρ' := fun (b478 : Unit) => [.val ((eT (eR D.int)) a), .own 0 ((oL (eT D.int)) n465), .non, .non, .non]) (sl := fun (b478 : Unit) => .own 0 ((oL (eT D.int)) (srtD (eT D.int) n465))) rfl (toD_oL _ _) (fun _ hB479 => (have hB := noRs hB479 hB; (je_cb (fun _ ht => pe_callB (cr_sortD _ _ (un64 hr)) (by rfl) T.z_sorted (by decide +kernel) ht) (ja_p (jp_var 1) ja_nil) cb_sortTI))) (fun (b478 : Unit) => (.cons .k (.cons .f (.cons .f (.cons .f (.cons .f .nil)))))) (fun (b478 : Unit) => fl_oL (fl_T fl_int) (srtD (eT D.int) n465)) (fun _ => rfl)))))))
/-! is_flat -/
abbrev s_is_flat : Stmt := topS 15
theorem sc_is_flat : FnScope ["web"] ["web"] (defScope s_is_flat) := ⟨rfl, rfl, rfl, by decide +kernel, rfl, by decide +kernel, by decide +kernel⟩
noncomputable def mb_is_flat (v_web : (List (List Int))) : R (Fl Unit Unit Bool) :=
((op2 (m_faces v_web) (fun (x458 : (List (List Int))) => (m_ties v_web)) (fun (x458 : (List (List Int))) (y459 : (List (List Int))) => R.ok ())).bind fun (b489 : ((List (List Int)) × (List (List Int)) × Unit)) => R.ok (.rt (decide ((((List.length v_web : Nat) : Int) + ((List.length b489.1 : Nat) : Int)) = (((List.length b489.2.1 : Nat) : Int) + (2 : Int))))))
noncomputable def m_is_flat (a : (List (List Int))) : R Bool := fin0 (mb_is_flat a)
abbrev i_is_flat (a : (List (List Int))) : List Slot := [.val ((eT (eR D.int)) a)]
abbrev l_is_flat (b : Bool) : Slot := .val (D.bool b)
abbrev o_is_flat (b : Bool) : List Slot := [.non]
theorem ok_is_flat {P : Program} {w : World} {K : PySem.W.Frag} {mg : Str → Option Value} {base : Heap} (T : Top K mg) : FnG P w K mg base CX0 4 T.is_flat.a T.is_flat.d ["web"] (spM K i_is_flat m_is_flat l_is_flat o_is_flat) := by
  show FnG P w K mg base CX0 (3 + 1) T.is_flat.a T.is_flat.d ["web"] (spM K i_is_flat (fun (a : (List (List Int))) => fin0 (mb_is_flat a)) l_is_flat o_is_flat)
  refine fn_ok (n1 := fun _ => []) (c1 := fun _ => []) (k1 := fun _ => []) (ins := i_is_flat) (sl := l_is_flat) (outs := o_is_flat) (fun (a : (List (List Int))) => mb_is_flat a) 0 T.is_flat.f sc_is_flat rfl (fun _ => rfl) (fun _ => rfl) (fun _ => rfl) (fun cdv A outer s H E hr B hB a => ?_)
  show JSs _ B _ _ (mb_is_flat a) _
  unfold mb_is_flat
  exact ((js_one (js_ret (fun (b489 : ((List (List Int)) × (List (List Int)) × Unit)) => (decide ((((List.length a : Nat) : Int) + ((List.length b489.1 : Nat) : Int)) = (((List.length b489.2.1 : Nat) : Int) + (2 : Int))))) [false] (je_op2 (ρa := fun _ => _) (ρb := fun _ _ => _) (s := fun (x458 : (List (List Int))) (y459 : (List (List Int))) (z0 : Unit) => (.val (D.bool (decide ((((List.length a : Nat) : Int) + ((List.length x458 : Nat) : Int)) = (((List.length y459 : Nat) : Int) + (2 : Int))))))) (xa := fun (x458 : (List (List Int))) => D.int (((List.length a : Nat) : Int) + ((List.length x458 : Nat) : Int))) (xb := fun (x458 : (List (List Int))) (y459 : (List (List Int))) => D.int (((List.length y459 : Nat) : Int) + (2 : Int))) (fun _ _ ha hb => pe_cmpR op_eq ha hb (nomark _)) (je_opR (ρb := fun _ => _) (s := fun (y305 : (List (List Int))) => (.val (D.int (((List.length a : Nat) : Int) + ((List.length y305 : Nat) : Int))))) (xb := fun (y305 : (List (List Int))) => D.int ((List.length y305 : Nat) : Int)) (fun _ _ ha hb => pe_op op_add ha hb) (je_cb (fun _ ht => pe_callB call_len_seq (by rfl) T.z_len (by decide +kernel) ht) (ja_p (jp_var 0) ja_nil) cb_lenTm) (je_cbN (ρa := fun _ => _) (s := fun (c455 : (List (List Int))) => .val (D.int ((List.length c455 : Nat) : Int))) (fun _ ht => pe_callB call_len_seq (by rfl) T.z_len (by decide +kernel) ht) (ja_el (ρa := fun _ => _) (xa := fun (x454 : (List (List Int))) => (eL (eT D.int)) x454) (je_frzL (v := fun (b453 : (List (List Int))) => b453) (je_callV (ins := i_faces) (mf := m_faces) (sl := l_faces) (outs := o_faces) (ok_faces T) (hr.mono (by decide)) (by rfl) T.faces.g T.faces.f.kp T.faces.b pass0 (arg := a) (ja_p (jp_var 0) ja_nil) hB)) (fun x454 => ja_nil)) (fun c455 => cb_lenLm)) (fun y305 => od_add)) (fun x458 => (je_opL (ρa := fun _ => _) (s := fun (x486 : (List (List Int))) => (.val (D.int (((List.length x486 : Nat) : Int) + (2 : Int))))) (xa := fun (x486 : (List (List Int))) => D.int ((List.length x486 : Nat) : Int)) (y := fun (x486 : (List (List Int))) => D.int (2 : Int)) (fun _ _ ha hb => pe_op op_add ha hb) (je_cbN (ρa := fun _ => _) (s := fun (c484 : (List (List Int))) => .val (D.int ((List.length c484 : Nat) : Int))) (fun _ ht => pe_callB call_len_seq (by rfl) T.z_len (by decide +kernel) ht) (ja_el (ρa := fun _ => _) (xa := fun (x483 : (List (List Int))) => (eL (eT D.int)) x483) (je_frzL (v := fun (b482 : (List (List Int))) => b482) (je_callV (ins := i_ties) (mf := m_ties) (sl := l_ties) (outs := o_ties) (ok_ties T) (hr.mono (by decide)) (by rfl) T.ties.g T.ties.f.kp T.ties.b pass0 (arg := a) (ja_p (jp_var 0) ja_nil) hB)) (fun x483 => ja_nil)) (fun c484 => cb_lenLm)) (fun x486 => jp_int) (fun x486 => od_add))) (fun x458 y459 => od_eqI)))))
/-! want_flat -/
abbrev s_want_flat : Stmt := topS 16
theorem sc_want_flat : FnScope ["web"] ["web"] (defScope s_want_flat) := ⟨rfl, rfl, rfl, by decide +kernel, rfl, by decide +kernel, by decide +kernel⟩
noncomputable def mb_want_flat (v_web : (List (List Int))) : R (Fl Unit Unit Unit) :=
(bindF ((m_is_flat v_web).bind fun (b490 : Bool) => if (!b490) = true then R.bad else (R.ok (.nx ()))) fun n491 =>
(R.ok (.nx ())))
noncomputable def m_want_flat (a : (List (List Int))) : R Unit := finN (mb_want_flat a)
abbrev i_want_flat (a : (List (List Int))) : List Slot := [.val ((eT (eR D.int)) a)]
abbrev l_want_flat (_ : Unit) : Slot := .val .none
abbrev o_want_flat (b : Unit) : List Slot := [.non]
theorem ok_want_flat {P : Program} {w : World} {K : PySem.W.Frag} {mg : Str → Option Value} {base : Heap} (T : Top K mg) : FnG P w K mg base CX0 5 T.want_flat.a T.want_flat.d ["web"] (spM K i_want_flat m_want_flat l_want_flat o_want_flat) := by
  show FnG P w K mg base CX0 (4 + 1) T.want_flat.a T.want_flat.d ["web"] (spM K i_want_flat (fun (a : (List (List Int))) => finN (mb_want_flat a)) l_want_flat o_want_flat)
  refine fn_okN (s1 := fun _ => .non) (t1 := fun _ => []) (c1 := fun _ => []) (k1 := fun _ => []) (ins := i_want_flat)  (outs := o_want_flat) (fun (a : (List (List Int))) => mb_want_flat a) 0 T.want_flat.f sc_want_flat rfl (fun _ => rfl) (fun _ => rfl) (fun _ => rfl) (fun cdv A outer s H E hr B hB a => ?_)
  show JSs _ B _ _ (mb_want_flat a) _
  unfold mb_want_flat
  exact ((js_cons (ρ1 := fun (n491 : Unit) => [.val ((eT (eR D.int)) a)]) (js_if (jt_not (jt_val (je_callV (ins := i_is_flat) (mf := m_is_flat) (sl := l_is_flat) (outs := o_is_flat) (ok_is_flat T) (hr.mono (by decide)) (by rfl) T.is_flat.g T.is_flat.f.kp T.is_flat.b pass0 (arg := a) (ja_p (jp_var 0) ja_nil) hB))) (fun b490 => (js_one js_never)) (fun b490 => (js_nil [true] ()))) fun n491 =>
(js_nil [false] ())))
/-! other_faces -/
abbrev s_other_faces : Stmt := topS 20
theorem sc_other_faces : FnScope ["web", "face"] ["web"] (defScope s_other_faces) := ⟨rfl, rfl, rfl, by decide +kernel, rfl, by decide +kernel, by decide +kernel⟩
noncomputable def mb_other_faces (v_web : (List (List Int))) : R (Fl Unit Unit (List (List Int))) :=
(((m_faces v_web).bind fun (b494 : (List (List Int))) => (R.guard (List.length b494 ≤ sizeLine)).bind fun _ => R.ok b494).bind fun (b500 : (List (List Int))) => R.ok (.rt (List.map (fun (x496 : (List Int)) => x496) (List.filter (fun (x496 : (List Int)) => (!decide (((List.length x496 : Nat) : Int) = (3 : Int)))) b500))))
noncomputable def m_other_faces (a : (List (List Int))) : R (List (List Int)) := fin0 (mb_other_faces a)
abbrev i_other_faces (a : (List (List Int))) : List Slot := [.val ((eT (eR D.int)) a)]
abbrev l_other_faces (b : (List (List Int))) : Slot := .own 0 ((oL (eT D.int)) b)
abbrev o_other_faces (b : (List (List Int))) : List Slot := [.non]
theorem ok_other_faces {P : Program} {w : World} {K : PySem.W.Frag} {mg : Str → Option Value} {base : Heap} (T : Top K mg) : FnG P w K mg base CX0 4 T.other_faces.a T.other_faces.d ["web"] (spM K i_other_faces m_other_faces l_other_faces o_other_faces) := by
  show FnG P w K mg base CX0 (3 + 1) T.other_faces.a T.other_faces.d ["web"] (spM K i_other_faces (fun (a : (List (List Int))) => fin0 (mb_other_faces a)) l_other_faces o_other_faces)
  refine fn_ok (n1 := fun _ => []) (c1 := fun _ => []) (k1 := fun _ => []) (ins := i_other_faces) (sl := l_other_faces) (outs := o_other_faces) (fun (a : (List (List Int))) => mb_other_faces a) 1 T.other_faces.f sc_other_faces rfl (fun _ => rfl) (fun _ => rfl) (fun _ => rfl) (fun cdv A outer s H E hr B hB a => ?_)
  show JSs _ B _ _ (mb_other_faces a) _
  unfold mb_other_faces
  exact ((js_one (js_ret (fun (b500 : (List (List Int))) => (List.map (fun (x496 : (List Int)) => x496) (List.filter (fun (x496 : (List Int)) => (!decide (((List.length x496 : Nat) : Int) = (3 : Int)))) b500))) [false, true] (je_lcP (xs := fun (b494 : (List (List Int))) => b494) (ea := (eT D.int)) (ts := [1]) [("face", 1)] (eT D.int) (fun (x496 : (List Int)) => [.val ((eT (eR D.int)) a), .val ((eT D.int) x496)]) (fun (x496 : (List Int)) => (!decide (((List.length x496 : Nat) : Int) = (3 : Int)))) (fun (x496 : (List Int)) => x496) rfl sc_other_faces.nd (ji_list (je_frzL (v := fun (b493 : (List (List Int))) => b493) (je_callV (ins := i_faces) (mf := m_faces) (sl := l_faces) (outs := o_faces) (ok_faces T) (hr.mono (by decide)) (by rfl) T.faces.g T.faces.f.kp T.faces.b pass0 (arg := a) (ja_p (jp_var 0) ja_nil) hB))) (blkOk_by (N := ["web", "face"]) (sc := defScope s_other_faces) (by decide +kernel)) (fun _ _ _ _ _ _ hB497 x496 => (have hB := noRs hB497 hB; (jn_name 1 sc_other_faces.nd))) (fun _ _ _ _ _ _ hB497 x496 => (have hB := noRs hB497 hB; (jts_one (jt_pb (jt_op (fun _ _ ha hb => pt_cmpR op_ne ha hb (nomark _)) (je_cb (fun _ ht => pe_callB call_len_seq (by rfl) T.z_len (by decide +kernel) ht) (ja_p (jp_var 1) ja_nil) cb_lenTm) (jp_gint T.g_CORNERS) od_neI))))) (fun _ _ _ _ _ _ hB497 x496 => (have hB := noRs hB497 hB; (jp_var 1)))))))
/-! want_cornered -/
abbrev s_want_cornered : Stmt := topS 22
theorem sc_want_cornered : FnScope ["web", "some"] ["web"] (defScope s_want_cornered) := ⟨rfl, rfl, rfl, by decide +kernel, rfl, by decide +kernel, by decide +kernel⟩
noncomputable def mb_want_cornered (v_web : (List (List Int))) : R (Fl Unit Unit Unit) :=
((m_want_flat v_web).bind fun (b492 : Unit) =>
((m_other_faces v_web).bind fun (b503 : (List (List Int))) => lt b503 fun v_some_502 =>
(bindF (if (!decide (v_some_502 = ([] : List (List Int)))) = true then R.bad else (R.ok (.nx ()))) fun n508 =>
(R.ok (.nx ())))))
noncomputable def m_want_cornered (a : (List (List Int))) : R Unit := finN (mb_want_cornered a)
abbrev i_want_cornered (a : (List (List Int))) : List Slot := [.val ((eT (eR D.int)) a)]
abbrev l_want_cornered (_ : Unit) : Slot := .val .none
abbrev o_want_cornered (b : Unit) : List Slot := [.non]
theorem ok_want_cornered {P : Program} {w : World} {K : PySem.W.Frag} {mg : Str → Option Value} {base : Heap} (T : Top K mg) : FnG P w K mg base CX0 6 T.want_cornered.a T.want_cornered.d ["web"] (spM K i_want_cornered m_want_cornered l_want_cornered o_want_cornered) := by
  show FnG P w K mg base CX0 (5 + 1) T.want_cornered.a T.want_cornered.d ["web"] (spM K i_want_cornered (fun (a : (List (List Int))) => finN (mb_want_cornered a)) l_want_cornered o_want_cornered)
  refine fn_okN (s1 := fun _ => .non) (t1 := fun _ => []) (c1 := fun _ => []) (k1 := fun _ => []) (ins := i_want_cornered)  (outs := o_want_cornered) (fun (a : (List (List Int))) => mb_want_cornered a) 1 T.want_cornered.f sc_want_cornered rfl (fun _ => rfl) (fun _ => rfl) (fun _ => rfl) (fun cdv A outer s H E hr B hB a => ?_)
  show JSs _ B _ _ (mb_want_cornered a) _
  unfold mb_want_cornered
  exact ((js_consQ1 (fun (b492 : Unit) => [.val ((eT (eR D.int)) a), .non]) (j1_expr (je_callV (ins := i_want_flat) (mf := m_want_flat) (sl := l_want_flat) (outs := o_want_flat) (ok_want_flat T) (hr.mono (by decide)) (by rfl) T.want_flat.g T.want_flat.f.kp T.want_flat.b pass0 (arg := a) (ja_p (jp_var 0) ja_nil) hB)) fun b492 =>
(js_setEQ 1 (eL (eT D.int)) (fun (b503 : (List (List Int))) => b503) (fun (b503 : (List (List Int))) (v_some_502 : (List (List Int))) => [.val ((eT (eR D.int)) a), .val ((eL (eT D.int)) v_some_502)]) sc_want_cornered.nd (je_frzL (v := fun (b501 : (List (List Int))) => b501) (je_callV (ins := i_other_faces) (mf := m_other_faces) (sl := l_other_faces) (outs := o_other_faces) (ok_other_faces T) (hr.mono (by decide)) (by rfl) T.other_faces.g T.other_faces.f.kp T.other_faces.b pass0 (arg := a) (ja_p (jp_var 0) ja_nil) hB)) fun b503 v_some_502 =>
(js_cons (ρ1 := fun (n508 : Unit) => [.val ((eT (eR D.int)) a), .val ((eL (eT D.int)) v_some_502)]) (js_ifP (jt_op (fun _ _ ha hb => pt_cmpR (op_neD (un64 hr)) ha hb (nomark _)) (jp_var 1) (je_frzL (v := fun (b506 : Unit) => ([] : List (List Int))) (je_lstT (eT D.int) (fun (_ : Unit) => ([] : List (List Int))) ja_nil)) (od_neD (ee_L (ee_T ee_int)))) (js_one js_never) (js_nil [true, true] ())) fun n508 =>
(js_nil [false, false] ())))))
/-! is_whole -/
abbrev s_is_whole : Stmt := topS 7
theorem sc_is_whole : FnScope ["thing"] ["thing"] (defScope s_is_whole) := ⟨rfl, rfl, rfl, by decide +kernel, rfl, by decide +kernel, by decide +kernel⟩
noncomputable def mb_is_whole (v_thing : Int) : R (Fl Unit Unit Bool) :=
(R.ok (.rt ((isInt (D.int v_thing)) && (!(isBool (D.int v_thing))))))
noncomputable def m_is_whole (a : Int) : R Bool := fin0 (mb_is_whole a)
abbrev i_is_whole (a : Int) : List Slot := [.val (D.int a)]
abbrev l_is_whole (b : Bool) : Slot := .val (D.bool b)
abbrev o_is_whole (b : Bool) : List Slot := [.non]
theorem ok_is_whole {P : Program} {w : World} {K : PySem.W.Frag} {mg : Str → Option Value} {base : Heap} (T : Top K mg) : FnG P w K mg base CX0 1 T.is_whole.a T.is_whole.d ["thing"] (spM K i_is_whole m_is_whole l_is_whole o_is_whole) := by
  show FnG P w K mg base CX0 (0 + 1) T.is_whole.a T.is_whole.d ["thing"] (spM K i_is_whole (fun (a : Int) => fin0 (mb_is_whole a)) l_is_whole o_is_whole)
  refine fn_ok (n1 := fun _ => []) (c1 := fun _ => []) (k1 := fun _ => []) (ins := i_is_whole) (sl := l_is_whole) (outs := o_is_whole) (fun (a : Int) => mb_is_whole a) 0 T.is_whole.f sc_is_whole rfl (fun _ => rfl) (fun _ => rfl) (fun _ => rfl) (fun cdv A outer s H E hr B hB a => ?_)
  show JSs _ B _ _ (mb_is_whole a) _
  unfold mb_is_whole
  exact ((js_one (js_retP ((isInt (D.int a)) && (!(isBool (D.int a)))) [false] (jp_and (je_isi isi_int (jp_var 0) T.z_isinstance T.z_int (by decide +kernel)) (jp_one (je_not (je_isi isi_bool (jp_var 0) T.z_isinstance T.z_bool (by decide +kernel))))))))
/-! is_place -/
abbrev s_is_place : Stmt := topS 19
theorem sc_is_place : FnScope ["web", "thing"] ["web", "thing"] (defScope s_is_place) := ⟨rfl, rfl, rfl, by decide +kernel, rfl, by decide +kernel, by decide +kernel⟩
noncomputable def mb_is_place (v_web : (List (List Int))) (v_thing : Int) : R (Fl Unit Unit Bool) :=
((and2 (m_is_whole v_thing) (fun (b517 : Bool) => b517) ((R.ok ()).bind fun (b516 : Unit) => R.ok ((decide ((0 : Int) ≤ v_thing)) && (decide (v_thing < ((List.length v_web : Nat) : Int)))))).bind fun (b518 : Bool) => R.ok (.rt b518))
noncomputable def m_is_place (a : ((List (List Int)) × Int)) : R Bool := fin0 (mb_is_place a.1 a.2)
abbrev i_is_place (a : ((List (List Int)) × Int)) : List Slot := [.val ((eT (eR D.int)) a.1), .val (D.int a.2)]
abbrev l_is_place (b : Bool) : Slot := .val (D.bool b)
abbrev o_is_place (b : Bool) : List Slot := [.non, .non]
theorem ok_is_place {P : Program} {w : World} {K : PySem.W.Frag} {mg : Str → Option Value} {base : Heap} (T : Top K mg) : FnG P w K mg base CX0 2 T.is_place.a T.is_place.d ["web", "thing"] (spM K i_is_place m_is_place l_is_place o_is_place) := by
  show FnG P w K mg base CX0 (1 + 1) T.is_place.a T.is_place.d ["web", "thing"] (spM K i_is_place (fun (a : ((List (List Int)) × Int)) => fin0 (mb_is_place a.1 a.2)) l_is_place o_is_place)
  refine fn_ok (n1 := fun _ => []) (c1 := fun _ => []) (k1 := fun _ => []) (ins := i_is_place) (sl := l_is_place) (outs := o_is_place) (fun (a : ((List (List Int)) × Int)) => mb_is_place a.1 a.2) 0 T.is_place.f sc_is_place rfl (fun _ => rfl) (fun _ => rfl) (fun _ => rfl) (fun cdv A outer s H E hr B hB a => ?_)
  show JSs _ B _ _ (mb_is_place a.1 a.2) _
  unfold mb_is_place
  exact ((js_one (js_ret (fun (b518 : Bool) => b518) [false, false] (je_and (xa := fun (b517 : Bool) => b517) (je_callV (ins := i_is_whole) (mf := m_is_whole) (sl := l_is_whole) (outs := o_is_whole) (ok_is_whole T) (hr.mono (by decide)) (by rfl) T.is_whole.g T.is_whole.f.kp T.is_whole.b pass0 (arg := a.2) (ja_p (jp_var 1) ja_nil) hB) (jp_one (je_map (sl' := fun y => .val (.bool y)) (f := fun (b516 : Unit) => ((decide ((0 : Int) ≤ a.2)) && (decide (a.2 < ((List.length a.1 : Nat) : Int))))) (jp_chain (fun _ _ _ ha hb hc => pe_chain op_le op_lt ha hb hc) jp_int (jp_var 1) (je_cb (fun _ ht => pe_callB call_len_seq (by rfl) T.z_len (by decide +kernel) ht) (ja_p (jp_var 0) ja_nil) cb_lenTm) od_le od_lt) (fun _ => rfl)))))))
/-! is_base -/
abbrev s_is_base : Stmt := topS 21
theorem sc_is_base : FnScope ["web", "thing", "a", "b", "c", "one"] ["web", "thing"] (defScope s_is_base) := ⟨rfl, rfl, rfl, by decide +kernel, rfl, by decide +kernel, by decide +kernel⟩
noncomputable def mb_is_base (v_web : (List (List Int))) (v_thing : (Int × Int × Int)) : R (Fl Unit Unit Bool) :=
(bindF ((or2 (R.ok ()) (fun (b528 : Unit) => (!(isTup ((eP3 D.int D.int D.int) v_thing)))) (or2 (R.ok ()) (fun (b527 : Unit) => (!decide ((3 : Int) = (3 : Int)))) (((R.ok ()).bind fun (b512 : Unit) => (R.guard (List.length [v_thing.1, v_thing.2.1, v_thing.2.2] ≤ sizeLine)).bind fun _ => compR (compF (fun (x514 : Int) (s513 : Unit) => R.ok ()) (fun (z520 : Unit) => true) (fun (x514 : Int) (s513 : Unit) => ((m_is_place (v_web, x514)).bind fun (y519 : Bool) => R.ok (y519, ()))) Prod.fst Prod.snd) [v_thing.1, v_thing.2.1, v_thing.2.2] [] ()).bind fun (b526 : ((List Bool) × Unit)) => R.ok (!(List.all b526.1 id))))).bind fun (b529 : Bool) => if b529 = true then (R.ok (.rt false)) else (R.ok (.nx ()))) fun n530 =>
((and2 (R.some (atI v_web v_thing.1)) (fun (b549 : (List Int)) => (hasL v_thing.2.2 b549)) ((m_behind (v_web, (v_thing.1, v_thing.2.2))).bind fun (b548 : (Int × Int)) => R.ok (decide (b548 = (v_thing.2.2, v_thing.2.1))))).bind fun (b550 : Bool) => R.ok (.rt b550)))
noncomputable def m_is_base (a : ((List (List Int)) × (Int × Int × Int))) : R Bool := fin0 (mb_is_base a.1 a.2)
abbrev i_is_base (a : ((List (List Int)) × (Int × Int × Int))) : List Slot := [.val ((eT (eR D.int)) a.1), .val ((eP3 D.int D.int D.int) a.2)]
abbrev l_is_base (b : Bool) : Slot := .val (D.bool b)
abbrev o_is_base (b : Bool) : List Slot := [.non, .non]
theorem ok_is_base {P : Program} {w : World} {K : PySem.W.Frag} {mg : Str → Option Value} {base : Heap} (T : Top K mg) : FnG P w K mg base CX0 3 T.is_base.a T.is_base.d ["web", "thing"] (spM K i_is_base m_is_base l_is_base o_is_base) := by
  show FnG P w K mg base CX0 (2 + 1) T.is_base.a T.is_base.d ["web", "thing"] (spM K i_is_base (fun (a : ((List (List Int)) × (Int × Int × Int))) => fin0 (mb_is_base a.1 a.2)) l_is_base o_is_base)
  refine fn_ok (n1 := fun _ => []) (c1 := fun _ => []) (k1 := fun _ => []) (ins := i_is_base) (sl := l_is_base) (outs := o_is_base) (fun (a : ((List (List Int)) × (Int × Int × Int))) => mb_is_base a.1 a.2) 4 T.is_base.f sc_is_base rfl (fun _ => rfl) (fun _ => rfl) (fun _ => rfl) (fun cdv A outer s H E hr B hB a => ?_)
  show JSs _ B _ _ (mb_is_base a.1 a.2) _
  unfold mb_is_base
  exact ((js_cons (ρ1 := fun (n530 : Unit) => [.val ((eT (eR D.int)) a.1), .val ((eP3 D.int D.int D.int) a.2), .non, .non, .non, .non]) (js_if (jt_w (jw_or (xa := fun (b528 : Unit) => (!(isTup ((eP3 D.int D.int D.int) a.2)))) (jt_not (jt_val (je_isi isi_tuple (jp_var 1) T.z_isinstance T.z_tuple (by decide +kernel)))) (jw_or (xa := fun (b527 : Unit) => (!decide ((3 : Int) = (3 : Int)))) (jt_op (fun _ _ ha hb => pt_cmpR op_ne ha hb (nomark _)) (je_cb (fun _ ht => pe_callB call_len_seq (by rfl) T.z_len (by decide +kernel) ht) (ja_p (jp_var 1) ja_nil) cb_lenP3) (jp_gint T.g_CORNERS) od_neI) (jw_or1 (jt_map (jt_not (jt_val (je_cbN (ρa := fun _ => _) (s := fun (c524 : ((List Bool) × Unit)) => .val (D.bool (List.all c524.1 id))) (fun _ ht => pe_callB (cr_all rfl) (by rfl) T.z_all (by decide +kernel) ht) (ja_el (ρa := fun _ => _) (xa := fun (x523 : ((List Bool) × Unit)) => (eL D.bool) x523.1) (je_frzL (v := fun (b522 : ((List Bool) × Unit)) => b522.1) (je_lc (xs := fun (b512 : Unit) => [a.2.1, a.2.2.1, a.2.2.2]) (ea := D.int) (ts := [5]) (c := fun (x514 : Int) (s513 : Unit) => R.ok ()) (bn := fun (z520 : Unit) => true) (me := fun (x514 : Int) (s513 : Unit) => ((m_is_place (a.1, x514)).bind fun (y519 : Bool) => R.ok (y519, ()))) [("one", 5)] D.bool (fun (s513 : Unit) => [.val ((eT (eR D.int)) a.1), .val ((eP3 D.int D.int D.int) a.2), .non, .non, .non, .non]) (fun (b512 : Unit) => ()) (fun (x514 : Int) (s513 : Unit) => [.val ((eT (eR D.int)) a.1), .val ((eP3 D.int D.int D.int) a.2), .non, .non, .non, .val (D.int x514)]) Prod.fst Prod.snd rfl sc_is_base.nd (ji_tup (show JP _ _ _ _ ((eT D.int) [a.2.1, a.2.2.1, a.2.2.2]) from (jp_var 1))) (blkOk_by (N := ["web", "thing", "a", "b", "c", "one"]) (sc := defScope s_is_base) (by decide +kernel)) (fun _ => rfl) (fun _ _ _ _ _ _ hB515 x514 s513 => (have hB := noRs hB515 hB; (jn_name 5 sc_is_base.nd))) (fun _ _ _ _ _ _ hB515 x514 s513 => (have hB := noRs hB515 hB; jts_nil)) (fun _ _ _ _ _ _ hB515 x514 s513 => (have hB := noRs hB515 hB; (je_mapS (en := D.bool) (v := fun (y519 : Bool) => y519) (st := fun (y519 : Bool) => ()) (ρ' := fun (s521 : Unit) => [.val ((eT (eR D.int)) a.1), .val ((eP3 D.int D.int D.int) a.2), .non, .non, .non, .val (D.int x514)]) (je_callV (ins := i_is_place) (mf := m_is_place) (sl := l_is_place) (outs := o_is_place) (ok_is_place T) (hr.mono (by decide)) (by rfl) T.is_place.g T.is_place.f.kp T.is_place.b pass0 (arg := (a.1, x514)) (ja_p (jp_var 0) (ja_p (jp_var 5) ja_nil)) hB)))))) (fun x523 => ja_nil)) (fun c524 => cb_allL))))))))) (fun b529 => (js_one (js_retP false [false, false, true, true, true, true] jp_bl))) (fun b529 => (js_nil [true, true, true, true, true, true] ()))) fun n530 =>
(js_consQP [.val ((eT (eR D.int)) a.1), .val ((eP3 D.int D.int D.int) a.2), .val (D.int a.2.1), .val (D.int a.2.2.1), .val (D.int a.2.2.2), .non] (j1_asgN (d := fun (b531 : Unit) => (eP3 D.int D.int D.int) a.2) (jp_var 1) (fun b531 => jg_tup rfl (jgs_p (jg_name 2 sc_is_base.nd) (jgs_p (jg_name 3 sc_is_base.nd) (jgs_p (jg_name 4 sc_is_base.nd) jgs_nil)))))
(js_one (js_ret (fun (b550 : Bool) => b550) [false, false, false, false, false, true] (je_and (xa := fun (b549 : (List Int)) => (hasL a.2.2.2 b549)) (je_opR (ρb := fun _ => _) (s := fun (y536 : (List Int)) => (.val (D.bool (hasL a.2.2.2 y536)))) (xb := fun (y536 : (List Int)) => (eT D.int) y536) (fun _ _ ha hb => pe_cmpR op_in_seq ha hb (by rfl)) (jp_var 4) (je_wk (d := fun (b539 : (List Int)) => (eR D.int) b539) (d' := fun (b539 : (List Int)) => (eT D.int) b539) (fun b539 => (fun _ => wk_R _ _) (b539)) (je_op (fun _ _ ha hb => pe_ix ix_tup ha hb (fun _ _ => rfl)) (jp_var 0) (jp_var 2) od_ixTm)) (fun y536 => od_inTI)) (jp_one (je_map (sl' := fun y => .val (.bool y)) (f := fun (b548 : (Int × Int)) => (decide (b548 = (a.2.2.2, a.2.2.1)))) (je_opL (ρa := fun _ => _) (s := fun (x543 : (Int × Int)) => (.val (D.bool (decide (x543 = (a.2.2.2, a.2.2.1)))))) (xa := fun (x543 : (Int × Int)) => (eP2 D.int D.int) x543) (y := fun (x543 : (Int × Int)) => (eP2 D.int D.int) (a.2.2.2, a.2.2.1)) (fun _ _ ha hb => pe_cmpR (op_eqD (un64 hr)) ha hb (nomark _)) (je_wk (d := fun (b542 : (Int × Int)) => eK2 b542) (d' := fun (b542 : (Int × Int)) => (eP2 D.int D.int) b542) (fun b542 => (fun _ => wk_K2 _) (b542)) (je_callV (ins := i_behind) (mf := m_behind) (sl := l_behind) (outs := o_behind) (ok_behind T) (hr.mono (by decide)) (by rfl) T.behind.g T.behind.f.kp T.behind.b pass0 (arg := (a.1, (a.2.1, a.2.2.2))) (ja_p (jp_var 0) (ja_p (je_tupK (p := fun (b541 : Unit) => (a.2.1, a.2.2.2)) (ja_p (jp_var 2) (ja_p (jp_var 4) ja_nil))) ja_nil)) hB)) (fun x543 => (je_wk (d := fun (b546 : Unit) => eK2 (a.2.2.2, a.2.2.1)) (d' := fun (b546 : Unit) => (eP2 D.int D.int) (a.2.2.2, a.2.2.1)) (fun b546 => (fun _ => wk_K2 _) ((a.2.2.2, a.2.2.1))) (je_tupK (p := fun (b545 : Unit) => (a.2.2.2, a.2.2.1)) (ja_p (jp_var 4) (ja_p (jp_var 3) ja_nil))))) (fun x543 => (od_eqD (ee_p2 ee_int ee_int)))) (fun _ => rfl)))))))))
/-! want_base -/
abbrev s_want_base : Stmt := topS 23
theorem sc_want_base : FnScope ["web", "base"] ["web", "base"] (defScope s_want_base) := ⟨rfl, rfl, rfl, by decide +kernel, rfl, by decide +kernel, by decide +kernel⟩
noncomputable def mb_want_base (v_web : (List (List Int))) (v_base : (Int × Int × Int)) : R (Fl Unit Unit Unit) :=
((m_want_cornered v_web).bind fun (b509 : Unit) =>
(bindF ((m_is_base (v_web, v_base)).bind fun (b551 : Bool) => if (!b551) = true then R.bad else (R.ok (.nx ()))) fun n552 =>
(R.ok (.nx ()))))
noncomputable def m_want_base (a : ((List (List Int)) × (Int × Int × Int))) : R Unit := finN (mb_want_base a.1 a.2)
abbrev i_want_base (a : ((List (List Int)) × (Int × Int × Int))) : List Slot := [.val ((eT (eR D.int)) a.1), .val ((eP3 D.int D.int D.int) a.2)]
abbrev l_want_base (_ : Unit) : Slot := .val .none
abbrev o_want_base (b : Unit) : List Slot := [.non, .non]
theorem ok_want_base {P : Program} {w : World} {K : PySem.W.Frag} {mg : Str → Option Value} {base : Heap} (T : Top K mg) : FnG P w K mg base CX0 7 T.want_base.a T.want_base.d ["web", "base"] (spM K i_want_base m_want_base l_want_base o_want_base) := by
  show FnG P w K mg base CX0 (6 + 1) T.want_base.a T.want_base.d ["web", "base"] (spM K i_want_base (fun (a : ((List (List Int)) × (Int × Int × Int))) => finN (mb_want_base a.1 a.2)) l_want_base o_want_base)
  refine fn_okN (s1 := fun _ => .non) (t1 := fun _ => []) (c1 := fun _ => []) (k1 := fun _ => []) (ins := i_want_base)  (outs := o_want_base) (fun (a : ((List (List Int)) × (Int × Int × Int))) => mb_want_base a.1 a.2) 0 T.want_base.f sc_want_base rfl (fun _ => rfl) (fun _ => rfl) (fun _ => rfl) (fun cdv A outer s H E hr B hB a => ?_)
  show JSs _ B _ _ (mb_want_base a.1 a.2) _
  unfold mb_want_base
  exact ((js_consQ1 (fun (b509 : Unit) => [.val ((eT (eR D.int)) a.1), .val ((eP3 D.int D.int D.int) a.2)]) (j1_expr (je_callV (ins := i_want_cornered) (mf := m_want_cornered) (sl := l_want_cornered) (outs := o_want_cornered) (ok_want_cornered T) (hr.mono (by decide)) (by rfl) T.want_cornered.g T.want_cornered.f.kp T.want_cornered.b pass0 (arg := a.1) (ja_p (jp_var 0) ja_nil) hB)) fun b509 =>
(js_cons (ρ1 := fun (n552 : Unit) => [.val ((eT (eR D.int)) a.1), .val ((eP3 D.int D.int D.int) a.2)]) (js_if (jt_not (jt_val (je_callV (ins := i_is_base) (mf := m_is_base) (sl := l_is_base) (outs := o_is_base) (ok_is_base T) (hr.mono (by decide)) (by rfl) T.is_base.g T.is_base.f.kp T.is_base.b pass0 (arg := (a.1, a.2)) (ja_p (jp_var 0) (ja_p (jp_var 1) ja_nil)) hB))) (fun b551 => (js_one js_never)) (fun b551 => (js_nil [true, true] ()))) fun n552 =>
(js_nil [false, false] ()))))
/-! is_row_of_all -/
abbrev s_is_row_of_all : Stmt := topS 25
theorem sc_is_row_of_all : FnScope ["web", "thing", "one"] ["web", "thing"] (defScope s_is_row_of_all) := ⟨rfl, rfl, rfl, by decide +kernel, rfl, by decide +kernel, by decide +kernel⟩
noncomputable def mb_is_row_of_all (v_web : (List (List Int))) (v_thing : (List Int)) : R (Fl Unit Unit Bool) :=
(bindF ((or2 (R.ok ()) (fun (b571 : Unit) => (!(isTup ((eR D.int) v_thing)))) (or2 (R.ok ()) (fun (b570 : Unit) => (!decide (((List.length v_thing : Nat) : Int) = ((List.length v_web : Nat) : Int)))) (((R.ok ()).bind fun (b558 : Unit) => (R.guard (List.length v_thing ≤ sizeLine)).bind fun _ => compR (compF (fun (x560 : Int) (s559 : Unit) => R.ok ()) (fun (z563 : Unit) => true) (fun (x560 : Int) (s559 : Unit) => ((m_is_place (v_web, x560)).bind fun (y562 : Bool) => R.ok (y562, ()))) Prod.fst Prod.snd) v_thing [] ()).bind fun (b569 : ((List Bool) × Unit)) => R.ok (!(List.all b569.1 id))))).bind fun (b572 : Bool) => if b572 = true then (R.ok (.rt false)) else (R.ok (.nx ()))) fun n573 =>
((R.guard (List.length v_thing ≤ 1000)).bind fun (b578 : Unit) => R.ok (.rt (decide (((List.length (nub v_thing) : Nat) : Int) = ((List.length v_web : Nat) : Int))))))
noncomputable def m_is_row_of_all (a : ((List (List Int)) × (List Int))) : R Bool := fin0 (mb_is_row_of_all a.1 a.2)
abbrev i_is_row_of_all (a : ((List (List Int)) × (List Int))) : List Slot := [.val ((eT (eR D.int)) a.1), .val ((eR D.int) a.2)]
abbrev l_is_row_of_all (b : Bool) : Slot := .val (D.bool b)
abbrev o_is_row_of_all (b : Bool) : List Slot := [.non, .non]
theorem ok_is_row_of_all {P : Program} {w : World} {K : PySem.W.Frag} {mg : Str → Option Value} {base : Heap} (T : Top K mg) : FnG P w K mg base CX0 3 T.is_row_of_all.a T.is_row_of_all.d ["web", "thing"] (spM K i_is_row_of_all m_is_row_of_all l_is_row_of_all o_is_row_of_all) := by
  show FnG P w K mg base CX0 (2 + 1) T.is_row_of_all.a T.is_row_of_all.d ["web", "thing"] (spM K i_is_row_of_all (fun (a : ((List (List Int)) × (List Int))) => fin0 (mb_is_row_of_all a.1 a.2)) l_is_row_of_all o_is_row_of_all)
  refine fn_ok (n1 := fun _ => []) (c1 := fun _ => []) (k1 := fun _ => []) (ins := i_is_row_of_all) (sl := l_is_row_of_all) (outs := o_is_row_of_all) (fun (a : ((List (List Int)) × (List Int))) => mb_is_row_of_all a.1 a.2) 1 T.is_row_of_all.f sc_is_row_of_all rfl (fun _ => rfl) (fun _ => rfl) (fun _ => rfl) (fun cdv A outer s H E hr B hB a => ?_)
  show JSs _ B _ _ (mb_is_row_of_all a.1 a.2) _
  unfold mb_is_row_of_all
  exact ((js_cons (ρ1 := fun (n573 : Unit) => [.val ((eT (eR D.int)) a.1), .val ((eR D.int) a.2), .non]) (js_if (jt_w (jw_or (xa := fun (b571 : Unit) => (!(isTup ((eR D.int) a.2)))) (jt_not (jt_val (je_isi isi_tuple (jp_var 1) T.z_isinstance T.z_tuple (by decide +kernel)))) (jw_or (xa := fun (b570 : Unit) => (!decide (((List.length a.2 : Nat) : Int) = ((List.length a.1 : Nat) : Int)))) (jt_op (fun _ _ ha hb => pt_cmpR op_ne ha hb (nomark _)) (je_cb (fun _ ht => pe_callB call_len_seq (by rfl) T.z_len (by decide +kernel) ht) (ja_p (je_wk (d := fun (b554 : Unit) => (eR D.int) a.2) (d' := fun (b554 : Unit) => (eT D.int) a.2) (fun b554 => (fun _ => wk_R _ _) (a.2)) (jp_var 1)) ja_nil) cb_lenTm) (je_cb (fun _ ht => pe_callB call_len_seq (by rfl) T.z_len (by decide +kernel) ht) (ja_p (jp_var 0) ja_nil) cb_lenTm) od_neI) (jw_or1 (jt_map (jt_not (jt_val (je_cbN (ρa := fun _ => _) (s := fun (c567 : ((List Bool) × Unit)) => .val (D.bool (List.all c567.1 id))) (fun _ ht => pe_callB (cr_all rfl) (by rfl) T.z_all (by decide +kernel) ht) (ja_el (ρa := fun _ => _) (xa := fun (x566 : ((List Bool) × Unit)) => (eL D.bool) x566.1) (je_frzL (v := fun (b565 : ((List Bool) × Unit)) => b565.1) (je_lc (xs := fun (b558 : Unit) => a.2) (ea := D.int) (ts := [2]) (c := fun (x560 : Int) (s559 : Unit) => R.ok ()) (bn := fun (z563 : Unit) => true) (me := fun (x560 : Int) (s559 : Unit) => ((m_is_place (a.1, x560)).bind fun (y562 : Bool) => R.ok (y562, ()))) [("one", 2)] D.bool (fun (s559 : Unit) => [.val ((eT (eR D.int)) a.1), .val ((eR D.int) a.2), .non]) (fun (b558 : Unit) => ()) (fun (x560 : Int) (s559 : Unit) => [.val ((eT (eR D.int)) a.1), .val ((eR D.int) a.2), .val (D.int x560)]) Prod.fst Prod.snd rfl sc_is_row_of_all.nd (ji_tup (je_wk (d := fun (b557 : Unit) => (eR D.int) a.2) (d' := fun (b557 : Unit) => (eT D.int) a.2) (fun b557 => (fun _ => wk_R _ _) (a.2)) (jp_var 1))) (blkOk_by (N := ["web", "thing", "one"]) (sc := defScope s_is_row_of_all) (by decide +kernel)) (fun _ => rfl) (fun _ _ _ _ _ _ hB561 x560 s559 => (have hB := noRs hB561 hB; (jn_name 2 sc_is_row_of_all.nd))) (fun _ _ _ _ _ _ hB561 x560 s559 => (have hB := noRs hB561 hB; jts_nil)) (fun _ _ _ _ _ _ hB561 x560 s559 => (have hB := noRs hB561 hB; (je_mapS (en := D.bool) (v := fun (y562 : Bool) => y562) (st := fun (y562 : Bool) => ()) (ρ' := fun (s564 : Unit) => [.val ((eT (eR D.int)) a.1), .val ((eR D.int) a.2), .val (D.int x560)]) (je_callV (ins := i_is_place) (mf := m_is_place) (sl := l_is_place) (outs := o_is_place) (ok_is_place T) (hr.mono (by decide)) (by rfl) T.is_place.g T.is_place.f.kp T.is_place.b pass0 (arg := (a.1, x560)) (ja_p (jp_var 0) (ja_p (jp_var 2) ja_nil)) hB)))))) (fun x566 => ja_nil)) (fun c567 => cb_allL))))))))) (fun b572 => (js_one (js_retP false [false, false, true] jp_bl))) (fun b572 => (js_nil [true, true, true] ()))) fun n573 =>
(js_one (js_ret (fun (b578 : Unit) => (decide (((List.length (nub a.2) : Nat) : Int) = ((List.length a.1 : Nat) : Int)))) [false, false, true] (je_opL (ρa := fun _ => _) (s := fun (x575 : Unit) => (.val (D.bool (decide (((List.length (nub a.2) : Nat) : Int) = ((List.length a.1 : Nat) : Int)))))) (xa := fun (x575 : Unit) => D.int ((List.length (nub a.2) : Nat) : Int)) (y := fun (x575 : Unit) => D.int ((List.length a.1 : Nat) : Int)) (fun _ _ ha hb => pe_cmpR op_eq ha hb (nomark _)) (je_lenSet rfl T.z_len T.z_set (je_wk (d := fun (b574 : Unit) => (eR D.int) a.2) (d' := fun (b574 : Unit) => (eT D.int) a.2) (fun b574 => (fun _ => wk_R _ _) (a.2)) (jp_var 1))) (fun x575 => (je_cb (fun _ ht => pe_callB call_len_seq (by rfl) T.z_len (by decide +kernel) ht) (ja_p (jp_var 0) ja_nil) cb_lenTm)) (fun x575 => od_eqI))))))
/-! part_of -/
abbrev s_part_of : Stmt := topS 26
theorem sc_part_of : FnScope ["row", "some", "there", "k", "place"] ["row", "some"] (defScope s_part_of) := ⟨rfl, rfl, rfl, by decide +kernel, rfl, by decide +kernel, by decide +kernel⟩
noncomputable def mb_part_of (v_row : (List Int)) (v_some : (List Int)) : R (Fl Unit Unit D) :=
(((R.ok ()).bind fun (b614 : Unit) => (R.guard (List.length (enumL v_row) ≤ sizeLine)).bind fun _ => R.ok b614).bind fun (b620 : Unit) => lt (List.map (fun (x616 : (Int × Int)) => x616.1) (List.filter (fun (x616 : (Int × Int)) => (hasL x616.2 v_some)) (enumL v_row))) fun v_there_621 =>
(bindF ((or2 (R.ok ()) (fun (b639 : Unit) => (!decide (((List.length v_there_621 : Nat) : Int) = ((List.length v_some : Nat) : Int)))) (or2 (R.ok ()) (fun (b638 : Unit) => (decide (((List.length v_some : Nat) : Int) < (2 : Int)))) ((op2 (R.some (atI v_there_621 (-(1 : Int)))) (fun (x628 : Int) => R.some (atI v_there_621 (0 : Int))) (fun (x628 : Int) (y629 : Int) => R.ok ())).bind fun (b637 : (Int × Int × Unit)) => R.ok (!decide ((b637.1 - b637.2.1) = (((List.length v_some : Nat) : Int) - (1 : Int))))))).bind fun (b640 : Bool) => if b640 = true then (R.ok (.rt (eU ()))) else (R.ok (.nx ()))) fun n642 =>
(((R.ok ()).bind fun (b650 : Unit) => (R.some (atI v_there_621 (0 : Int))).bind fun (b651 : Int) => (R.some (atI v_there_621 (-(1 : Int)))).bind fun (b652 : Int) => R.ok (b650, b651, b652)).bind fun (b654 : (Unit × Int × Int)) => R.ok (.rt ((eR D.int) (cut v_row (some b654.2.1) (some (b654.2.2 + (1 : Int)))))))))
noncomputable def m_part_of (a : ((List Int) × (List Int))) : R D := fin0 (mb_part_of a.1 a.2)
abbrev i_part_of (a : ((List Int) × (List Int))) : List Slot := [.val ((eR D.int) a.1), .val ((eL D.int) a.2)]
abbrev l_part_of (b : D) : Slot := .val (eD b)
abbrev o_part_of (b : D) : List Slot := [.non, .non]
theorem ok_part_of {P : Program} {w : World} {K : PySem.W.Frag} {mg : Str → Option Value} {base : Heap} (T : Top K mg) : FnG P w K mg base CX0 1 T.part_of.a T.part_of.d ["row", "some"] (spM K i_part_of m_part_of l_part_of o_part_of) := by
  show FnG P w K mg base CX0 (0 + 1) T.part_of.a T.part_of.d ["row", "some"] (spM K i_part_of (fun (a : ((List Int) × (List Int))) => fin0 (mb_part_of a.1 a.2)) l_part_of o_part_of)
  refine fn_ok (n1 := fun _ => []) (c1 := fun _ => []) (k1 := fun _ => []) (ins := i_part_of) (sl := l_part_of) (outs := o_part_of) (fun (a : ((List Int) × (List Int))) => mb_part_of a.1 a.2) 3 T.part_of.f sc_part_of rfl (fun _ => rfl) (fun _ => rfl) (fun _ => rfl) (fun cdv A outer s H E hr B hB a => ?_)
  show JSs _ B _ _ (mb_part_of a.1 a.2) _
  unfold mb_part_of
  exact ((js_cons1 (j1_setLcP 2 (xs := fun (b614 : Unit) => (enumL a.1)) (ea := (eP2 D.int D.int)) (ts := [3, 4]) [("k", 3), ("place", 4)] D.int (fun (x616 : (Int × Int)) => [.val ((eR D.int) a.1), .val ((eL D.int) a.2), .non, .val (D.int x616.1), .val (D.int x616.2)]) (fun (x616 : (Int × Int)) => (hasL x616.2 a.2)) (fun (x616 : (Int × Int)) => x616.1) rfl sc_part_of.nd (ji_enumT (f := D.int) (xs := fun (b613 : Unit) => a.1) (by rfl) T.z_enumerate (je_wk (d := fun (b612 : Unit) => (eR D.int) a.1) (d' := fun (b612 : Unit) => (eT D.int) a.1) (fun b612 => (fun _ => wk_R _ _) (a.1)) (jp_var 0))) (blkOk_by (N := ["row", "some", "there", "k", "place"]) (sc := defScope s_part_of) (by decide +kernel)) (fun _ _ _ _ _ _ hB617 x616 => (have hB := noRs hB617 hB; (jn_tup rfl (jns_cons (jn_name 3 sc_part_of.nd) (jns_cons (jn_name 4 sc_part_of.nd) jns_nil))))) (fun _ _ _ _ _ _ hB617 x616 => (have hB := noRs hB617 hB; (jts_one (jt_pb (jt_op (fun _ _ ha hb => pt_cmpR (op_inD (un65 hr)) ha hb (by rfl)) (jp_var 4) (jp_var 1) (od_inL ee_int)))))) (fun _ _ _ _ _ _ hB617 x616 => (have hB := noRs hB617 hB; (jp_var 3)))) fun (b620 : Unit) => (js_lt (fun (v_there_621 : List Int) => [.val ((eR D.int) a.1), .val ((eL D.int) a.2), .own 0 ((oL D.int) v_there_621), .non, .non]) (List.map (fun (x616 : (Int × Int)) => x616.1) (List.filter (fun (x616 : (Int × Int)) => (hasL x616.2 a.2)) (enumL a.1))) fun v_there_621 =>
(js_frz 2 rfl (toD_oL _ _) (js_cons (ρ1 := fun (n642 : Unit) => [.val ((eR D.int) a.1), .val ((eL D.int) a.2), .val ((eL D.int) v_there_621), .non, .non]) (js_if (jt_w (jw_or (xa := fun (b639 : Unit) => (!decide (((List.length v_there_621 : Nat) : Int) = ((List.length a.2 : Nat) : Int)))) (jt_op (fun _ _ ha hb => pt_cmpR op_ne ha hb (nomark _)) (je_cb (fun _ ht => pe_callB call_len_seq (by rfl) T.z_len (by decide +kernel) ht) (ja_p (jp_var 2) ja_nil) cb_lenLm) (je_cb (fun _ ht => pe_callB call_len_seq (by rfl) T.z_len (by decide +kernel) ht) (ja_p (jp_var 1) ja_nil) cb_lenLm) od_neI) (jw_or (xa := fun (b638 : Unit) => (decide (((List.length a.2 : Nat) : Int) < (2 : Int)))) (jt_op (fun _ _ ha hb => pt_cmpR op_lt ha hb (nomark _)) (je_cb (fun _ ht => pe_callB call_len_seq (by rfl) T.z_len (by decide +kernel) ht) (ja_p (jp_var 1) ja_nil) cb_lenLm) jp_int od_lt) (jw_or1 (jt_map (jt_opL (ρa := fun _ => _) (bn := fun (x632 : (Int × Int × Unit)) => (!decide ((x632.1 - x632.2.1) = (((List.length a.2 : Nat) : Int) - (1 : Int))))) (xa := fun (x632 : (Int × Int × Unit)) => D.int (x632.1 - x632.2.1)) (y := fun (x632 : (Int × Int × Unit)) => D.int (((List.length a.2 : Nat) : Int) - (1 : Int))) (fun _ _ ha hb => pt_cmpR op_ne ha hb (nomark _)) (je_op2 (ρa := fun _ => _) (ρb := fun _ _ => _) (s := fun (x628 : Int) (y629 : Int) (z0 : Unit) => (.val (D.int (x628 - y629)))) (xa := fun (x628 : Int) => D.int x628) (xb := fun (x628 : Int) (y629 : Int) => D.int y629) (fun _ _ ha hb => pe_op op_sub ha hb) (je_op (fun _ _ ha hb => pe_ix ix_list ha hb (fun _ _ => rfl)) (jp_var 2) (jp_neg jp_int) od_ixLm) (fun x628 => (je_op (fun _ _ ha hb => pe_ix ix_list ha hb (fun _ _ => rfl)) (jp_var 2) jp_int od_ixLm)) (fun x628 y629 => od_sub)) (fun x632 => (je_op (fun _ _ ha hb => pe_op op_sub ha hb) (je_cb (fun _ ht => pe_callB call_len_seq (by rfl) T.z_len (by decide +kernel) ht) (ja_p (jp_var 1) ja_nil) cb_lenLm) jp_int od_sub)) (fun x632 => od_neI))))))) (fun b640 => (js_one (js_retP (eU ()) [false, false, false, true, true] (show JP _ _ _ _ (eD (eU ())) from jp_non)))) (fun b640 => (js_nil [true, true, true, true, true] ()))) fun n642 =>
(js_one (js_ret (fun (b654 : (Unit × Int × Int)) => ((eR D.int) (cut a.1 (some b654.2.1) (some (b654.2.2 + (1 : Int)))))) [false, false, false, true, true] (je_cast (s2 := fun (b653 : (Unit × Int × Int)) => .val (eD ((eR D.int) (cut a.1 (some b653.2.1) (some (b653.2.2 + (1 : Int))))))) (je_slRE (f := D.int) (xs := fun (b650 : Unit) => a.1) (jp_var 0) (jom_some (i := fun (b651 : Int) => b651) (je_op (fun _ _ ha hb => pe_ix ix_list ha hb (fun _ _ => rfl)) (jp_var 2) jp_int od_ixLm)) (jom_some (i := fun (b652 : Int) => (b652 + (1 : Int))) (je_opL (ρa := fun _ => _) (s := fun (x647 : Int) => (.val (D.int (x647 + (1 : Int))))) (xa := fun (x647 : Int) => D.int x647) (y := fun (x647 : Int) => D.int (1 : Int)) (fun _ _ ha hb => pe_op op_add ha hb) (je_op (fun _ _ ha hb => pe_ix ix_list ha hb (fun _ _ => rfl)) (jp_var 2) (jp_neg jp_int) od_ixLm) (fun x647 => jp_int) (fun x647 => od_add)))) (fun _ => rfl)))))))))
/-! lies_over -/
abbrev s_lies_over : Stmt := topS 27
theorem sc_lies_over : FnScope ["web", "place", "part", "x", "y"] ["web", "place", "part"] (defScope s_lies_over) := ⟨rfl, rfl, rfl, by decide +kernel, rfl, by decide +kernel, by decide +kernel⟩
noncomputable def mb_lies_over (v_web : (List (List Int))) (v_place : Int) (v_part : (List Int)) : R (Fl Unit Unit Bool) :=
(bindF (forR (fun (x682 : (Int × Int)) (s680 : Unit) =>
(bindF ((m_behind (v_web, (x682.1, x682.2))).bind fun (b690 : (Int × Int)) => if (!decide (b690 = (x682.2, v_place))) = true then (R.ok (.rt false)) else (R.ok (.nx ()))) fun n691 =>
(R.ok (.nx ())))) (List.zip v_part (cut v_part (some (1 : Int)) none)) ()) fun n681 =>
(R.ok (.rt true)))
noncomputable def m_lies_over (a : ((List (List Int)) × Int × (List Int))) : R Bool := fin0 (mb_lies_over a.1 a.2.1 a.2.2)
abbrev i_lies_over (a : ((List (List Int)) × Int × (List Int))) : List Slot := [.val ((eT (eR D.int)) a.1), .val (D.int a.2.1), .val ((eR D.int) a.2.2)]
abbrev l_lies_over (b : Bool) : Slot := .val (D.bool b)
abbrev o_lies_over (b : Bool) : List Slot := [.non, .non, .non]
theorem ok_lies_over {P : Program} {w : World} {K : PySem.W.Frag} {mg : Str → Option Value} {base : Heap} (T : Top K mg) : FnG P w K mg base CX0 2 T.lies_over.a T.lies_over.d ["web", "place", "part"] (spM K i_lies_over m_lies_over l_lies_over o_lies_over) := by
  show FnG P w K mg base CX0 (1 + 1) T.lies_over.a T.lies_over.d ["web", "place", "part"] (spM K i_lies_over (fun (a : ((List (List Int)) × Int × (List Int))) => fin0 (mb_lies_over a.1 a.2.1 a.2.2)) l_lies_over o_lies_over)
  refine fn_ok (n1 := fun _ => []) (c1 := fun _ => []) (k1 := fun _ => []) (ins := i_lies_over) (sl := l_lies_over) (outs := o_lies_over) (fun (a : ((List (List Int)) × Int × (List Int))) => mb_lies_over a.1 a.2.1 a.2.2) 2 T.lies_over.f sc_lies_over rfl (fun _ => rfl) (fun _ => rfl) (fun _ => rfl) (fun cdv A outer s H E hr B hB a => ?_)
  show JSs _ B _ _ (mb_lies_over a.1 a.2.1 a.2.2) _
  unfold mb_lies_over
  exact ((js_cons (ρ1 := fun (n681 : Unit) => [.val ((eT (eR D.int)) a.1), .val (D.int a.2.1), .val ((eR D.int) a.2.2), .non, .non]) (js_forP (en := (eP2 D.int D.int)) (fun (s680 : Unit) => [.val ((eT (eR D.int)) a.1), .val (D.int a.2.1), .val ((eR D.int) a.2.2), .non, .non]) (fun (x682 : (Int × Int)) (s680 : Unit) => [.val ((eT (eR D.int)) a.1), .val (D.int a.2.1), .val ((eR D.int) a.2.2), .val (D.int x682.1), .val (D.int x682.2)]) PassesOwn.never rfl (ji_zipT (f := D.int) (g := D.int) (xs := fun (b678 : Unit) => a.2.2) (ys := fun (b678 : Unit) => (cut a.2.2 (some (1 : Int)) none)) (by rfl) T.z_zip (ja_p (je_wk (d := fun (b676 : Unit) => (eR D.int) a.2.2) (d' := fun (b676 : Unit) => (eT D.int) a.2.2) (fun b676 => (fun _ => wk_R _ _) (a.2.2)) (jp_var 2)) (ja_p (je_wk (d := fun (b677 : Unit) => (eR D.int) (cut a.2.2 (some (1 : Int)) none)) (d' := fun (b677 : Unit) => (eT D.int) (cut a.2.2 (some (1 : Int)) none)) (fun b677 => (fun _ => wk_R _ _) ((cut a.2.2 (some (1 : Int)) none))) (je_slR (jp_var 2) (fun _ => (jo_some jp_int)) (fun _ => jo_none))) ja_nil))) [true, true, true, true, true] rfl (fun x682 s680 => (jg_tup rfl (jgs_p (jg_name 3 sc_lies_over.nd) (jgs_p (jg_name 4 sc_lies_over.nd) jgs_nil)))) (fun x682 s680 =>
(js_cons (ρ1 := fun (n691 : Unit) => [.val ((eT (eR D.int)) a.1), .val (D.int a.2.1), .val ((eR D.int) a.2.2), .val (D.int x682.1), .val (D.int x682.2)]) (js_if (jt_opL (ρa := fun _ => _) (bn := fun (x685 : (Int × Int)) => (!decide (x685 = (x682.2, a.2.1)))) (xa := fun (x685 : (Int × Int)) => (eP2 D.int D.int) x685) (y := fun (x685 : (Int × Int)) => (eP2 D.int D.int) (x682.2, a.2.1)) (fun _ _ ha hb => pt_cmpR (op_neD (un64 hr)) ha hb (nomark _)) (je_wk (d := fun (b684 : (Int × Int)) => eK2 b684) (d' := fun (b684 : (Int × Int)) => (eP2 D.int D.int) b684) (fun b684 => (fun _ => wk_K2 _) (b684)) (je_callV (ins := i_behind) (mf := m_behind) (sl := l_behind) (outs := o_behind) (ok_behind T) (hr.mono (by decide)) (by rfl) T.behind.g T.behind.f.kp T.behind.b pass0 (arg := (a.1, (x682.1, x682.2))) (ja_p (jp_var 0) (ja_p (je_tupK (p := fun (b683 : Unit) => (x682.1, x682.2)) (ja_p (jp_var 3) (ja_p (jp_var 4) ja_nil))) ja_nil)) hB)) (fun x685 => (je_wk (d := fun (b688 : Unit) => eK2 (x682.2, a.2.1)) (d' := fun (b688 : Unit) => (eP2 D.int D.int) (x682.2, a.2.1)) (fun b688 => (fun _ => wk_K2 _) ((x682.2, a.2.1))) (je_tupK (p := fun (b687 : Unit) => (x682.2, a.2.1)) (ja_p (jp_var 4) (ja_p (jp_var 1) ja_nil))))) (fun x685 => (od_neD (ee_p2 ee_int ee_int)))) (fun b690 => (js_one (js_retP false [false, false, false, false, false] jp_bl))) (fun b690 => (js_nil [true, true, true, true, true] ()))) fun n691 =>
(js_nil [true, true, true, false, false] ())))) fun n681 =>
(js_one (js_retP true [false, false, false, true, true] jp_bl))))
/-! round_behind -/
abbrev s_round_behind : Stmt := topS 28
theorem sc_round_behind : FnScope ["row", "place", "part", "first"] ["row", "place", "part"] (defScope s_round_behind) := ⟨rfl, rfl, rfl, by decide +kernel, rfl, by decide +kernel, by decide +kernel⟩
noncomputable def mb_round_behind (v_row : (List Int)) (v_place : Int) (v_part : (List Int)) : R (Fl Unit Unit (List Int)) :=
(((R.some (atI v_part (0 : Int))).bind fun (b710 : Int) => (R.some (ixOf b710 v_row)).bind fun (z711 : Nat) => R.ok (b710, z711)).bind fun (b713 : (Int × Nat)) => lt ((b713.2 : Nat) : Int) fun v_first_712 =>
(((R.guard ((cut v_row none (some (v_first_712 + (1 : Int)))) ≠ [] ∧ List.length (cut v_row none (some (v_first_712 + (1 : Int)))) + List.length [v_place] ≤ sizeLine)).bind fun (x720 : Unit) => (R.guard (((cut v_row none (some (v_first_712 + (1 : Int)))) ++ [v_place]) ≠ [] ∧ List.length ((cut v_row none (some (v_first_712 + (1 : Int)))) ++ [v_place]) + List.length (cut v_row (some ((v_first_712 + ((List.length v_part : Nat) : Int)) - (1 : Int))) none) ≤ sizeLine)).bind fun (z733 : Unit) => R.ok (x720, z733)).bind fun (b734 : (Unit × Unit)) => R.ok (.rt (((cut v_row none (some (v_first_712 + (1 : Int)))) ++ [v_place]) ++ (cut v_row (some ((v_first_712 + ((List.length v_part : Nat) : Int)) - (1 : Int))) none)))))
noncomputable def m_round_behind (a : ((List Int) × Int × (List Int))) : R (List Int) := fin0 (mb_round_behind a.1 a.2.1 a.2.2)
abbrev i_round_behind (a : ((List Int) × Int × (List Int))) : List Slot := [.val ((eR D.int) a.1), .val (D.int a.2.1), .val ((eR D.int) a.2.2)]
abbrev l_round_behind (b : (List Int)) : Slot := .val ((eR D.int) b)
abbrev o_round_behind (b : (List Int)) : List Slot := [.non, .non, .non]
theorem ok_round_behind {P : Program} {w : World} {K : PySem.W.Frag} {mg : Str → Option Value} {base : Heap} (T : Top K mg) : FnG P w K mg base CX0 1 T.round_behind.a T.round_behind.d ["row", "place", "part"] (spM K i_round_behind m_round_behind l_round_behind o_round_behind) := by
  show FnG P w K mg base CX0 (0 + 1) T.round_behind.a T.round_behind.d ["row", "place", "part"] (spM K i_round_behind (fun (a : ((List Int) × Int × (List Int))) => fin0 (mb_round_behind a.1 a.2.1 a.2.2)) l_round_behind o_round_behind)
  refine fn_ok (n1 := fun _ => []) (c1 := fun _ => []) (k1 := fun _ => []) (ins := i_round_behind) (sl := l_round_behind) (outs := o_round_behind) (fun (a : ((List Int) × Int × (List Int))) => mb_round_behind a.1 a.2.1 a.2.2) 1 T.round_behind.f sc_round_behind rfl (fun _ => rfl) (fun _ => rfl) (fun _ => rfl) (fun cdv A outer s H E hr B hB a => ?_)
  show JSs _ B _ _ (mb_round_behind a.1 a.2.1 a.2.2) _
  unfold mb_round_behind
  exact ((js_setEQ 3 D.int (fun (b713 : (Int × Nat)) => ((b713.2 : Nat) : Int)) (fun (b713 : (Int × Nat)) (v_first_712 : Int) => [.val ((eR D.int) a.1), .val (D.int a.2.1), .val ((eR D.int) a.2.2), .val (D.int v_first_712)]) sc_round_behind.nd (je_rix (k := fun (b710 : Int) => b710) (jp_var 0) (je_op (fun _ _ ha hb => pe_ix ix_tup ha hb (fun _ _ => rfl)) (je_wk (d := fun (b707 : Unit) => (eR D.int) a.2.2) (d' := fun (b707 : Unit) => (eT D.int) a.2.2) (fun b707 => (fun _ => wk_R _ _) (a.2.2)) (jp_var 2)) jp_int od_ixTm)) fun b713 v_first_712 =>
(js_one (js_ret (fun (b734 : (Unit × Unit)) => (((cut a.1 none (some (v_first_712 + (1 : Int)))) ++ [a.2.1]) ++ (cut a.1 (some ((v_first_712 + ((List.length a.2.2 : Nat) : Int)) - (1 : Int))) none))) [false, false, false, false] (je_opLG (ρa := fun _ => _) (s := fun (x720 : Unit) (z733 : Unit) => (.val ((eR D.int) (((cut a.1 none (some (v_first_712 + (1 : Int)))) ++ [a.2.1]) ++ (cut a.1 (some ((v_first_712 + ((List.length a.2.2 : Nat) : Int)) - (1 : Int))) none))))) (xa := fun (x720 : Unit) => (eR D.int) ((cut a.1 none (some (v_first_712 + (1 : Int)))) ++ [a.2.1])) (y := fun (x720 : Unit) => (eT D.int) (cut a.1 (some ((v_first_712 + ((List.length a.2.2 : Nat) : Int)) - (1 : Int))) none)) (fun _ _ ha hb => pe_op op_catRw ha hb) (je_op (fun _ _ ha hb => pe_op op_catRw ha hb) (je_slR (jp_var 0) (fun _ => jo_none) (fun _ => (jo_some (je_op (fun _ _ ha hb => pe_op op_add ha hb) (jp_var 3) jp_int od_add)))) (show JP _ _ _ _ ((eT D.int) [a.2.1]) from (je_tup (ja_p (jp_var 1) ja_nil))) od_catRw) (fun x720 => (je_wk (d := fun (b732 : Unit) => (eR D.int) (cut a.1 (some ((v_first_712 + ((List.length a.2.2 : Nat) : Int)) - (1 : Int))) none)) (d' := fun (b732 : Unit) => (eT D.int) (cut a.1 (some ((v_first_712 + ((List.length a.2.2 : Nat) : Int)) - (1 : Int))) none)) (fun b732 => (fun _ => wk_R _ _) ((cut a.1 (some ((v_first_712 + ((List.length a.2.2 : Nat) : Int)) - (1 : Int))) none))) (je_slR (jp_var 0) (fun _ => (jo_some (je_op (fun _ _ ha hb => pe_op op_sub ha hb) (je_op (fun _ _ ha hb => pe_op op_add ha hb) (jp_var 3) (je_cb (fun _ ht => pe_callB call_len_seq (by rfl) T.z_len (by decide +kernel) ht) (ja_p (je_wk (d := fun (b729 : Unit) => (eR D.int) a.2.2) (d' := fun (b729 : Unit) => (eT D.int) a.2.2) (fun b729 => (fun _ => wk_R _ _) (a.2.2)) (jp_var 2)) ja_nil) cb_lenTm) od_add) jp_int od_sub))) (fun _ => jo_none)))) (fun x720 => od_catRw))))))
/-! grown -/
abbrev s_grown : Stmt := topS 29
theorem sc_grown : FnScope ["web", "order", "rows", "parts", "k", "place", "part", "other"] ["web", "order"] (defScope s_grown) := ⟨rfl, rfl, rfl, by decide +kernel, rfl, by decide +kernel, by decide +kernel⟩
noncomputable def mb_grown (v_web : (List (List Int))) (v_order : (List Int)) : R (Fl Unit Unit D) :=
((R.ok ()).bind fun (b597 : Unit) => lt [(cut v_order none (some (2 : Int)))] fun v_rows_596 =>
((R.ok ()).bind fun (b599 : Unit) => lt ([] : List (List Int)) fun v_parts_598 =>
(bindF (((R.ok ()).bind fun (b601 : Unit) => (R.guard (rngOk (2 : Int) ∧ rngOk ((List.length v_order : Nat) : Int))).bind fun z602 => R.ok b601).bind fun (b603 : Unit) => forR (fun (x606 : Int) (s604 : ((List (List Int)) × (List (List Int)))) =>
((R.some (atI v_order x606)).bind fun (b611 : Int) => lt b611 fun v_place_610 =>
((((R.some (atI s604.1 (-(1 : Int)))).bind fun (x655 : (List Int)) => ((R.some (atI v_web v_place_610)).bind fun (b659 : (List Int)) => (R.guard (List.length b659 ≤ sizeLine)).bind fun _ => R.ok b659).bind fun (z669 : (List Int)) => R.ok (x655, z669)).bind fun (c670 : ((List Int) × (List Int))) => (m_part_of (c670.1, (List.map (fun (x661 : Int) => x661) (List.filter (fun (x661 : Int) => (hasL x661 (cut v_order none (some x606)))) c670.2)))).bind fun (z671 : D) => R.ok (c670, z671)).bind fun (b673 : (((List Int) × (List Int)) × D)) => lt b673.2 fun v_part_672 =>
(bindF ((or2 (R.ok ()) (fun (b698 : Unit) => (isNon (eD v_part_672))) ((((R.ok ()).bind fun (b692 : Unit) => (R.some (asRI v_part_672)).bind fun (c693 : (List Int)) => R.ok (b692, c693)).bind fun (c695 : (Unit × (List Int))) => (m_lies_over (v_web, v_place_610, c695.2)).bind fun (z696 : Bool) => R.ok (c695, z696)).bind fun (b697 : ((Unit × (List Int)) × Bool)) => R.ok (!b697.2))).bind fun (b699 : Bool) => if b699 = true then (R.ok (.rt (eU ()))) else (R.ok (.nx ()))) fun n701 =>
((((R.ok ()).bind fun (b703 : Unit) => (R.some (asRI v_part_672)).bind fun (c704 : (List Int)) => R.ok (b703, c704)).bind fun (b702 : (Unit × (List Int))) => (R.guard (List.length s604.2 < sizeLine)).bind fun _ => R.ok b702).bind fun (b705 : (Unit × (List Int))) =>
(((((R.some (atI s604.1 (-(1 : Int)))).bind fun (x735 : (List Int)) => ((R.ok ()).bind fun (b736 : Unit) => (R.some (asRI v_part_672)).bind fun (c737 : (List Int)) => R.ok (b736, c737)).bind fun (z739 : (Unit × (List Int))) => R.ok (x735, z739)).bind fun (c740 : ((List Int) × (Unit × (List Int)))) => (m_round_behind (c740.1, v_place_610, c740.2.2)).bind fun (z741 : (List Int)) => R.ok (c740, z741)).bind fun (b706 : (((List Int) × (Unit × (List Int))) × (List Int))) => (R.guard (List.length s604.1 < sizeLine)).bind fun _ => R.ok b706).bind fun (b742 : (((List Int) × (Unit × (List Int))) × (List Int))) =>
(R.ok (.nx ((s604.1 ++ [b742.2]), (s604.2 ++ [b705.2])))))))))) (rng (2 : Int) ((List.length v_order : Nat) : Int)) (v_rows_596, v_parts_598)) fun n605 =>
(R.ok (.rt ((eP2 (eR (eR D.int)) (eR (eR D.int))) (n605.1, n605.2)))))))
noncomputable def m_grown (a : ((List (List Int)) × (List Int))) : R D := fin0 (mb_grown a.1 a.2)
abbrev i_grown (a : ((List (List Int)) × (List Int))) : List Slot := [.val ((eT (eR D.int)) a.1), .val ((eR D.int) a.2)]
abbrev l_grown (b : D) : Slot := .val (eD b)
abbrev o_grown (b : D) : List Slot := [.non, .non]
theorem ok_grown {P : Program} {w : World} {K : PySem.W.Frag} {mg : Str → Option Value} {base : Heap} (T : Top K mg) : FnG P w K mg base CX0 3 T.grown.a T.grown.d ["web", "order"] (spM K i_grown m_grown l_grown o_grown) := by
  show FnG P w K mg base CX0 (2 + 1) T.grown.a T.grown.d ["web", "order"] (spM K i_grown (fun (a : ((List (List Int)) × (List Int))) => fin0 (mb_grown a.1 a.2)) l_grown o_grown)
  refine fn_ok (n1 := fun _ => []) (c1 := fun _ => []) (k1 := fun _ => []) (ins := i_grown) (sl := l_grown) (outs := o_grown) (fun (a : ((List (List Int)) × (List Int))) => mb_grown a.1 a.2) 6 T.grown.f sc_grown rfl (fun _ => rfl) (fun _ => rfl) (fun _ => rfl) (fun cdv A outer s H E hr B hB a => ?_)
  show JSs _ B _ _ (mb_grown a.1 a.2) _
  unfold mb_grown
  exact ((js_setOQ 2 (oL (eR D.int)) (fun (b597 : Unit) => [(cut a.2 none (some (2 : Int)))]) (fun (b597 : Unit) (v_rows_596 : (List (List Int))) => [.val ((eT (eR D.int)) a.1), .val ((eR D.int) a.2), .own 0 ((oL (eR D.int)) v_rows_596), .non, .non, .non, .non, .non]) sc_grown.nd (je_lstT (eR D.int) (fun (b595 : Unit) => ([(cut a.2 none (some (2 : Int)))] : List (List Int))) (ja_p (je_slR (jp_var 1) (fun _ => jo_none) (fun _ => (jo_some jp_int))) ja_nil)) fun b597 v_rows_596 =>
(js_setOQ 3 (oL (eR D.int)) (fun (b599 : Unit) => ([] : List (List Int))) (fun (b599 : Unit) (v_parts_598 : (List (List Int))) => [.val ((eT (eR D.int)) a.1), .val ((eR D.int) a.2), .own 0 ((oL (eR D.int)) v_rows_596), .own 0 ((oL (eR D.int)) v_parts_598), .non, .non, .non, .non]) sc_grown.nd (je_lstT (eR D.int) (fun (_ : Unit) => ([] : List (List Int))) ja_nil) fun b599 v_parts_598 =>
(js_cons (ρ1 := fun (n605 : ((List (List Int)) × (List (List Int)))) => [.val ((eT (eR D.int)) a.1), .val ((eR D.int) a.2), .own 0 ((oL (eR D.int)) n605.1), .own 0 ((oL (eR D.int)) n605.2), .non, .non, .non, .non]) (js_for (en := D.int) (xs := fun (b603 : Unit) => (rng (2 : Int) ((List.length a.2 : Nat) : Int))) (s0 := fun (b603 : Unit) => (v_rows_596, v_parts_598)) (fun (s604 : ((List (List Int)) × (List (List Int)))) => [.val ((eT (eR D.int)) a.1), .val ((eR D.int) a.2), .own 0 ((oL (eR D.int)) s604.1), .own 0 ((oL (eR D.int)) s604.2), .non, .non, .non, .non]) (fun (x606 : Int) (s604 : ((List (List Int)) × (List (List Int)))) => [.val ((eT (eR D.int)) a.1), .val ((eR D.int) a.2), .own 0 ((oL (eR D.int)) s604.1), .own 0 ((oL (eR D.int)) s604.2), .val (D.int x606), .non, .non, .non]) PassesOwn.never rfl (ji_rng2 (fun (b601 : Unit) => (2 : Int)) (fun (b601 : Unit) => ((List.length a.2 : Nat) : Int)) T.z_range (ja_p jp_int (ja_p (je_cb (fun _ ht => pe_callB call_len_seq (by rfl) T.z_len (by decide +kernel) ht) (ja_p (je_wk (d := fun (b600 : Unit) => (eR D.int) a.2) (d' := fun (b600 : Unit) => (eT D.int) a.2) (fun b600 => (fun _ => wk_R _ _) (a.2)) (jp_var 1)) ja_nil) cb_lenTm) ja_nil))) [true, true, true, true, true, true, true, true] (fun _ => rfl) (fun x606 s604 => (jg_name 4 sc_grown.nd)) (fun x606 s604 =>
(js_setEQ 5 D.int (fun (b611 : Int) => b611) (fun (b611 : Int) (v_place_610 : Int) => [.val ((eT (eR D.int)) a.1), .val ((eR D.int) a.2), .own 0 ((oL (eR D.int)) s604.1), .own 0 ((oL (eR D.int)) s604.2), .val (D.int x606), .val (D.int v_place_610), .non, .non]) sc_grown.nd (je_op (fun _ _ ha hb => pe_ix ix_tup ha hb (fun _ _ => rfl)) (je_wk (d := fun (b607 : Unit) => (eR D.int) a.2) (d' := fun (b607 : Unit) => (eT D.int) a.2) (fun b607 => (fun _ => wk_R _ _) (a.2)) (jp_var 1)) (jp_var 4) od_ixTm) fun b611 v_place_610 =>
(js_setEQ 6 eD (fun (b673 : (((List Int) × (List Int)) × D)) => b673.2) (fun (b673 : (((List Int) × (List Int)) × D)) (v_part_672 : D) => [.val ((eT (eR D.int)) a.1), .val ((eR D.int) a.2), .own 0 ((oL (eR D.int)) s604.1), .own 0 ((oL (eR D.int)) s604.2), .val (D.int x606), .val (D.int v_place_610), .val (eD v_part_672), .non]) sc_grown.nd (je_callVE (ρa := fun _ => _) (ins := i_part_of) (mf := m_part_of) (sl := l_part_of) (outs := o_part_of) (ok_part_of T) (hr.mono (by decide)) (by rfl) T.part_of.g T.part_of.f.kp T.part_of.b pass0 (arg := fun (c670 : ((List Int) × (List Int))) => (c670.1, (List.map (fun (x661 : Int) => x661) (List.filter (fun (x661 : Int) => (hasL x661 (cut a.2 none (some x606)))) c670.2)))) (ja_e (ρ' := fun _ _ => _) (ρa := fun _ => _) (xa := fun (x655 : (List Int)) => (eR D.int) x655) (je_ixO 2 (xs := s604.1) (en := (eR D.int)) (k := (-(1 : Int))) rfl (jp_neg jp_int)) (fun x655 => (ja_el (ρa := fun _ => _) (xa := fun (x668 : (List Int)) => (eL D.int) (List.map (fun (x661 : Int) => x661) (List.filter (fun (x661 : Int) => (hasL x661 (cut a.2 none (some x606)))) x668))) (je_frzL (v := fun (b667 : (List Int)) => (List.map (fun (x661 : Int) => x661) (List.filter (fun (x661 : Int) => (hasL x661 (cut a.2 none (some x606)))) b667))) (je_lcP (xs := fun (b659 : (List Int)) => b659) (ea := D.int) (ts := [7]) [("other", 7)] D.int (fun (x661 : Int) => [.val ((eT (eR D.int)) a.1), .val ((eR D.int) a.2), .own 0 ((oL (eR D.int)) s604.1), .own 0 ((oL (eR D.int)) s604.2), .val (D.int x606), .val (D.int v_place_610), .non, .val (D.int x661)]) (fun (x661 : Int) => (hasL x661 (cut a.2 none (some x606)))) (fun (x661 : Int) => x661) rfl sc_grown.nd (ji_tup (je_wk (d := fun (b658 : (List Int)) => (eR D.int) b658) (d' := fun (b658 : (List Int)) => (eT D.int) b658) (fun b658 => (fun _ => wk_R _ _) (b658)) (je_op (fun _ _ ha hb => pe_ix ix_tup ha hb (fun _ _ => rfl)) (jp_var 0) (jp_var 5) od_ixTm))) (blkOk_by (N := ["web", "order", "rows", "parts", "k", "place", "part", "other"]) (sc := defScope s_grown) (by decide +kernel)) (fun _ _ _ _ _ _ hB662 x661 => (have hB := noRs hB662 hB; (jn_name 7 sc_grown.nd))) (fun _ _ _ _ _ _ hB662 x661 => (have hB := noRs hB662 hB; (jts_one (jt_pb (jt_op (fun _ _ ha hb => pt_cmpR op_in_seq ha hb (by rfl)) (jp_var 7) (je_wk (d := fun (b666 : Unit) => (eR D.int) (cut a.2 none (some x606))) (d' := fun (b666 : Unit) => (eT D.int) (cut a.2 none (some x606))) (fun b666 => (fun _ => wk_R _ _) ((cut a.2 none (some x606)))) (je_slR (jp_var 1) (fun _ => jo_none) (fun _ => (jo_some (jp_var 4))))) od_inTI))))) (fun _ _ _ _ _ _ hB662 x661 => (have hB := noRs hB662 hB; (jp_var 7))))) (fun x668 => ja_nil)))) hB) fun b673 v_part_672 =>
(js_cons (ρ1 := fun (n701 : Unit) => [.val ((eT (eR D.int)) a.1), .val ((eR D.int) a.2), .own 0 ((oL (eR D.int)) s604.1), .own 0 ((oL (eR D.int)) s604.2), .val (D.int x606), .val (D.int v_place_610), .val (eD v_part_672), .non]) (js_if (jt_w (jw_or (xa := fun (b698 : Unit) => (isNon (eD v_part_672))) (jt_op (fun _ _ ha hb => pt_cmpR op_isN ha hb (nomark _)) (jp_var 6) jp_non od_isN) (jw_or1 (jt_map (jt_not (jt_val (je_callVE (ρa := fun _ => _) (ins := i_lies_over) (mf := m_lies_over) (sl := l_lies_over) (outs := o_lies_over) (ok_lies_over T) (hr.mono (by decide)) (by rfl) T.lies_over.g T.lies_over.f.kp T.lies_over.b pass0 (arg := fun (c695 : (Unit × (List Int))) => (a.1, v_place_610, c695.2)) (ja_p (jp_var 0) (ja_p (jp_var 5) (ja_el (ρa := fun _ => _) (xa := fun (x694 : (Unit × (List Int))) => (eR D.int) x694.2) (je_as (f := asRI) (g := (eR D.int)) (d := fun (b692 : Unit) => v_part_672) asRI_ok (jp_var 6)) (fun x694 => ja_nil)))) hB))))))) (fun b699 => (js_one (js_retP (eU ()) [false, false, false, false, false, false, false, true] (show JP _ _ _ _ (eD (eU ())) from jp_non)))) (fun b699 => (js_nil [true, true, true, true, true, true, true, true] ()))) fun n701 =>
(js_consQ1 (fun (b705 : (Unit × (List Int))) => [.val ((eT (eR D.int)) a.1), .val ((eR D.int) a.2), .own 0 ((oL (eR D.int)) s604.1), .own 0 ((oL (eR D.int)) (s604.2 ++ [b705.2])), .val (D.int x606), .val (D.int v_place_610), .val (eD v_part_672), .non]) (j1_expr (je_app 3 (f := (eR D.int)) (y := fun (b702 : (Unit × (List Int))) => b702.2) (ρ' := fun (b702 : (Unit × (List Int))) => [.val ((eT (eR D.int)) a.1), .val ((eR D.int) a.2), .own 0 ((oL (eR D.int)) s604.1), .own 0 ((oL (eR D.int)) s604.2), .val (D.int x606), .val (D.int v_place_610), .val (eD v_part_672), .non]) (fun (b702 : (Unit × (List Int))) => s604.2) (je_as (f := asRI) (g := (eR D.int)) (d := fun (b703 : Unit) => v_part_672) asRI_ok (jp_var 6)))) fun b705 =>
(js_consQ1 (fun (b742 : (((List Int) × (Unit × (List Int))) × (List Int))) => [.val ((eT (eR D.int)) a.1), .val ((eR D.int) a.2), .own 0 ((oL (eR D.int)) (s604.1 ++ [b742.2])), .own 0 ((oL (eR D.int)) (s604.2 ++ [b705.2])), .val (D.int x606), .val (D.int v_place_610), .val (eD v_part_672), .non]) (j1_expr (je_app 2 (f := (eR D.int)) (y := fun (b706 : (((List Int) × (Unit × (List Int))) × (List Int))) => b706.2) (ρ' := fun (b706 : (((List Int) × (Unit × (List Int))) × (List Int))) => [.val ((eT (eR D.int)) a.1), .val ((eR D.int) a.2), .own 0 ((oL (eR D.int)) s604.1), .own 0 ((oL (eR D.int)) (s604.2 ++ [b705.2])), .val (D.int x606), .val (D.int v_place_610), .val (eD v_part_672), .non]) (fun (b706 : (((List Int) × (Unit × (List Int))) × (List Int))) => s604.1) (je_callVE (ρa := fun _ => _) (ins := i_round_behind) (mf := m_round_behind) (sl := l_round_behind) (outs := o_round_behind) (ok_round_behind T) (hr.mono (by decide)) (by rfl) T.round_behind.g T.round_behind.f.kp T.round_behind.b pass0 (arg := fun (c740 : ((List Int) × (Unit × (List Int)))) => (c740.1, v_place_610, c740.2.2)) (ja_e (ρ' := fun _ _ => _) (ρa := fun _ => _) (xa := fun (x735 : (List Int)) => (eR D.int) x735) (je_ixO 2 (xs := s604.1) (en := (eR D.int)) (k := (-(1 : Int))) rfl (jp_neg jp_int)) (fun x735 => (ja_p (jp_var 5) (ja_el (ρa := fun _ => _) (xa := fun (x738 : (Unit × (List Int))) => (eR D.int) x738.2) (je_as (f := asRI) (g := (eR D.int)) (d := fun (b736 : Unit) => v_part_672) asRI_ok (jp_var 6)) (fun x738 => ja_nil))))) hB))) fun b742 =>
(js_nil [true, true, true, true, false, false, false, true] ((s604.1 ++ [b742.2]), (s604.2 ++ [b705.2])))))))))) fun n605 =>
(js_one (js_retP ((eP2 (eR (eR D.int)) (eR (eR D.int))) (n605.1, n605.2)) [false, false, false, false, true, true, true, true] (show JP _ _ _ _ (eD ((eP2 (eR (eR D.int)) (eR (eR D.int))) (n605.1, n605.2))) from (je_tup (ja_p (je_bor 2 (d := (eL (eR D.int)) n605.1) (ρ1 := fun (b743 : Unit) => [.val ((eT (eR D.int)) a.1), .val ((eR D.int) a.2), .val ((eL (eR D.int)) n605.1), .own 0 ((oL (eR D.int)) n605.2), .non, .non, .non, .non]) (ρ2 := fun (b743 : Unit) => [.val ((eT (eR D.int)) a.1), .val ((eR D.int) a.2), .non, .own 0 ((oL (eR D.int)) n605.2), .non, .non, .non, .non]) (ρ' := fun (b743 : Unit) => [.val ((eT (eR D.int)) a.1), .val ((eR D.int) a.2), .own 0 ((oL (eR D.int)) n605.1), .own 0 ((oL (eR D.int)) n605.2), .non, .non, .non, .non]) (sl := fun (b743 : Unit) => .val ((eR (eR D.int)) n605.1)) rfl (toD_oL _ _) (fun _ hB744 => (have hB := noRs hB744 hB; (je_cb (fun _ ht => pe_callTy cr_tupF (by rfl) T.z_tuple (by decide +kernel) ht) (ja_p (jp_var 2) ja_nil) cb_tupF))) (fun (b743 : Unit) => (.cons .k (.cons .k (.cons .f (.cons (.o (fl_oL (fl_R fl_int) n605.2)) (.cons .f (.cons .f (.cons .f (.cons .f .nil))))))))) (fun (b743 : Unit) => (fl_R (fl_R fl_int)) n605.1) (fun _ => rfl)) (ja_p (je_bor 3 (d := (eL (eR D.int)) n605.2) (ρ1 := fun (b745 : Unit) => [.val ((eT (eR D.int)) a.1), .val ((eR D.int) a.2), .own 0 ((oL (eR D.int)) n605.1), .val ((eL (eR D.int)) n605.2), .non, .non, .non, .non]) (ρ2 := fun (b745 : Unit) => [.val ((eT (eR D.int)) a.1), .val ((eR D.int) a.2), .own 0 ((oL (eR D.int)) n605.1), .non, .non, .non, .non, .non]) (ρ' := fun (b745 : Unit) => [.val ((eT (eR D.int)) a.1), .val ((eR D.int) a.2), .own 0 ((oL (eR D.int)) n605.1), .own 0 ((oL (eR D.int)) n605.2), .non, .non, .non, .non]) (sl := fun (b745 : Unit) => .val ((eR (eR D.int)) n605.2)) rfl (toD_oL _ _) (fun _ hB746 => (have hB := noRs hB746 hB; (je_cb (fun _ ht => pe_callTy cr_tupF (by rfl) T.z_tuple (by decide +kernel) ht) (ja_p (jp_var 3) ja_nil) cb_tupF))) (fun (b745 : Unit) => (.cons .k (.cons .k (.cons (.o (fl_oL (fl_R fl_int) n605.1)) (.cons .f (.cons .f (.cons .f (.cons .f (.cons .f .nil))))))))) (fun (b745 : Unit) => (fl_R (fl_R fl_int)) n605.2) (fun _ => rfl)) ja_nil))))))))))
/-! is_order_of -/
abbrev s_is_order_of : Stmt := topS 30
theorem sc_is_order_of : FnScope ["web", "base", "thing"] ["web", "base", "thing"] (defScope s_is_order_of) := ⟨rfl, rfl, rfl, by decide +kernel, rfl, by decide +kernel, by decide +kernel⟩
noncomputable def mb_is_order_of (v_web : (List (List Int))) (v_base : (Int × Int × Int)) (v_thing : (List Int)) : R (Fl Unit Unit Bool) :=
(bindF ((or2 (m_is_row_of_all (v_web, v_thing)) (fun (b592 : Bool) => (!b592)) (or2 (R.ok ()) (fun (b591 : Unit) => (!decide ((cut v_thing none (some (2 : Int))) = (cut [v_base.1, v_base.2.1, v_base.2.2] none (some (2 : Int)))))) ((R.some (atI v_thing (-(1 : Int)))).bind fun (b590 : Int) => R.ok (!decide (b590 = v_base.2.2))))).bind fun (b593 : Bool) => if b593 = true then (R.ok (.rt false)) else (R.ok (.nx ()))) fun n594 =>
((m_grown (v_web, v_thing)).bind fun (b751 : D) => R.ok (.rt (!isNon (eD b751)))))
noncomputable def m_is_order_of (a : ((List (List Int)) × (Int × Int × Int) × (List Int))) : R Bool := fin0 (mb_is_order_of a.1 a.2.1 a.2.2)
abbrev i_is_order_of (a : ((List (List Int)) × (Int × Int × Int) × (List Int))) : List Slot := [.val ((eT (eR D.int)) a.1), .val ((eP3 D.int D.int D.int) a.2.1), .val ((eR D.int) a.2.2)]
abbrev l_is_order_of (b : Bool) : Slot := .val (D.bool b)
abbrev o_is_order_of (b : Bool) : List Slot := [.non, .non, .non]
theorem ok_is_order_of {P : Program} {w : World} {K : PySem.W.Frag} {mg : Str → Option Value} {base : Heap} (T : Top K mg) : FnG P w K mg base CX0 4 T.is_order_of.a T.is_order_of.d ["web", "base", "thing"] (spM K i_is_order_of m_is_order_of l_is_order_of o_is_order_of) := by
  show FnG P w K mg base CX0 (3 + 1) T.is_order_of.a T.is_order_of.d ["web", "base", "thing"] (spM K i_is_order_of (fun (a : ((List (List Int)) × (Int × Int × Int) × (List Int))) => fin0 (mb_is_order_of a.1 a.2.1 a.2.2)) l_is_order_of o_is_order_of)
  refine fn_ok (n1 := fun _ => []) (c1 := fun _ => []) (k1 := fun _ => []) (ins := i_is_order_of) (sl := l_is_order_of) (outs := o_is_order_of) (fun (a : ((List (List Int)) × (Int × Int × Int) × (List Int))) => mb_is_order_of a.1 a.2.1 a.2.2) 0 T.is_order_of.f sc_is_order_of rfl (fun _ => rfl) (fun _ => rfl) (fun _ => rfl) (fun cdv A outer s H E hr B hB a => ?_)
  show JSs _ B _ _ (mb_is_order_of a.1 a.2.1 a.2.2) _
  unfold mb_is_order_of
  exact ((js_cons (ρ1 := fun (n594 : Unit) => [.val ((eT (eR D.int)) a.1), .val ((eP3 D.int D.int D.int) a.2.1), .val ((eR D.int) a.2.2)]) (js_if (jt_w (jw_or (xa := fun (b592 : Bool) => (!b592)) (jt_not (jt_val (je_callV (ins := i_is_row_of_all) (mf := m_is_row_of_all) (sl := l_is_row_of_all) (outs := o_is_row_of_all) (ok_is_row_of_all T) (hr.mono (by decide)) (by rfl) T.is_row_of_all.g T.is_row_of_all.f.kp T.is_row_of_all.b pass0 (arg := (a.1, a.2.2)) (ja_p (jp_var 0) (ja_p (jp_var 2) ja_nil)) hB))) (jw_or (xa := fun (b591 : Unit) => (!decide ((cut a.2.2 none (some (2 : Int))) = (cut [a.2.1.1, a.2.1.2.1, a.2.1.2.2] none (some (2 : Int)))))) (jt_op (fun _ _ ha hb => pt_cmpR (op_neD (un64 hr)) ha hb (nomark _)) (je_wk (d := fun (b579 : Unit) => (eR D.int) (cut a.2.2 none (some (2 : Int)))) (d' := fun (b579 : Unit) => (eT D.int) (cut a.2.2 none (some (2 : Int)))) (fun b579 => (fun _ => wk_R _ _) ((cut a.2.2 none (some (2 : Int))))) (je_slR (jp_var 2) (fun _ => jo_none) (fun _ => (jo_some jp_int)))) (je_slTm (show JP _ _ _ _ ((eT D.int) [a.2.1.1, a.2.1.2.1, a.2.1.2.2]) from (jp_var 1)) (fun _ => jo_none) (fun _ => (jo_some jp_int))) (od_neD (ee_T ee_int))) (jw_or1 (jt_map (jt_opL (ρa := fun _ => _) (bn := fun (x585 : Int) => (!decide (x585 = a.2.1.2.2))) (xa := fun (x585 : Int) => D.int x585) (y := fun (x585 : Int) => D.int a.2.1.2.2) (fun _ _ ha hb => pt_cmpR op_ne ha hb (nomark _)) (je_op (fun _ _ ha hb => pe_ix ix_tup ha hb (fun _ _ => rfl)) (je_wk (d := fun (b582 : Unit) => (eR D.int) a.2.2) (d' := fun (b582 : Unit) => (eT D.int) a.2.2) (fun b582 => (fun _ => wk_R _ _) (a.2.2)) (jp_var 2)) (jp_neg jp_int) od_ixTm) (fun x585 => (je_op (fun _ _ ha hb => pe_ix ix_tup ha hb (fun _ _ => rfl)) (jp_var 1) jp_int (od_ixTs rfl))) (fun x585 => od_neI))))))) (fun b593 => (js_one (js_retP false [false, false, false] jp_bl))) (fun b593 => (js_nil [true, true, true] ()))) fun n594 =>
(js_one (js_ret (fun (b751 : D) => (!isNon (eD b751))) [false, false, false] (je_opL (ρa := fun _ => _) (s := fun (x748 : D) => (.val (D.bool (!isNon (eD x748))))) (xa := fun (x748 : D) => eD x748) (y := fun (x748 : D) => eU ()) (fun _ _ ha hb => pe_cmpR op_notN ha hb (nomark _)) (je_callV (ins := i_grown) (mf := m_grown) (sl := l_grown) (outs := o_grown) (ok_grown T) (hr.mono (by decide)) (by rfl) T.grown.g T.grown.f.kp T.grown.b pass0 (arg := (a.1, a.2.2)) (ja_p (jp_var 0) (ja_p (jp_var 2) ja_nil)) hB) (fun x748 => jp_non) (fun x748 => od_notN))))))
/-! is_order -/
abbrev s_is_order : Stmt := topS 31
theorem sc_is_order : FnScope ["web", "base", "thing"] ["web", "base", "thing"] (defScope s_is_order) := ⟨rfl, rfl, rfl, by decide +kernel, rfl, by decide +kernel, by decide +kernel⟩
noncomputable def mb_is_order (v_web : (List (List Int))) (v_base : (Int × Int × Int)) (v_thing : (List Int)) : R (Fl Unit Unit Bool) :=
((m_want_base (v_web, v_base)).bind fun (b553 : Unit) =>
((m_is_order_of (v_web, v_base, v_thing)).bind fun (b752 : Bool) => R.ok (.rt b752)))
noncomputable def m_is_order (a : ((List (List Int)) × (Int × Int × Int) × (List Int))) : R Bool := fin0 (mb_is_order a.1 a.2.1 a.2.2)
abbrev i_is_order (a : ((List (List Int)) × (Int × Int × Int) × (List Int))) : List Slot := [.val ((eT (eR D.int)) a.1), .val ((eP3 D.int D.int D.int) a.2.1), .val ((eR D.int) a.2.2)]
abbrev l_is_order (b : Bool) : Slot := .val (D.bool b)
abbrev o_is_order (b : Bool) : List Slot := [.non, .non, .non]
theorem ok_is_order {P : Program} {w : World} {K : PySem.W.Frag} {mg : Str → Option Value} {base : Heap} (T : Top K mg) : FnG P w K mg base CX0 8 T.is_order.a T.is_order.d ["web", "base", "thing"] (spM K i_is_order m_is_order l_is_order o_is_order) := by
  show FnG P w K mg base CX0 (7 + 1) T.is_order.a T.is_order.d ["web", "base", "thing"] (spM K i_is_order (fun (a : ((List (List Int)) × (Int × Int × Int) × (List Int))) => fin0 (mb_is_order a.1 a.2.1 a.2.2)) l_is_order o_is_order)
  refine fn_ok (n1 := fun _ => []) (c1 := fun _ => []) (k1 := fun _ => []) (ins := i_is_order) (sl := l_is_order) (outs := o_is_order) (fun (a : ((List (List Int)) × (Int × Int × Int) × (List Int))) => mb_is_order a.1 a.2.1 a.2.2) 0 T.is_order.f sc_is_order rfl (fun _ => rfl) (fun _ => rfl) (fun _ => rfl) (fun cdv A outer s H E hr B hB a => ?_)
  show JSs _ B _ _ (mb_is_order a.1 a.2.1 a.2.2) _
  unfold mb_is_order
  exact ((js_consQ1 (fun (b553 : Unit) => [.val ((eT (eR D.int)) a.1), .val ((eP3 D.int D.int D.int) a.2.1), .val ((eR D.int) a.2.2)]) (j1_expr (je_callV (ins := i_want_base) (mf := m_want_base) (sl := l_want_base) (outs := o_want_base) (ok_want_base T) (hr.mono (by decide)) (by rfl) T.want_base.g T.want_base.f.kp T.want_base.b pass0 (arg := (a.1, a.2.1)) (ja_p (jp_var 0) (ja_p (jp_var 1) ja_nil)) hB)) fun b553 =>
(js_one (js_ret (fun (b752 : Bool) => b752) [false, false, false] (je_callV (ins := i_is_order_of) (mf := m_is_order_of) (sl := l_is_order_of) (outs := o_is_order_of) (ok_is_order_of T) (hr.mono (by decide)) (by rfl) T.is_order_of.g T.is_order_of.f.kp T.is_order_of.b pass0 (arg := (a.1, a.2.1, a.2.2)) (ja_p (jp_var 0) (ja_p (jp_var 1) (ja_p (jp_var 2) ja_nil))) hB)))))
/-! law_is -/
abbrev s_law_is : Stmt := topS 44
theorem sc_law_is : FnScope ["_law_told", "_law_due", "_law_row", "_law_one"] ["_law_told", "_law_due"] (defScope s_law_is) := ⟨rfl, rfl, rfl, by decide +kernel, rfl, by decide +kernel, by decide +kernel⟩
noncomputable def mb_law_is (v_told : (List (List Int))) (v_due : (List (List Int))) : R (Fl Unit Unit Bool) :=
(bindF ((or2 (R.ok ()) (fun (b774 : Unit) => (!(isTup ((eT (eT D.int)) v_told)))) (or2 (R.ok ()) (fun (b773 : Unit) => (!decide (v_told = v_due))) (((R.ok ()).bind fun (b764 : Unit) => (R.guard (List.length v_told ≤ sizeLine)).bind fun _ => R.ok b764).bind fun (b772 : Unit) => R.ok (!(List.all (List.map (fun (x766 : (List Int)) => (isTup ((eT D.int) x766))) (List.filter (fun (x766 : (List Int)) => true) v_told)) id))))).bind fun (b775 : Bool) => if b775 = true then (R.ok (.rt false)) else (R.ok (.nx ()))) fun n776 =>
(bindF (forR (fun (x780 : (List Int)) (s778 : Unit) =>
(bindF (((R.ok ()).bind fun (b781 : Unit) => (R.guard (List.length x780 ≤ sizeLine)).bind fun _ => R.ok b781).bind fun (b790 : Unit) => if (!decide ((List.map (fun (x783 : Int) => x783) (List.filter (fun (x783 : Int) => ((!(isInt (D.int x783))) || (isBool (D.int x783)))) x780)) = ([] : List Int))) = true then (R.ok (.rt false)) else (R.ok (.nx ()))) fun n791 =>
(R.ok (.nx ())))) v_told ()) fun n779 =>
(R.ok (.rt true))))
noncomputable def m_law_is (a : ((List (List Int)) × (List (List Int)))) : R Bool := fin0 (mb_law_is a.1 a.2)
abbrev i_law_is (a : ((List (List Int)) × (List (List Int)))) : List Slot := [.val ((eT (eT D.int)) a.1), .val ((eT (eT D.int)) a.2)]
abbrev l_law_is (b : Bool) : Slot := .val (D.bool b)
abbrev o_law_is (b : Bool) : List Slot := [.non, .non]
theorem ok_law_is {P : Program} {w : World} {K : PySem.W.Frag} {mg : Str → Option Value} {base : Heap} (T : Top K mg) : FnG P w K mg base CX0 1 T.law_is.a T.law_is.d ["_law_told", "_law_due"] (spM K i_law_is m_law_is l_law_is o_law_is) := by
  show FnG P w K mg base CX0 (0 + 1) T.law_is.a T.law_is.d ["_law_told", "_law_due"] (spM K i_law_is (fun (a : ((List (List Int)) × (List (List Int)))) => fin0 (mb_law_is a.1 a.2)) l_law_is o_law_is)
  refine fn_ok (n1 := fun _ => []) (c1 := fun _ => []) (k1 := fun _ => []) (ins := i_law_is) (sl := l_law_is) (outs := o_law_is) (fun (a : ((List (List Int)) × (List (List Int)))) => mb_law_is a.1 a.2) 2 T.law_is.f sc_law_is rfl (fun _ => rfl) (fun _ => rfl) (fun _ => rfl) (fun cdv A outer s H E hr B hB a => ?_)
  show JSs _ B _ _ (mb_law_is a.1 a.2) _
  unfold mb_law_is
  exact ((js_cons (ρ1 := fun (n776 : Unit) => [.val ((eT (eT D.int)) a.1), .val ((eT (eT D.int)) a.2), .non, .non]) (js_if (jt_w (jw_or (xa := fun (b774 : Unit) => (!(isTup ((eT (eT D.int)) a.1)))) (jt_not (jt_val (je_isi isi_tuple (jp_var 0) T.z_isinstance T.z_tuple (by decide +kernel)))) (jw_or (xa := fun (b773 : Unit) => (!decide (a.1 = a.2))) (jt_op (fun _ _ ha hb => pt_cmpR (op_neD (un64 hr)) ha hb (nomark _)) (jp_var 0) (jp_var 1) (od_neD (ee_T (ee_T ee_int)))) (jw_or1 (jt_map (jt_not (jt_val (je_cbN (ρa := fun _ => _) (s := fun (c770 : Unit) => .val (D.bool (List.all (List.map (fun (x766 : (List Int)) => (isTup ((eT D.int) x766))) (List.filter (fun (x766 : (List Int)) => true) a.1)) id))) (fun _ ht => pe_callB (cr_all rfl) (by rfl) T.z_all (by decide +kernel) ht) (ja_el (ρa := fun _ => _) (xa := fun (x769 : Unit) => (eL D.bool) (List.map (fun (x766 : (List Int)) => (isTup ((eT D.int) x766))) (List.filter (fun (x766 : (List Int)) => true) a.1))) (je_frzL (v := fun (b768 : Unit) => (List.map (fun (x766 : (List Int)) => (isTup ((eT D.int) x766))) (List.filter (fun (x766 : (List Int)) => true) a.1))) (je_lcP (xs := fun (b764 : Unit) => a.1) (ea := (eT D.int)) (ts := [2]) [("_law_row", 2)] D.bool (fun (x766 : (List Int)) => [.val ((eT (eT D.int)) a.1), .val ((eT (eT D.int)) a.2), .val ((eT D.int) x766), .non]) (fun (x766 : (List Int)) => true) (fun (x766 : (List Int)) => (isTup ((eT D.int) x766))) rfl sc_law_is.nd (ji_tup (jp_var 0)) (blkOk_by (N := ["_law_told", "_law_due", "_law_row", "_law_one"]) (sc := defScope s_law_is) (by decide +kernel)) (fun _ _ _ _ _ _ hB767 x766 => (have hB := noRs hB767 hB; (jn_name 2 sc_law_is.nd))) (fun _ _ _ _ _ _ hB767 x766 => (have hB := noRs hB767 hB; jts_t)) (fun _ _ _ _ _ _ hB767 x766 => (have hB := noRs hB767 hB; (je_isi isi_tuple (jp_var 2) T.z_isinstance T.z_tuple (by decide +kernel)))))) (fun x769 => ja_nil)) (fun c770 => cb_allL))))))))) (fun b775 => (js_one (js_retP false [false, false, true, true] jp_bl))) (fun b775 => (js_nil [true, true, true, true] ()))) fun n776 =>
(js_cons (ρ1 := fun (n779 : Unit) => [.val ((eT (eT D.int)) a.1), .val ((eT (eT D.int)) a.2), .non, .non]) (js_forP (en := (eT D.int)) (fun (s778 : Unit) => [.val ((eT (eT D.int)) a.1), .val ((eT (eT D.int)) a.2), .non, .non]) (fun (x780 : (List Int)) (s778 : Unit) => [.val ((eT (eT D.int)) a.1), .val ((eT (eT D.int)) a.2), .val ((eT D.int) x780), .non]) PassesOwn.never rfl (ji_tup (jp_var 0)) [true, true, true, true] rfl (fun x780 s778 => (jg_name 2 sc_law_is.nd)) (fun x780 s778 =>
(js_cons (ρ1 := fun (n791 : Unit) => [.val ((eT (eT D.int)) a.1), .val ((eT (eT D.int)) a.2), .val ((eT D.int) x780), .non]) (js_if (jt_opL (ρa := fun _ => _) (bn := fun (x786 : Unit) => (!decide ((List.map (fun (x783 : Int) => x783) (List.filter (fun (x783 : Int) => ((!(isInt (D.int x783))) || (isBool (D.int x783)))) x780)) = ([] : List Int)))) (xa := fun (x786 : Unit) => (eL D.int) (List.map (fun (x783 : Int) => x783) (List.filter (fun (x783 : Int) => ((!(isInt (D.int x783))) || (isBool (D.int x783)))) x780))) (y := fun (x786 : Unit) => (eL D.int) ([] : List Int)) (fun _ _ ha hb => pt_cmpR (op_neD (un64 hr)) ha hb (nomark _)) (je_frzL (v := fun (b785 : Unit) => (List.map (fun (x783 : Int) => x783) (List.filter (fun (x783 : Int) => ((!(isInt (D.int x783))) || (isBool (D.int x783)))) x780))) (je_lcP (xs := fun (b781 : Unit) => x780) (ea := D.int) (ts := [3]) [("_law_one", 3)] D.int (fun (x783 : Int) => [.val ((eT (eT D.int)) a.1), .val ((eT (eT D.int)) a.2), .val ((eT D.int) x780), .val (D.int x783)]) (fun (x783 : Int) => ((!(isInt (D.int x783))) || (isBool (D.int x783)))) (fun (x783 : Int) => x783) rfl sc_law_is.nd (ji_tup (jp_var 2)) (blkOk_by (N := ["_law_told", "_law_due", "_law_row", "_law_one"]) (sc := defScope s_law_is) (by decide +kernel)) (fun _ _ _ _ _ _ hB784 x783 => (have hB := noRs hB784 hB; (jn_name 3 sc_law_is.nd))) (fun _ _ _ _ _ _ hB784 x783 => (have hB := noRs hB784 hB; (jts_one (jt_pb (jt_w (tw_or (jt_not (jt_val (je_isi isi_int (jp_var 3) T.z_isinstance T.z_int (by decide +kernel)))) (jw_or1 (jt_val (je_isi isi_bool (jp_var 3) T.z_isinstance T.z_bool (by decide +kernel)))))))))) (fun _ _ _ _ _ _ hB784 x783 => (have hB := noRs hB784 hB; (jp_var 3))))) (fun x786 => (je_frzL (v := fun (b788 : Unit) => ([] : List Int)) (je_lstT D.int (fun (_ : Unit) => ([] : List Int)) ja_nil))) (fun x786 => (od_neD (ee_L ee_int)))) (fun b790 => (js_one (js_retP false [false, false, false, true] jp_bl))) (fun b790 => (js_nil [true, true, true, true] ()))) fun n791 =>
(js_nil [true, true, false, true] ())))) fun n779 =>
(js_one (js_retP true [false, false, true, true] jp_bl)))))
/-! want_order -/
abbrev s_want_order : Stmt := topS 32
theorem sc_want_order : FnScope ["web", "base", "order"] ["web", "base", "order"] (defScope s_want_order) := ⟨rfl, rfl, rfl, by decide +kernel, rfl, by decide +kernel, by decide +kernel⟩
noncomputable def mb_want_order (v_web : (List (List Int))) (v_base : (Int × Int × Int)) (v_order : (List Int)) : R (Fl Unit Unit Unit) :=
((m_want_base (v_web, v_base)).bind fun (b792 : Unit) =>
(bindF ((m_is_order_of (v_web, v_base, v_order)).bind fun (b793 : Bool) => if (!b793) = true then R.bad else (R.ok (.nx ()))) fun n794 =>
(R.ok (.nx ()))))
noncomputable def m_want_order (a : ((List (List Int)) × (Int × Int × Int) × (List Int))) : R Unit := finN (mb_want_order a.1 a.2.1 a.2.2)
abbrev i_want_order (a : ((List (List Int)) × (Int × Int × Int) × (List Int))) : List Slot := [.val ((eT (eR D.int)) a.1), .val ((eP3 D.int D.int D.int) a.2.1), .val ((eR D.int) a.2.2)]
abbrev l_want_order (_ : Unit) : Slot := .val .none
abbrev o_want_order (b : Unit) : List Slot := [.non, .non, .non]
theorem ok_want_order {P : Program} {w : World} {K : PySem.W.Frag} {mg : Str → Option Value} {base : Heap} (T : Top K mg) : FnG P w K mg base CX0 8 T.want_order.a T.want_order.d ["web", "base", "order"] (spM K i_want_order m_want_order l_want_order o_want_order) := by
  show FnG P w K mg base CX0 (7 + 1) T.want_order.a T.want_order.d ["web", "base", "order"] (spM K i_want_order (fun (a : ((List (List Int)) × (Int × Int × Int) × (List Int))) => finN (mb_want_order a.1 a.2.1 a.2.2)) l_want_order o_want_order)
  refine fn_okN (s1 := fun _ => .non) (t1 := fun _ => []) (c1 := fun _ => []) (k1 := fun _ => []) (ins := i_want_order)  (outs := o_want_order) (fun (a : ((List (List Int)) × (Int × Int × Int) × (List Int))) => mb_want_order a.1 a.2.1 a.2.2) 0 T.want_order.f sc_want_order rfl (fun _ => rfl) (fun _ => rfl) (fun _ => rfl) (fun cdv A outer s H E hr B hB a => ?_)
  show JSs _ B _ _ (mb_want_order a.1 a.2.1 a.2.2) _
  unfold mb_want_order
  exact ((js_consQ1 (fun (b792 : Unit) => [.val ((eT (eR D.int)) a.1), .val ((eP3 D.int D.int D.int) a.2.1), .val ((eR D.int) a.2.2)]) (j1_expr (je_callV (ins := i_want_base) (mf := m_want_base) (sl := l_want_base) (outs := o_want_base) (ok_want_base T) (hr.mono (by decide)) (by rfl) T.want_base.g T.want_base.f.kp T.want_base.b pass0 (arg := (a.1, a.2.1)) (ja_p (jp_var 0) (ja_p (jp_var 1) ja_nil)) hB)) fun b792 =>
(js_cons (ρ1 := fun (n794 : Unit) => [.val ((eT (eR D.int)) a.1), .val ((eP3 D.int D.int D.int) a.2.1), .val ((eR D.int) a.2.2)]) (js_if (jt_not (jt_val (je_callV (ins := i_is_order_of) (mf := m_is_order_of) (sl := l_is_order_of) (outs := o_is_order_of) (ok_is_order_of T) (hr.mono (by decide)) (by rfl) T.is_order_of.g T.is_order_of.f.kp T.is_order_of.b pass0 (arg := (a.1, a.2.1, a.2.2)) (ja_p (jp_var 0) (ja_p (jp_var 1) (ja_p (jp_var 2) ja_nil))) hB))) (fun b793 => (js_one js_never)) (fun b793 => (js_nil [true, true, true] ()))) fun n794 =>
(js_nil [false, false, false] ()))))
/-! rounds -/
abbrev s_rounds : Stmt := topS 33
theorem sc_rounds : FnScope ["web", "base", "order"] ["web", "base", "order"] (defScope s_rounds) := ⟨rfl, rfl, rfl, by decide +kernel, rfl, by decide +kernel, by decide +kernel⟩
noncomputable def mb_rounds (v_web : (List (List Int))) (v_base : (Int × Int × Int)) (v_order : (List Int)) : R (Fl Unit Unit (List (List Int))) :=
((m_want_order (v_web, v_base, v_order)).bind fun (b795 : Unit) =>
(((m_grown (v_web, v_order)).bind fun (b796 : D) => (R.some (as2TT b796)).bind fun (c797 : ((List (List Int)) × (List (List Int)))) => R.ok (b796, c797)).bind fun (b801 : (D × ((List (List Int)) × (List (List Int))))) => R.ok (.rt b801.2.1)))
noncomputable def m_rounds (a : ((List (List Int)) × (Int × Int × Int) × (List Int))) : R (List (List Int)) := fin0 (mb_rounds a.1 a.2.1 a.2.2)
abbrev i_rounds (a : ((List (List Int)) × (Int × Int × Int) × (List Int))) : List Slot := [.val ((eT (eR D.int)) a.1), .val ((eP3 D.int D.int D.int) a.2.1), .val ((eR D.int) a.2.2)]
abbrev l_rounds (b : (List (List Int))) : Slot := .val ((eT (eT D.int)) b)
abbrev o_rounds (b : (List (List Int))) : List Slot := [.non, .non, .non]
theorem ok_rounds {P : Program} {w : World} {K : PySem.W.Frag} {mg : Str → Option Value} {base : Heap} (T : Top K mg) : FnG P w K mg base CX0 9 T.rounds.a T.rounds.d ["web", "base", "order"] (spM K i_rounds m_rounds l_rounds o_rounds) := by
  show FnG P w K mg base CX0 (8 + 1) T.rounds.a T.rounds.d ["web", "base", "order"] (spM K i_rounds (fun (a : ((List (List Int)) × (Int × Int × Int) × (List Int))) => fin0 (mb_rounds a.1 a.2.1 a.2.2)) l_rounds o_rounds)
  refine fn_ok (n1 := fun _ => []) (c1 := fun _ => []) (k1 := fun _ => []) (ins := i_rounds) (sl := l_rounds) (outs := o_rounds) (fun (a : ((List (List Int)) × (Int × Int × Int) × (List Int))) => mb_rounds a.1 a.2.1 a.2.2) 0 T.rounds.f sc_rounds rfl (fun _ => rfl) (fun _ => rfl) (fun _ => rfl) (fun cdv A outer s H E hr B hB a => ?_)
  show JSs _ B _ _ (mb_rounds a.1 a.2.1 a.2.2) _
  unfold mb_rounds
  exact ((js_consQ1 (fun (b795 : Unit) => [.val ((eT (eR D.int)) a.1), .val ((eP3 D.int D.int D.int) a.2.1), .val ((eR D.int) a.2.2)]) (j1_expr (je_callV (ins := i_want_order) (mf := m_want_order) (sl := l_want_order) (outs := o_want_order) (ok_want_order T) (hr.mono (by decide)) (by rfl) T.want_order.g T.want_order.f.kp T.want_order.b pass0 (arg := (a.1, a.2.1, a.2.2)) (ja_p (jp_var 0) (ja_p (jp_var 1) (ja_p (jp_var 2) ja_nil))) hB)) fun b795 =>
(js_one (js_ret (fun (b801 : (D × ((List (List Int)) × (List (List Int))))) => b801.2.1) [false, false, false] (je_opL (ρa := fun _ => _) (s := fun (x798 : (D × ((List (List Int)) × (List (List Int))))) => (.val ((eT (eT D.int)) x798.2.1))) (xa := fun (x798 : (D × ((List (List Int)) × (List (List Int))))) => (eP2 (eT (eT D.int)) (eT (eT D.int))) x798.2) (y := fun (x798 : (D × ((List (List Int)) × (List (List Int))))) => D.int (0 : Int)) (fun _ _ ha hb => pe_ix ix_tup ha hb (fun _ _ => rfl)) (je_as (f := as2TT) (g := (eP2 (eT (eT D.int)) (eT (eT D.int)))) (d := fun (b796 : D) => b796) as2TT_ok (je_callV (ins := i_grown) (mf := m_grown) (sl := l_grown) (outs := o_grown) (ok_grown T) (hr.mono (by decide)) (by rfl) T.grown.g T.grown.f.kp T.grown.b pass0 (arg := (a.1, a.2.2)) (ja_p (jp_var 0) (ja_p (jp_var 2) ja_nil)) hB)) (fun x798 => jp_int) (fun x798 => (od_ixTs rfl)))))))
/-! law_named -/
abbrev s_law_named : Stmt := topS 43
theorem sc_law_named : FnScope ["_law_names_here", "_law_some", "_law_row", "_law_p"] ["_law_names_here", "_law_some"] (defScope s_law_named) := ⟨rfl, rfl, rfl, by decide +kernel, rfl, by decide +kernel, by decide +kernel⟩
noncomputable def mb_law_named (v_names_here : (List Int)) (v_some : (List (List Int))) : R (Fl Unit Unit (List (List Int))) :=
(((R.ok ()).bind fun (b834 : Unit) => (R.guard (List.length v_some ≤ sizeLine)).bind fun _ => compR (compF (fun (x836 : (List Int)) (s835 : Unit) => R.ok ()) (fun (z862 : Unit) => true) (fun (x836 : (List Int)) (s835 : Unit) => (((R.ok ()).bind fun (b848 : Unit) => (R.guard (List.length x836 ≤ sizeLine)).bind fun _ => compR (compF (fun (x850 : Int) (s849 : Unit) => R.ok ()) (fun (z855 : Unit) => true) (fun (x850 : Int) (s849 : Unit) => ((R.some (atI v_names_here x850)).bind fun (y854 : Int) => R.ok (y854, ()))) Prod.fst Prod.snd) x836 [] ()).bind fun (y861 : ((List Int) × Unit)) => R.ok (y861.1, ()))) Prod.fst Prod.snd) v_some [] ()).bind fun (b869 : ((List (List Int)) × Unit)) => R.ok (.rt b869.1))
noncomputable def m_law_named (a : ((List Int) × (List (List Int)))) : R (List (List Int)) := fin0 (mb_law_named a.1 a.2)
abbrev i_law_named (a : ((List Int) × (List (List Int)))) : List Slot := [.val ((eL D.int) a.1), .val ((eL (eL D.int)) a.2)]
abbrev l_law_named (b : (List (List Int))) : Slot := .val ((eT (eT D.int)) b)
abbrev o_law_named (b : (List (List Int))) : List Slot := [.non, .non]
theorem ok_law_named {P : Program} {w : World} {K : PySem.W.Frag} {mg : Str → Option Value} {base : Heap} (T : Top K mg) : FnG P w K mg base CX0 1 T.law_named.a T.law_named.d ["_law_names_here", "_law_some"] (spM K i_law_named m_law_named l_law_named o_law_named) := by
  show FnG P w K mg base CX0 (0 + 1) T.law_named.a T.law_named.d ["_law_names_here", "_law_some"] (spM K i_law_named (fun (a : ((List Int) × (List (List Int)))) => fin0 (mb_law_named a.1 a.2)) l_law_named o_law_named)
  refine fn_ok (n1 := fun _ => []) (c1 := fun _ => []) (k1 := fun _ => []) (ins := i_law_named) (sl := l_law_named) (outs := o_law_named) (fun (a : ((List Int) × (List (List Int)))) => mb_law_named a.1 a.2) 2 T.law_named.f sc_law_named rfl (fun _ => rfl) (fun _ => rfl) (fun _ => rfl) (fun cdv A outer s H E hr B hB a => ?_)
  show JSs _ B _ _ (mb_law_named a.1 a.2) _
  unfold mb_law_named
  exact ((js_one (js_ret (fun (b869 : ((List (List Int)) × Unit)) => b869.1) [false, false, true, true] (je_wk (d := fun (b868 : ((List (List Int)) × Unit)) => (eR (eR D.int)) b868.1) (d' := fun (b868 : ((List (List Int)) × Unit)) => (eT (eT D.int)) b868.1) (fun b868 => (fun x => wk_trans (wk_R (eR D.int) x) (wk_T (f := (eR D.int)) (g := (eT D.int)) (fun x => wk_R D.int x) x)) (b868.1)) (je_cbN (ρa := fun _ => _) (s := fun (c866 : ((List (List Int)) × Unit)) => .val ((eR (eR D.int)) c866.1)) (fun _ ht => pe_callTy cr_tupF (by rfl) T.z_tuple (by decide +kernel) ht) (ja_el (ρa := fun _ => _) (xa := fun (x865 : ((List (List Int)) × Unit)) => (eL (eR D.int)) x865.1) (je_frzL (v := fun (b864 : ((List (List Int)) × Unit)) => b864.1) (je_lc (xs := fun (b834 : Unit) => a.2) (ea := (eL D.int)) (ts := [2]) (c := fun (x836 : (List Int)) (s835 : Unit) => R.ok ()) (bn := fun (z862 : Unit) => true) (me := fun (x836 : (List Int)) (s835 : Unit) => (((R.ok ()).bind fun (b848 : Unit) => (R.guard (List.length x836 ≤ sizeLine)).bind fun _ => compR (compF (fun (x850 : Int) (s849 : Unit) => R.ok ()) (fun (z855 : Unit) => true) (fun (x850 : Int) (s849 : Unit) => ((R.some (atI a.1 x850)).bind fun (y854 : Int) => R.ok (y854, ()))) Prod.fst Prod.snd) x836 [] ()).bind fun (y861 : ((List Int) × Unit)) => R.ok (y861.1, ()))) [("_law_row", 2)] (eR D.int) (fun (s835 : Unit) => [.val ((eL D.int) a.1), .val ((eL (eL D.int)) a.2), .non, .non]) (fun (b834 : Unit) => ()) (fun (x836 : (List Int)) (s835 : Unit) => [.val ((eL D.int) a.1), .val ((eL (eL D.int)) a.2), .val ((eL D.int) x836), .non]) Prod.fst Prod.snd rfl sc_law_named.nd (ji_list (jp_var 1)) (blkOk_by (N := ["_law_names_here", "_law_some", "_law_row", "_law_p"]) (sc := defScope s_law_named) (by decide +kernel)) (fun _ => rfl) (fun _ _ _ _ _ _ hB837 x836 s835 => (have hB := noRs hB837 hB; (jn_name 2 sc_law_named.nd))) (fun _ _ _ _ _ _ hB837 x836 s835 => (have hB := noRs hB837 hB; jts_nil)) (fun _ _ _ _ _ _ hB837 x836 s835 => (have hB := noRs hB837 hB; (je_mapS (en := (eR D.int)) (v := fun (y861 : ((List Int) × Unit)) => y861.1) (st := fun (y861 : ((List Int) × Unit)) => ()) (ρ' := fun (s863 : Unit) => [.val ((eL D.int) a.1), .val ((eL (eL D.int)) a.2), .val ((eL D.int) x836), .non]) (je_cbN (ρa := fun _ => _) (s := fun (c859 : ((List Int) × Unit)) => .val ((eR D.int) c859.1)) (fun _ ht => pe_callTy cr_tupF (by rfl) T.z_tuple (by decide +kernel) ht) (ja_el (ρa := fun _ => _) (xa := fun (x858 : ((List Int) × Unit)) => (eL D.int) x858.1) (je_frzL (v := fun (b857 : ((List Int) × Unit)) => b857.1) (je_lc (xs := fun (b848 : Unit) => x836) (ea := D.int) (ts := [3]) (c := fun (x850 : Int) (s849 : Unit) => R.ok ()) (bn := fun (z855 : Unit) => true) (me := fun (x850 : Int) (s849 : Unit) => ((R.some (atI a.1 x850)).bind fun (y854 : Int) => R.ok (y854, ()))) [("_law_p", 3)] D.int (fun (s849 : Unit) => [.val ((eL D.int) a.1), .val ((eL (eL D.int)) a.2), .val ((eL D.int) x836), .non]) (fun (b848 : Unit) => ()) (fun (x850 : Int) (s849 : Unit) => [.val ((eL D.int) a.1), .val ((eL (eL D.int)) a.2), .val ((eL D.int) x836), .val (D.int x850)]) Prod.fst Prod.snd rfl sc_law_named.nd (ji_list (jp_var 2)) (blkOk_by (by rfl)) (fun _ => rfl) (fun _ _ _ _ _ _ hB851 x850 s849 => (have hB := noRs hB851 hB; (jn_name 3 sc_law_named.nd))) (fun _ _ _ _ _ _ hB851 x850 s849 => (have hB := noRs hB851 hB; jts_nil)) (fun _ _ _ _ _ _ hB851 x850 s849 => (have hB := noRs hB851 hB; (je_mapS (en := D.int) (v := fun (y854 : Int) => y854) (st := fun (y854 : Int) => ()) (ρ' := fun (s856 : Unit) => [.val ((eL D.int) a.1), .val ((eL (eL D.int)) a.2), .val ((eL D.int) x836), .val (D.int x850)]) (je_op (fun _ _ ha hb => pe_ix ix_list ha hb (fun _ _ => rfl)) (jp_var 0) (jp_var 3) od_ixLm)))))) (fun x858 => ja_nil)) (fun c859 => cb_tupF))))))) (fun x865 => ja_nil)) (fun c866 => cb_tupF))))))
/-! stretches_of -/
abbrev s_stretches_of : Stmt := topS 35
theorem sc_stretches_of : FnScope ["web", "order"] ["web", "order"] (defScope s_stretches_of) := ⟨rfl, rfl, rfl, by decide +kernel, rfl, by decide +kernel, by decide +kernel⟩
noncomputable def mb_stretches_of (v_web : (List (List Int))) (v_order : (List Int)) : R (Fl Unit Unit (List (List Int))) :=
(((m_grown (v_web, v_order)).bind fun (b877 : D) => (R.some (as2TT b877)).bind fun (c878 : ((List (List Int)) × (List (List Int)))) => R.ok (b877, c878)).bind fun (b882 : (D × ((List (List Int)) × (List (List Int))))) => R.ok (.rt b882.2.2))
noncomputable def m_stretches_of (a : ((List (List Int)) × (List Int))) : R (List (List Int)) := fin0 (mb_stretches_of a.1 a.2)
abbrev i_stretches_of (a : ((List (List Int)) × (List Int))) : List Slot := [.val ((eT (eR D.int)) a.1), .val ((eR D.int) a.2)]
abbrev l_stretches_of (b : (List (List Int))) : Slot := .val ((eT (eT D.int)) b)
abbrev o_stretches_of (b : (List (List Int))) : List Slot := [.non, .non]
theorem ok_stretches_of {P : Program} {w : World} {K : PySem.W.Frag} {mg : Str → Option Value} {base : Heap} (T : Top K mg) : FnG P w K mg base CX0 4 T.stretches_of.a T.stretches_of.d ["web", "order"] (spM K i_stretches_of m_stretches_of l_stretches_of o_stretches_of) := by
  show FnG P w K mg base CX0 (3 + 1) T.stretches_of.a T.stretches_of.d ["web", "order"] (spM K i_stretches_of (fun (a : ((List (List Int)) × (List Int))) => fin0 (mb_stretches_of a.1 a.2)) l_stretches_of o_stretches_of)
  refine fn_ok (n1 := fun _ => []) (c1 := fun _ => []) (k1 := fun _ => []) (ins := i_stretches_of) (sl := l_stretches_of) (outs := o_stretches_of) (fun (a : ((List (List Int)) × (List Int))) => mb_stretches_of a.1 a.2) 0 T.stretches_of.f sc_stretches_of rfl (fun _ => rfl) (fun _ => rfl) (fun _ => rfl) (fun cdv A outer s H E hr B hB a => ?_)
  show JSs _ B _ _ (mb_stretches_of a.1 a.2) _
  unfold mb_stretches_of
  exact ((js_one (js_ret (fun (b882 : (D × ((List (List Int)) × (List (List Int))))) => b882.2.2) [false, false] (je_opL (ρa := fun _ => _) (s := fun (x879 : (D × ((List (List Int)) × (List (List Int))))) => (.val ((eT (eT D.int)) x879.2.2))) (xa := fun (x879 : (D × ((List (List Int)) × (List (List Int))))) => (eP2 (eT (eT D.int)) (eT (eT D.int))) x879.2) (y := fun (x879 : (D × ((List (List Int)) × (List (List Int))))) => D.int (1 : Int)) (fun _ _ ha hb => pe_ix ix_tup ha hb (fun _ _ => rfl)) (je_as (f := as2TT) (g := (eP2 (eT (eT D.int)) (eT (eT D.int)))) (d := fun (b877 : D) => b877) as2TT_ok (je_callV (ins := i_grown) (mf := m_grown) (sl := l_grown) (outs := o_grown) (ok_grown T) (hr.mono (by decide)) (by rfl) T.grown.g T.grown.f.kp T.grown.b pass0 (arg := (a.1, a.2)) (ja_p (jp_var 0) (ja_p (jp_var 1) ja_nil)) hB)) (fun x879 => jp_int) (fun x879 => (od_ixTs rfl))))))
/-! stretches -/
abbrev s_stretches : Stmt := topS 34
theorem sc_stretches : FnScope ["web", "base", "order"] ["web", "base", "order"] (defScope s_stretches) := ⟨rfl, rfl, rfl, by decide +kernel, rfl, by decide +kernel, by decide +kernel⟩
noncomputable def mb_stretches (v_web : (List (List Int))) (v_base : (Int × Int × Int)) (v_order : (List Int)) : R (Fl Unit Unit (List (List Int))) :=
((m_want_order (v_web, v_base, v_order)).bind fun (b876 : Unit) =>
((m_stretches_of (v_web, v_order)).bind fun (b883 : (List (List Int))) => R.ok (.rt b883)))
noncomputable def m_stretches (a : ((List (List Int)) × (Int × Int × Int) × (List Int))) : R (List (List Int)) := fin0 (mb_stretches a.1 a.2.1 a.2.2)
abbrev i_stretches (a : ((List (List Int)) × (Int × Int × Int) × (List Int))) : List Slot := [.val ((eT (eR D.int)) a.1), .val ((eP3 D.int D.int D.int) a.2.1), .val ((eR D.int) a.2.2)]
abbrev l_stretches (b : (List (List Int))) : Slot := .val ((eT (eT D.int)) b)
abbrev o_stretches (b : (List (List Int))) : List Slot := [.non, .non, .non]
theorem ok_stretches {P : Program} {w : World} {K : PySem.W.Frag} {mg : Str → Option Value} {base : Heap} (T : Top K mg) : FnG P w K mg base CX0 9 T.stretches.a T.stretches.d ["web", "base", "order"] (spM K i_stretches m_stretches l_stretches o_stretches) := by
  show FnG P w K mg base CX0 (8 + 1) T.stretches.a T.stretches.d ["web", "base", "order"] (spM K i_stretches (fun (a : ((List (List Int)) × (Int × Int × Int) × (List Int))) => fin0 (mb_stretches a.1 a.2.1 a.2.2)) l_stretches o_stretches)
  refine fn_ok (n1 := fun _ => []) (c1 := fun _ => []) (k1 := fun _ => []) (ins := i_stretches) (sl := l_stretches) (outs := o_stretches) (fun (a : ((List (List Int)) × (Int × Int × Int) × (List Int))) => mb_stretches a.1 a.2.1 a.2.2) 0 T.stretches.f sc_stretches rfl (fun _ => rfl) (fun _ => rfl) (fun _ => rfl) (fun cdv A outer s H E hr B hB a => ?_)
  show JSs _ B _ _ (mb_stretches a.1 a.2.1 a.2.2) _
  unfold mb_stretches
  exact ((js_consQ1 (fun (b876 : Unit) => [.val ((eT (eR D.int)) a.1), .val ((eP3 D.int D.int D.int) a.2.1), .val ((eR D.int) a.2.2)]) (j1_expr (je_callV (ins := i_want_order) (mf := m_want_order) (sl := l_want_order) (outs := o_want_order) (ok_want_order T) (hr.mono (by decide)) (by rfl) T.want_order.g T.want_order.f.kp T.want_order.b pass0 (arg := (a.1, a.2.1, a.2.2)) (ja_p (jp_var 0) (ja_p (jp_var 1) (ja_p (jp_var 2) ja_nil))) hB)) fun b876 =>
(js_one (js_ret (fun (b883 : (List (List Int))) => b883) [false, false, false] (je_callV (ins := i_stretches_of) (mf := m_stretches_of) (sl := l_stretches_of) (outs := o_stretches_of) (ok_stretches_of T) (hr.mono (by decide)) (by rfl) T.stretches_of.g T.stretches_of.f.kp T.stretches_of.b pass0 (arg := (a.1, a.2.2)) (ja_p (jp_var 0) (ja_p (jp_var 2) ja_nil)) hB)))))
/-! law -/
abbrev s_law : Stmt := topS 45
theorem sc_law : FnScope ["_law_script", "_law_k", "_law_pot_here", "_law_n", "_law_rows_here", "_law_told", "_law_parts", "_law_names_here", "_law_web_here", "_law_base", "_law_order", "_law_again"] ["_law_script"] (defScope s_law) := ⟨rfl, rfl, rfl, by decide +kernel, rfl, by decide +kernel, by decide +kernel⟩
noncomputable def mb_law (v_script : List Int) : R (Fl Unit Unit Bool) :=
(bindF ((R.guard (rngOk (max (1 : Int) (min ((List.length v_script : Nat) : Int) (3 : Int))))).bind fun (b1 : Unit) => forR (fun (x4 : Int) (s2 : Unit) =>
((m_law_pot (v_script, x4)).bind fun (b34 : (List Int)) => lt b34 fun v_pot_here_33 =>
((((m_law_digit (v_pot_here_33, (2 : Int))).bind fun (y76 : (Int × (List Int))) => (R.some (atI [(7 : Int), (38 : Int)] y76.1)).bind fun (z78 : Int) => R.ok (y76, z78)).bind fun (c80 : ((Int × (List Int)) × Int)) => (m_law_digit (c80.1.2, c80.2)).bind fun (z81 : (Int × (List Int))) => R.ok (c80, z81)).bind fun (b85 : (((Int × (List Int)) × Int) × (Int × (List Int)))) => lt ((3 : Int) + b85.2.1) fun v_n_84 =>
((m_law_rows (b85.2.2, v_n_84)).bind fun (b218 : (((List (List Int)) × (List (List Int)) × (List (List Int))) × (List Int))) =>
((m_law_names (b218.2, v_n_84)).bind fun (b239 : ((List Int) × (List Int))) => lt b239.1 fun v_names_here_238 =>
((m_law_web (b218.1.1, v_names_here_238)).bind fun (b289 : (List (List Int))) => lt b289 fun v_web_here_288 =>
(((R.some (atI v_names_here_238 (0 : Int))).bind fun (x292 : Int) => ((R.some (atI v_names_here_238 (1 : Int))).bind fun (x295 : Int) => (R.some (atI v_names_here_238 (-(1 : Int)))).bind fun (z299 : Int) => R.ok (x295, z299)).bind fun (z300 : (Int × Int)) => R.ok (x292, z300)).bind fun (b302 : (Int × (Int × Int))) => lt (b302.1, b302.2.1, b302.2.2) fun v_base_301 =>
(lt v_names_here_238 fun v_order_303 =>
(bindF ((m_is_order (v_web_here_288, v_base_301, v_order_303)).bind fun (b756 : Bool) => if (!decide (b756 = true)) = true then (R.ok (.rt false)) else (R.ok (.nx ()))) fun n757 =>
(bindF ((R.guard (rngOk (2 : Int))).bind fun (b758 : Unit) => forR (fun (x761 : Int) (s759 : Unit) =>
(bindF ((((m_rounds (v_web_here_288, v_base_301, v_order_303)).bind fun (x802 : (List (List Int))) => (m_law_named (v_names_here_238, b218.1.2.1)).bind fun (z871 : (List (List Int))) => R.ok (x802, z871)).bind fun (c872 : ((List (List Int)) × (List (List Int)))) => (m_law_is (c872.1, c872.2)).bind fun (z873 : Bool) => R.ok (c872, z873)).bind fun (b874 : (((List (List Int)) × (List (List Int))) × Bool)) => if (!b874.2) = true then (R.ok (.rt false)) else (R.ok (.nx ()))) fun n875 =>
(bindF ((((m_stretches (v_web_here_288, v_base_301, v_order_303)).bind fun (x884 : (List (List Int))) => (m_law_named (v_names_here_238, b218.1.2.2)).bind fun (z886 : (List (List Int))) => R.ok (x884, z886)).bind fun (c887 : ((List (List Int)) × (List (List Int)))) => (m_law_is (c887.1, c887.2)).bind fun (z888 : Bool) => R.ok (c887, z888)).bind fun (b889 : (((List (List Int)) × (List (List Int))) × Bool)) => if (!b889.2) = true then (R.ok (.rt false)) else (R.ok (.nx ()))) fun n890 =>
(R.ok (.nx ()))))) (rng 0 (2 : Int)) ()) fun n760 =>
(R.ok (.nx ())))))))))))) (rng 0 (max (1 : Int) (min ((List.length v_script : Nat) : Int) (3 : Int)))) ()) fun n3 =>
(R.ok (.rt true)))
noncomputable def m_law (a : List Int) : R Bool := fin0 (mb_law a)
abbrev i_law (a : List Int) : List Slot := [.val (D.scr a)]
abbrev l_law (b : Bool) : Slot := .val (D.bool b)
abbrev o_law (b : Bool) : List Slot := [.non]
theorem ok_law {P : Program} {w : World} {K : PySem.W.Frag} {mg : Str → Option Value} {base : Heap} (T : Top K mg) : FnG P w K mg base CX0 10 T.law.a T.law.d ["_law_script"] (spM K i_law m_law l_law o_law) := by
  show FnG P w K mg base CX0 (9 + 1) T.law.a T.law.d ["_law_script"] (spM K i_law (fun (a : List Int) => fin0 (mb_law a)) l_law o_law)
  refine fn_ok (n1 := fun _ => []) (c1 := fun _ => []) (k1 := fun _ => []) (ins := i_law) (sl := l_law) (outs := o_law) (fun (a : List Int) => mb_law a) 11 T.law.f sc_law rfl (fun _ => rfl) (fun _ => rfl) (fun _ => rfl) (fun cdv A outer s H E hr B hB a => ?_)
  show JSs _ B _ _ (mb_law a) _
  unfold mb_law
  exact ((js_cons (ρ1 := fun (n3 : Unit) => [.val (D.scr a), .non, .non, .non, .non, .non, .non, .non, .non, .non, .non, .non]) (js_for (en := D.int) (xs := fun (b1 : Unit) => (rng 0 (max (1 : Int) (min ((List.length a : Nat) : Int) (3 : Int))))) (s0 := fun (b1 : Unit) => ()) (fun (s2 : Unit) => [.val (D.scr a), .non, .non, .non, .non, .non, .non, .non, .non, .non, .non, .non]) (fun (x4 : Int) (s2 : Unit) => [.val (D.scr a), .val (D.int x4), .non, .non, .non, .non, .non, .non, .non, .non, .non, .non]) PassesOwn.never rfl (ji_rng1P (i := (max (1 : Int) (min ((List.length a : Nat) : Int) (3 : Int)))) T.z_range (ja_p (je_cb (fun _ ht => pe_callB (call_max2 rfl) (by rfl) T.z_max (by decide +kernel) ht) (ja_p jp_int (ja_p (je_cb (fun _ ht => pe_callB (call_min2 rfl) (by rfl) T.z_min (by decide +kernel) ht) (ja_p (je_cb (fun _ ht => pe_callB call_len_seq (by rfl) T.z_len (by decide +kernel) ht) (ja_p (jp_var 0) ja_nil) cb_lenS) (ja_p jp_int ja_nil)) cb_min) ja_nil)) cb_max) ja_nil)) [true, true, true, true, true, true, true, true, true, true, true, true] (fun _ => rfl) (fun x4 s2 => (jg_name 1 sc_law.nd)) (fun x4 s2 =>
(js_setOQ 2 (oL D.int) (fun (b34 : (List Int)) => b34) (fun (b34 : (List Int)) (v_pot_here_33 : (List Int)) => [.val (D.scr a), .val (D.int x4), .own 0 ((oL D.int) v_pot_here_33), .non, .non, .non, .non, .non, .non, .non, .non, .non]) sc_law.nd (je_callV (ins := i_law_pot) (mf := m_law_pot) (sl := l_law_pot) (outs := o_law_pot) (ok_law_pot T) (hr.mono (by decide)) (by rfl) T.law_pot.g T.law_pot.f.kp T.law_pot.b pass0 (arg := (a, x4)) (ja_p (jp_var 0) (ja_p (jp_var 1) ja_nil)) hB) fun b34 v_pot_here_33 =>
(js_setEQ 3 D.int (fun (b85 : (((Int × (List Int)) × Int) × (Int × (List Int)))) => ((3 : Int) + b85.2.1)) (fun (b85 : (((Int × (List Int)) × Int) × (Int × (List Int)))) (v_n_84 : Int) => [.val (D.scr a), .val (D.int x4), .own 0 ((oL D.int) b85.2.2), .val (D.int v_n_84), .non, .non, .non, .non, .non, .non, .non, .non]) sc_law.nd (je_opR (s := fun (y36 : (((Int × (List Int)) × Int) × (Int × (List Int)))) => (.val (D.int ((3 : Int) + y36.2.1)))) (xb := fun (y36 : (((Int × (List Int)) × Int) × (Int × (List Int)))) => D.int y36.2.1) (fun _ _ ha hb => pe_op op_add ha hb) jp_int (je_callQE (ins := i_law_digit) (mf := m_law_digit) (sl := l_law_digit) (outs := o_law_digit) (ok_law_digit T) (hr.mono (by decide)) (by rfl) T.law_digit.g T.law_digit.f.kp T.law_digit.b pass0 (arg := fun (c80 : ((Int × (List Int)) × Int)) => (c80.1.2, c80.2)) (fun (b82 : ((Int × (List Int)) × Int) × (Int × (List Int))) => [.val (D.scr a), .val (D.int x4), .own 0 ((oL D.int) b82.2.2), .non, .non, .non, .non, .non, .non, .non, .non, .non]) (ja_s 2 (ja_el (xa := fun (x79 : ((Int × (List Int)) × Int)) => D.int x79.2) (je_opRG (s := fun (y76 : (Int × (List Int))) (z78 : Int) => (.val (D.int z78))) (xb := fun (y76 : (Int × (List Int))) => D.int y76.1) (fun _ _ ha hb => pe_ix ix_list ha hb (fun _ _ => rfl)) (je_frzL (v := fun (b74 : Unit) => [(7 : Int), (38 : Int)]) (je_lstT D.int (fun (b73 : Unit) => ([(7 : Int), (38 : Int)] : List Int)) (ja_p jp_int (ja_p jp_int ja_nil)))) (je_callQ (ins := i_law_digit) (mf := m_law_digit) (sl := l_law_digit) (outs := o_law_digit) (ok_law_digit T) (hr.mono (by decide)) (by rfl) T.law_digit.g T.law_digit.f.kp T.law_digit.b pass0 (arg := (v_pot_here_33, (2 : Int))) (fun (b77 : (Int × (List Int))) => [.val (D.scr a), .val (D.int x4), .own 0 ((oL D.int) b77.2), .non, .non, .non, .non, .non, .non, .non, .non, .non]) (ja_s 2 (ja_p jp_int ja_nil)) hB) (fun y76 => od_ixLm)) (fun x79 => ja_nil))) hB) (fun y36 => od_add)) fun b85 v_n_84 =>
(js_consQ1 (fun (b218 : (((List (List Int)) × (List (List Int)) × (List (List Int))) × (List Int))) => [.val (D.scr a), .val (D.int x4), .own 0 ((oL D.int) b218.2), .val (D.int v_n_84), .val ((eL (eL D.int)) b218.1.1), .val ((eL (eL D.int)) b218.1.2.1), .val ((eL (eL D.int)) b218.1.2.2), .non, .non, .non, .non, .non]) (j1_asgN (d := fun (b218 : (((List (List Int)) × (List (List Int)) × (List (List Int))) × (List Int))) => (eP3 (eL (eL D.int)) (eL (eL D.int)) (eL (eL D.int))) b218.1) (je_callQ (ins := i_law_rows) (mf := m_law_rows) (sl := l_law_rows) (outs := o_law_rows) (ok_law_rows T) (hr.mono (by decide)) (by rfl) T.law_rows.g T.law_rows.f.kp T.law_rows.b pass0 (arg := (b85.2.2, v_n_84)) (fun (b217 : (((List (List Int)) × (List (List Int)) × (List (List Int))) × (List Int))) => [.val (D.scr a), .val (D.int x4), .own 0 ((oL D.int) b217.2), .val (D.int v_n_84), .non, .non, .non, .non, .non, .non, .non, .non]) (ja_s 2 (ja_p (jp_var 3) ja_nil)) hB) (fun b218 => jg_tup rfl (jgs_p (jg_name 4 sc_law.nd) (jgs_p (jg_name 5 sc_law.nd) (jgs_p (jg_name 6 sc_law.nd) jgs_nil))))) fun b218 =>
(js_setEQ 7 (eL D.int) (fun (b239 : ((List Int) × (List Int))) => b239.1) (fun (b239 : ((List Int) × (List Int))) (v_names_here_238 : (List Int)) => [.val (D.scr a), .val (D.int x4), .own 0 ((oL D.int) b239.2), .val (D.int v_n_84), .val ((eL (eL D.int)) b218.1.1), .val ((eL (eL D.int)) b218.1.2.1), .val ((eL (eL D.int)) b218.1.2.2), .val ((eL D.int) v_names_here_238), .non, .non, .non, .non]) sc_law.nd (je_frzL (v := fun (b237 : ((List Int) × (List Int))) => b237.1) (je_callQ (ins := i_law_names) (mf := m_law_names) (sl := l_law_names) (outs := o_law_names) (ok_law_names T) (hr.mono (by decide)) (by rfl) T.law_names.g T.law_names.f.kp T.law_names.b pass0 (arg := (b218.2, v_n_84)) (fun (b236 : ((List Int) × (List Int))) => [.val (D.scr a), .val (D.int x4), .own 0 ((oL D.int) b236.2), .val (D.int v_n_84), .val ((eL (eL D.int)) b218.1.1), .val ((eL (eL D.int)) b218.1.2.1), .val ((eL (eL D.int)) b218.1.2.2), .non, .non, .non, .non, .non]) (ja_s 2 (ja_p (jp_var 3) ja_nil)) hB)) fun b239 v_names_here_238 =>
(js_setEQ 8 (eT (eR D.int)) (fun (b289 : (List (List Int))) => b289) (fun (b289 : (List (List Int))) (v_web_here_288 : (List (List Int))) => [.val (D.scr a), .val (D.int x4), .own 0 ((oL D.int) b239.2), .val (D.int v_n_84), .val ((eL (eL D.int)) b218.1.1), .val ((eL (eL D.int)) b218.1.2.1), .val ((eL (eL D.int)) b218.1.2.2), .val ((eL D.int) v_names_here_238), .val ((eT (eR D.int)) v_web_here_288), .non, .non, .non]) sc_law.nd (je_callV (ins := i_law_web) (mf := m_law_web) (sl := l_law_web) (outs := o_law_web) (ok_law_web T) (hr.mono (by decide)) (by rfl) T.law_web.g T.law_web.f.kp T.law_web.b pass0 (arg := (b218.1.1, v_names_here_238)) (ja_p (jp_var 4) (ja_p (jp_var 7) ja_nil)) hB) fun b289 v_web_here_288 =>
(js_setEQ 9 (eP3 D.int D.int D.int) (fun (b302 : (Int × (Int × Int))) => (b302.1, b302.2.1, b302.2.2)) (fun (b302 : (Int × (Int × Int))) (v_base_301 : (Int × Int × Int)) => [.val (D.scr a), .val (D.int x4), .own 0 ((oL D.int) b239.2), .val (D.int v_n_84), .val ((eL (eL D.int)) b218.1.1), .val ((eL (eL D.int)) b218.1.2.1), .val ((eL (eL D.int)) b218.1.2.2), .val ((eL D.int) v_names_here_238), .val ((eT (eR D.int)) v_web_here_288), .val ((eP3 D.int D.int D.int) v_base_301), .non, .non]) sc_law.nd (je_tup (ja_e (ρ' := fun _ _ => _) (ρa := fun _ => _) (xa := fun (x292 : Int) => D.int x292) (je_op (fun _ _ ha hb => pe_ix ix_list ha hb (fun _ _ => rfl)) (jp_var 7) jp_int od_ixLm) (fun x292 => (ja_e (ρ' := fun _ _ => _) (ρa := fun _ => _) (xa := fun (x295 : Int) => D.int x295) (je_op (fun _ _ ha hb => pe_ix ix_list ha hb (fun _ _ => rfl)) (jp_var 7) jp_int od_ixLm) (fun x295 => (ja_el (ρa := fun _ => _) (xa := fun (x298 : Int) => D.int x298) (je_op (fun _ _ ha hb => pe_ix ix_list ha hb (fun _ _ => rfl)) (jp_var 7) (jp_neg jp_int) od_ixLm) (fun x298 => ja_nil))))))) fun b302 v_base_301 =>
(js_setPQ 10 (eR D.int) v_names_here_238 (fun (v_order_303 : (List Int)) => [.val (D.scr a), .val (D.int x4), .own 0 ((oL D.int) b239.2), .val (D.int v_n_84), .val ((eL (eL D.int)) b218.1.1), .val ((eL (eL D.int)) b218.1.2.1), .val ((eL (eL D.int)) b218.1.2.2), .val ((eL D.int) v_names_here_238), .val ((eT (eR D.int)) v_web_here_288), .val ((eP3 D.int D.int D.int) v_base_301), .val ((eR D.int) v_order_303), .non]) sc_law.nd (je_cb (fun _ ht => pe_callTy cr_tupF (by rfl) T.z_tuple (by decide +kernel) ht) (ja_p (jp_var 7) ja_nil) cb_tupF) fun v_order_303 =>
(js_cons (ρ1 := fun (n757 : Unit) => [.val (D.scr a), .val (D.int x4), .own 0 ((oL D.int) b239.2), .val (D.int v_n_84), .val ((eL (eL D.int)) b218.1.1), .val ((eL (eL D.int)) b218.1.2.1), .val ((eL (eL D.int)) b218.1.2.2), .val ((eL D.int) v_names_here_238), .val ((eT (eR D.int)) v_web_here_288), .val ((eP3 D.int D.int D.int) v_base_301), .val ((eR D.int) v_order_303), .non]) (js_if (jt_opL (ρa := fun _ => _) (bn := fun (x753 : Bool) => (!decide (x753 = true))) (xa := fun (x753 : Bool) => D.bool x753) (y := fun (x753 : Bool) => D.bool true) (fun _ _ ha hb => pt_cmpR op_notBl ha hb (nomark _)) (je_callV (ins := i_is_order) (mf := m_is_order) (sl := l_is_order) (outs := o_is_order) (ok_is_order T) (hr.mono (by decide)) (by rfl) T.is_order.g T.is_order.f.kp T.is_order.b pass0 (arg := (v_web_here_288, v_base_301, v_order_303)) (ja_p (jp_var 8) (ja_p (jp_var 9) (ja_p (jp_var 10) ja_nil))) hB) (fun x753 => jp_bl) (fun x753 => od_notBl)) (fun b756 => (js_one (js_retP false [false, false, false, false, false, false, false, false, false, false, false, true] jp_bl))) (fun b756 => (js_nil [true, true, true, true, true, true, true, true, true, true, true, true] ()))) fun n757 =>
(js_cons (ρ1 := fun (n760 : Unit) => [.val (D.scr a), .val (D.int x4), .own 0 ((oL D.int) b239.2), .val (D.int v_n_84), .val ((eL (eL D.int)) b218.1.1), .val ((eL (eL D.int)) b218.1.2.1), .val ((eL (eL D.int)) b218.1.2.2), .val ((eL D.int) v_names_here_238), .val ((eT (eR D.int)) v_web_here_288), .val ((eP3 D.int D.int D.int) v_base_301), .val ((eR D.int) v_order_303), .non]) (js_for (en := D.int) (xs := fun (b758 : Unit) => (rng 0 (2 : Int))) (s0 := fun (b758 : Unit) => ()) (fun (s759 : Unit) => [.val (D.scr a), .val (D.int x4), .own 0 ((oL D.int) b239.2), .val (D.int v_n_84), .val ((eL (eL D.int)) b218.1.1), .val ((eL (eL D.int)) b218.1.2.1), .val ((eL (eL D.int)) b218.1.2.2), .val ((eL D.int) v_names_here_238), .val ((eT (eR D.int)) v_web_here_288), .val ((eP3 D.int D.int D.int) v_base_301), .val ((eR D.int) v_order_303), .non]) (fun (x761 : Int) (s759 : Unit) => [.val (D.scr a), .val (D.int x4), .own 0 ((oL D.int) b239.2), .val (D.int v_n_84), .val ((eL (eL D.int)) b218.1.1), .val ((eL (eL D.int)) b218.1.2.1), .val ((eL (eL D.int)) b218.1.2.2), .val ((eL D.int) v_names_here_238), .val ((eT (eR D.int)) v_web_here_288), .val ((eP3 D.int D.int D.int) v_base_301), .val ((eR D.int) v_order_303), .val (D.int x761)]) PassesOwn.never rfl (ji_rng1P (i := (2 : Int)) T.z_range (ja_p jp_int ja_nil)) [true, true, true, true, true, true, true, true, true, true, true, true] (fun _ => rfl) (fun x761 s759 => (jg_name 11 sc_law.nd)) (fun x761 s759 =>
(js_cons (ρ1 := fun (n875 : Unit) => [.val (D.scr a), .val (D.int x4), .own 0 ((oL D.int) b239.2), .val (D.int v_n_84), .val ((eL (eL D.int)) b218.1.1), .val ((eL (eL D.int)) b218.1.2.1), .val ((eL (eL D.int)) b218.1.2.2), .val ((eL D.int) v_names_here_238), .val ((eT (eR D.int)) v_web_here_288), .val ((eP3 D.int D.int D.int) v_base_301), .val ((eR D.int) v_order_303), .val (D.int x761)]) (js_if (jt_not (jt_val (je_callVE (ρa := fun _ => _) (ins := i_law_is) (mf := m_law_is) (sl := l_law_is) (outs := o_law_is) (ok_law_is T) (hr.mono (by decide)) (by rfl) T.law_is.g T.law_is.f.kp T.law_is.b pass0 (arg := fun (c872 : ((List (List Int)) × (List (List Int)))) => (c872.1, c872.2)) (ja_e (ρ' := fun _ _ => _) (ρa := fun _ => _) (xa := fun (x802 : (List (List Int))) => (eT (eT D.int)) x802) (je_callV (ins := i_rounds) (mf := m_rounds) (sl := l_rounds) (outs := o_rounds) (ok_rounds T) (hr.mono (by decide)) (by rfl) T.rounds.g T.rounds.f.kp T.rounds.b pass0 (arg := (v_web_here_288, v_base_301, v_order_303)) (ja_p (jp_var 8) (ja_p (jp_var 9) (ja_p (jp_var 10) ja_nil))) hB) (fun x802 => (ja_el (ρa := fun _ => _) (xa := fun (x870 : (List (List Int))) => (eT (eT D.int)) x870) (je_callV (ins := i_law_named) (mf := m_law_named) (sl := l_law_named) (outs := o_law_named) (ok_law_named T) (hr.mono (by decide)) (by rfl) T.law_named.g T.law_named.f.kp T.law_named.b pass0 (arg := (v_names_here_238, b218.1.2.1)) (ja_p (jp_var 7) (ja_p (jp_var 5) ja_nil)) hB) (fun x870 => ja_nil)))) hB))) (fun b874 => (js_one (js_retP false [false, false, false, false, false, false, false, false, false, false, false, false] jp_bl))) (fun b874 => (js_nil [true, true, true, true, true, true, true, true, true, true, true, true] ()))) fun n875 =>
(js_cons (ρ1 := fun (n890 : Unit) => [.val (D.scr a), .val (D.int x4), .own 0 ((oL D.int) b239.2), .val (D.int v_n_84), .val ((eL (eL D.int)) b218.1.1), .val ((eL (eL D.int)) b218.1.2.1), .val ((eL (eL D.int)) b218.1.2.2), .val ((eL D.int) v_names_here_238), .val ((eT (eR D.int)) v_web_here_288), .val ((eP3 D.int D.int D.int) v_base_301), .val ((eR D.int) v_order_303), .val (D.int x761)]) (js_if (jt_not (jt_val (je_callVE (ρa := fun _ => _) (ins := i_law_is) (mf := m_law_is) (sl := l_law_is) (outs := o_law_is) (ok_law_is T) (hr.mono (by decide)) (by rfl) T.law_is.g T.law_is.f.kp T.law_is.b pass0 (arg := fun (c887 : ((List (List Int)) × (List (List Int)))) => (c887.1, c887.2)) (ja_e (ρ' := fun _ _ => _) (ρa := fun _ => _) (xa := fun (x884 : (List (List Int))) => (eT (eT D.int)) x884) (je_callV (ins := i_stretches) (mf := m_stretches) (sl := l_stretches) (outs := o_stretches) (ok_stretches T) (hr.mono (by decide)) (by rfl) T.stretches.g T.stretches.f.kp T.stretches.b pass0 (arg := (v_web_here_288, v_base_301, v_order_303)) (ja_p (jp_var 8) (ja_p (jp_var 9) (ja_p (jp_var 10) ja_nil))) hB) (fun x884 => (ja_el (ρa := fun _ => _) (xa := fun (x885 : (List (List Int))) => (eT (eT D.int)) x885) (je_callV (ins := i_law_named) (mf := m_law_named) (sl := l_law_named) (outs := o_law_named) (ok_law_named T) (hr.mono (by decide)) (by rfl) T.law_named.g T.law_named.f.kp T.law_named.b pass0 (arg := (v_names_here_238, b218.1.2.2)) (ja_p (jp_var 7) (ja_p (jp_var 6) ja_nil)) hB) (fun x885 => ja_nil)))) hB))) (fun b889 => (js_one (js_retP false [false, false, false, false, false, false, false, false, false, false, false, false] jp_bl))) (fun b889 => (js_nil [true, true, true, true, true, true, true, true, true, true, true, true] ()))) fun n890 =>
(js_nil [true, true, true, true, true, true, true, true, true, true, true, false] ()))))) fun n760 =>
(js_nil [true, false, false, false, false, false, false, false, false, false, false, true] ())))))))))))) fun n3 =>
(js_one (js_retP true [false, true, true, true, true, true, true, true, true, true, true, true] jp_bl))))

/-! digits -/
theorem digit_ok (a b many : Int) (h : 0 < many) (h2 : many < 2 ^ 8000) : ∃ r a' b', m_law_digit ([a, b], many) = .ok (r, [a', b']) ∧ 0 ≤ r ∧ r < many := by
  unfold m_law_digit mb_law_digit
  have e0 : atI [a, b] (0 : Int) = some a := rfl
  have e1 : atI [a, b] (1 : Int) = some b := rfl
  have i0 : ixN (List.length [a, b]) (0 : Int) = some 0 := rfl
  have i1 : ixN (List.length [a, b]) (1 : Int) = some 1 := rfl
  simp only [e0, e1, i0, i1, some_ok, bind_ok, List.set_cons_succ, List.set_cons_zero]
  by_cases ha : a > 0
  · rw [guard_ok (divp_ok' h h2)]
    refine ⟨a % many, a / many, b, ?_, Int.emod_nonneg _ (by omega), Int.emod_lt_of_pos _ h⟩
    simp only [ha, decide_true, if_true, bind_ok, bindF_rt, fin0_rt]
    rfl
  · generalize hc : (b * 48271 + 39373) % 2147483647 = c
    have c0 : 0 ≤ c := by omega
    have c1 : c < 2147483647 := by omega
    have e2 : atI [a, c] (1 : Int) = some c := rfl
    have hm : CMulX c c := mulx 31 (by omega) (by omega)
    simp only [ha, decide_false, Bool.false_eq_true, if_false, bindF_nx, e2, some_ok, op2_ok, bind_ok, guard_ok hm, guard_ok (show many ≠ 0 by omega)]
    refine ⟨_, a, c, rfl, ?_, ?_⟩
    · rw [Int.fmod_eq_emod_of_nonneg _ (by omega)]
      exact Int.emod_nonneg _ (by omega)
    · rw [Int.fmod_eq_emod_of_nonneg _ (by omega)]
      exact Int.emod_lt_of_pos _ h
theorem pot_ok (ns : List Int) (k : Int) (h0 : 0 ≤ k) : ∃ a b, m_law_pot (ns, k) = .ok [a, b] := by
  unfold m_law_pot mb_law_pot
  obtain ⟨c, h1, h2⟩ := cell_ok ns k h0
  rw [guard_ok (line_ok (by simp only [List.length_cons, List.length_nil]; omega))]
  simp only [h1, some_ok, bind_ok, lt_eq, fin0_rt]
  exact ⟨_, _, rfl⟩
def Pot (l : List Int) : Prop := ∃ a b, l = [a, b]
theorem digit {l : List Int} {many : Int} (hp : Pot l) (h : 0 < many) (h2 : many < 2 ^ 8000) : Ok (m_law_digit (l, many)) fun p => 0 ≤ p.1 ∧ p.1 < many ∧ Pot p.2 := by
  obtain ⟨a, b, rfl⟩ := hp
  obtain ⟨r, a', b', e, h3, h4⟩ := digit_ok a b many h h2
  exact ⟨_, e, h3, h4, a', b', rfl⟩
theorem pot (ns : List Int) {k : Int} (h0 : 0 ≤ k) : Ok (m_law_pot (ns, k)) Pot := by
  obtain ⟨a, b, e⟩ := pot_ok ns k h0
  exact ⟨_, e, a, b, rfl⟩
theorem small8000 {k : Int} (h : k < 1000000000000) : k < 2 ^ 8000 := Int.lt_of_lt_of_le h (by decide +kernel)

/-! ### who stands behind whom, round about -/
def Lin : List Int → Int → Int → Prop
  | x :: y :: t, a, b => (a = x ∧ b = y) ∨ Lin (y :: t) a b
  | [_], _, _ => False
  | [], _, _ => False
def Nx : List Int → Int → Int → Prop
  | [], _, _ => False
  | h :: t, a, b => Lin (h :: t ++ [h]) a b
theorem lin_cons {x a b : Int} : ∀ {w : List Int}, Lin (x :: w) a b ↔ (a = x ∧ w.head? = some b) ∨ Lin w a b
  | [] => by simp [Lin]
  | y :: t => by
    rw [Lin]
    simp only [List.head?_cons, Option.some.injEq]
    constructor
    · rintro (⟨h1, h2⟩ | h)
      · exact .inl ⟨h1, h2.symm⟩
      · exact .inr h
    · rintro (⟨h1, h2⟩ | h)
      · exact .inl ⟨h1, h2.symm⟩
      · exact .inr h
theorem lin_append {k a b : Int} {v : List Int} : ∀ {u : List Int}, Lin (u ++ k :: v) a b ↔ Lin (u ++ [k]) a b ∨ Lin (k :: v) a b
  | [] => by
    rw [List.nil_append, List.nil_append]
    simp [Lin]
  | x :: u => by
    have e : (u ++ k :: v).head? = (u ++ [k]).head? := by cases u <;> rfl
    rw [List.cons_append, List.cons_append, lin_cons, lin_cons, lin_append (u := u), e, or_assoc]
theorem lin_snoc {s a b : Int} : ∀ {w : List Int}, Lin (w ++ [s]) a b ↔ Lin w a b ∨ (w.getLast? = some a ∧ b = s)
  | [] => by simp [Lin]
  | [x] => by
    simp only [List.singleton_append, Lin, or_false, false_or, List.getLast?_singleton, Option.some.injEq]
    exact ⟨fun h => ⟨h.1.symm, h.2⟩, fun h => ⟨h.1.symm, h.2⟩⟩
  | x :: y :: t => by
    rw [List.cons_append, List.cons_append, Lin, ← List.cons_append, lin_snoc (w := y :: t), Lin, or_assoc]
    have e : (x :: y :: t).getLast? = (y :: t).getLast? := List.getLast?_cons_cons
    rw [e]
theorem lin_mem {a b : Int} : ∀ {w : List Int}, Lin w a b → a ∈ w ∧ b ∈ w
  | [], h => h.elim
  | [_], h => h.elim
  | x :: y :: t, h => by
    rcases h with ⟨rfl, rfl⟩ | h
    · simp
    · have := lin_mem (w := y :: t) h
      exact ⟨List.mem_cons_of_mem _ this.1, List.mem_cons_of_mem _ this.2⟩
theorem lin_left {a b s : Int} {m : List Int} (h : Lin (m ++ [s]) a b) : a ∈ m := by
  rcases lin_snoc.mp h with h | h
  · exact (lin_mem h).1
  · exact List.mem_of_getLast? h.1
theorem nx_cons {h a b : Int} {t : List Int} : Nx (h :: t) a b ↔ (a = h ∧ (t ++ [h]).head? = some b) ∨ Lin (t ++ [h]) a b := by
  rw [Nx, List.cons_append, lin_cons]
theorem nx_rot {a b : Int} : ∀ {u v : List Int}, Nx (u ++ v) a b ↔ Nx (v ++ u) a b
  | [], v => by rw [List.nil_append, List.append_nil]
  | h :: u, [] => by rw [List.nil_append, List.append_nil]
  | h :: u, k :: v => by
    have e1 : Nx ((h :: u) ++ (k :: v)) a b ↔ Lin ((h :: u) ++ k :: (v ++ [h])) a b := by
      rw [List.cons_append, Nx, List.cons_append, List.append_assoc]
      rfl
    have e2 : Nx ((k :: v) ++ (h :: u)) a b ↔ Lin ((k :: v) ++ h :: (u ++ [k])) a b := by
      rw [List.cons_append, Nx, List.cons_append, List.append_assoc]
      rfl
    rw [e1, e2, lin_append, lin_append (k := h)]
    exact Or.comm
theorem nx_mem {l : List Int} {a b : Int} (h : Nx l a b) : a ∈ l ∧ b ∈ l := by
  cases l with
  | nil => exact h.elim
  | cons x t =>
    have h : Lin (x :: t ++ [x]) a b := h
    refine ⟨lin_left h, ?_⟩
    have := (lin_mem h).2
    rcases List.mem_append.mp this with h | h
    · exact h
    · rw [List.mem_singleton.mp h]
      exact List.mem_cons_self
theorem nx_ex {l : List Int} {a : Int} (h : a ∈ l) : ∃ b, Nx l a b := by
  obtain ⟨u, v, rfl⟩ := List.append_of_mem h
  cases e : (v ++ u ++ [a]).head? with
  | none => simp at e
  | some b => exact ⟨b, nx_rot.mpr (by rw [List.cons_append, nx_cons]; exact .inl ⟨rfl, e⟩)⟩
theorem nodup_rot {u v : List Int} (h : (u ++ v).Nodup) : (v ++ u).Nodup := (List.perm_append_comm (l₁ := u) (l₂ := v)).nodup_iff.mp h
theorem nx_fun {l : List Int} {a b c : Int} (nd : l.Nodup) (h1 : Nx l a b) (h2 : Nx l a c) : b = c := by
  obtain ⟨u, v, rfl⟩ := List.append_of_mem (nx_mem h1).1
  have n2 := nodup_rot nd
  rw [List.cons_append] at n2
  have na := (List.nodup_cons.mp n2).1
  have k : ∀ {b}, Nx (u ++ a :: v) a b → (v ++ u ++ [a]).head? = some b := fun {b} h => by
    have h := nx_rot.mp h
    rw [List.cons_append, nx_cons] at h
    rcases h with h | h
    · exact h.2
    · exact absurd (lin_left h) na
  have := (k h1).symm.trans (k h2)
  injection this
theorem nx_inj {l : List Int} {a b c : Int} (nd : l.Nodup) (h1 : Nx l a c) (h2 : Nx l b c) : a = b := by
  obtain ⟨u, v, rfl⟩ := List.append_of_mem (nx_mem h1).2
  have n2 := nodup_rot nd
  rw [List.cons_append] at n2
  have na := (List.nodup_cons.mp n2).1
  have k : ∀ {a}, Nx (u ++ c :: v) a c → (c :: (v ++ u)).getLast? = some a := fun {a} h => by
    have h := nx_rot.mp h
    rw [List.cons_append, Nx] at h
    rcases lin_snoc.mp h with h | h
    · rw [lin_cons] at h
      rcases h with h | h
      · have : c ∈ v ++ u := List.mem_of_mem_head? h.2
        exact absurd this na
      · exact absurd (lin_mem h).2 na
    · exact h.1
  have := (k h1).symm.trans (k h2)
  injection this
theorem nx_ins {u v : List Int} {x new a b : Int} (nd : (u ++ x :: v).Nodup) (hn : new ∉ u ++ x :: v) : Nx (u ++ x :: new :: v) a b ↔ (a = x ∧ b = new) ∨ (a = new ∧ Nx (u ++ x :: v) x b) ∨ (a ≠ x ∧ Nx (u ++ x :: v) a b) := by
  have n2 := nodup_rot nd
  rw [List.cons_append] at n2
  have na := (List.nodup_cons.mp n2).1
  have nn : new ∉ v ++ u := fun h => hn (by
    rcases List.mem_append.mp h with h | h
    · simp [h]
    · simp [h])
  have e1 : Nx (u ++ x :: new :: v) a b ↔ Nx (x :: (new :: (v ++ u))) a b := nx_rot
  have e2 : ∀ c, Nx (u ++ x :: v) c b ↔ Nx (x :: (v ++ u)) c b := fun c => nx_rot
  rw [e1, e2, e2, nx_cons, nx_cons, nx_cons]
  rw [List.cons_append, lin_cons]
  simp only [List.head?_cons, Option.some.injEq]
  constructor
  · rintro (⟨h1, h2⟩ | ⟨h1, h2⟩ | h)
    · exact .inl ⟨h1, h2.symm⟩
    · exact .inr (.inl ⟨h1, .inl ⟨trivial, h2⟩⟩)
    · refine .inr (.inr ⟨fun e => ?_, .inr h⟩)
      rw [e] at h
      exact na (lin_left h)
  · rintro (⟨h1, h2⟩ | ⟨h1, h2⟩ | ⟨h1, h2⟩)
    · exact .inl ⟨h1, h2.symm⟩
    · rcases h2 with h2 | h2
      · exact .inr (.inl ⟨h1, h2.2⟩)
      · exact absurd (lin_left h2) na
    · rcases h2 with h2 | h2
      · exact absurd h2.1 h1
      · exact .inr (.inr h2)
theorem nx_del {u v : List Int} {y a b : Int} (nd : (u ++ y :: v).Nodup) : Nx (u ++ v) a b ↔ a ≠ y ∧ b ≠ y ∧ (Nx (u ++ y :: v) a b ∨ (Nx (u ++ y :: v) a y ∧ Nx (u ++ y :: v) y b)) := by
  have n2 := nodup_rot nd
  rw [List.cons_append] at n2
  have na := (List.nodup_cons.mp n2).1
  have e1 : Nx (u ++ v) a b ↔ Nx (v ++ u) a b := nx_rot
  have e2 : ∀ c d, Nx (u ++ y :: v) c d ↔ Nx (y :: (v ++ u)) c d := fun c d => nx_rot
  rw [e1, e2, e2, e2]
  generalize v ++ u = m at *
  cases m with
  | nil =>
    simp only [nx_cons, List.nil_append, List.head?_cons, Option.some.injEq, Lin, or_false]
    constructor
    · intro h
      exact h.elim
    · rintro ⟨h1, h2, ⟨h3, _⟩ | ⟨⟨h3, _⟩, _⟩⟩ <;> exact absurd h3 h1
  | cons z m =>
    have k1 : Nx (z :: m) a b ↔ Lin (z :: m) a b ∨ ((z :: m).getLast? = some a ∧ b = z) := by rw [Nx, lin_snoc]
    have k2 : ∀ c d, Nx (y :: z :: m) c d ↔ (c = y ∧ d = z) ∨ (Lin (z :: m) c d ∨ ((z :: m).getLast? = some c ∧ d = y)) := fun c d => by
      rw [nx_cons, lin_snoc]
      simp only [List.cons_append, List.head?_cons, Option.some.injEq]
      constructor
      · rintro (⟨h1, h2⟩ | h)
        · exact .inl ⟨h1, h2.symm⟩
        · exact .inr h
      · rintro (⟨h1, h2⟩ | h)
        · exact .inl ⟨h1, h2.symm⟩
        · exact .inr h
    rw [k1, k2, k2, k2]
    constructor
    · rintro (h | ⟨h1, h2⟩)
      · have hm := lin_mem h
        exact ⟨fun e => na (e ▸ hm.1), fun e => na (e ▸ hm.2), .inl (.inr (.inl h))⟩
      · have hm : a ∈ z :: m := List.mem_of_getLast? h1
        subst h2
        exact ⟨fun e => na (e ▸ hm), fun e => na (e ▸ List.mem_cons_self), .inr ⟨.inr (.inr ⟨h1, rfl⟩), .inl ⟨rfl, rfl⟩⟩⟩
    · rintro ⟨h1, h2, (⟨h3, _⟩ | h3 | ⟨_, h3⟩) | ⟨h3, h4⟩⟩
      · exact absurd h3 h1
      · exact .inl h3
      · exact absurd h3 h2
      · rcases h3 with h3 | h3 | h3
        · exact absurd h3.1 h1
        · exact absurd (lin_mem h3).2 na
        · rcases h4 with h4 | h4 | h4
          · exact .inr ⟨h3.1, h4.2⟩
          · exact absurd (lin_mem h4).1 na
          · exact absurd h4.2 h2

/-! ### rows -/
def N (rows : List (List Int)) (p : Int) : List Int := rows.getD p.toNat []
theorem N_get {rows : List (List Int)} {p : Int} (h0 : 0 ≤ p) (h : p < rows.length) : rows[p.toNat]? = some (N rows p) := by
  have hk : p.toNat < rows.length := by omega
  unfold N
  rw [List.getD_eq_getElem?_getD, List.getElem?_eq_getElem hk]
  rfl
theorem N_at {rows : List (List Int)} {p : Int} (h0 : 0 ≤ p) (h : p < rows.length) : atI rows p = some (N rows p) := atI_nat h0 (N_get h0 h)
theorem N_row {rows : List (List Int)} {p : Int} (h0 : 0 ≤ p) (h : p < rows.length) : rowAt rows p = some (p.toNat, N rows p) := by
  unfold rowAt
  rw [ixN_nat h0 h]
  show (rows[p.toNat]?).map _ = _
  rw [N_get h0 h]
  rfl
theorem N_set {rows : List (List Int)} {i : Nat} {r : List Int} (hi : i < rows.length) (q : Int) : N (rows.set i r) q = if q.toNat = i then r else N rows q := by
  unfold N
  rw [List.getD_eq_getElem?_getD, List.getD_eq_getElem?_getD]
  by_cases h : q.toNat = i
  · rw [if_pos h, h, List.getElem?_set_self hi]
    rfl
  · rw [if_neg h, List.getElem?_set_ne (Ne.symm h)]
theorem N_snoc {rows : List (List Int)} {r : List Int} (q : Int) : N (rows ++ [r]) q = if q.toNat = rows.length then r else N rows q := by
  unfold N
  rw [List.getD_eq_getElem?_getD, List.getD_eq_getElem?_getD]
  by_cases h : q.toNat = rows.length
  · rw [if_pos h, h, List.getElem?_append_right (Nat.le_refl _), Nat.sub_self]
    rfl
  · rw [if_neg h]
    by_cases h2 : q.toNat < rows.length
    · rw [List.getElem?_append_left h2]
    · rw [List.getElem?_eq_none (by rw [List.length_append, List.length_singleton]; omega), List.getElem?_eq_none (by omega)]
theorem N_mem {rows : List (List Int)} {p : Int} (h0 : 0 ≤ p) (h : p < rows.length) : N rows p ∈ rows := List.mem_of_getElem? (N_get h0 h)
/-- the first place of what is there -/
theorem ix_mem {x : Int} : ∀ {l : List Int}, x ∈ l → ∃ j, ixOf x l = some j ∧ j < l.length ∧ l[j]? = some x ∧ l = l.take j ++ x :: l.drop (j + 1) ∧ l.take (j + 1) = l.take j ++ [x] ∧ l.eraseIdx j = l.take j ++ l.drop (j + 1)
  | y :: t, h => by
    by_cases e : y = x
    · subst e
      exact ⟨0, by rw [ixOf, if_pos rfl], by simp, by simp, by simp, by simp, by simp⟩
    · have h' : x ∈ t := by
        rcases List.mem_cons.mp h with h | h
        · exact absurd h.symm e
        · exact h
      obtain ⟨j, h1, h2, h3, h4, h5, h6⟩ := ix_mem h'
      refine ⟨j + 1, by rw [ixOf, if_neg e, h1]; rfl, by simpa using h2, by simpa using h3, ?_, ?_, ?_⟩
      · rw [List.take_succ_cons, List.drop_succ_cons, List.cons_append, ← h4]
      · rw [List.take_succ_cons, h5, List.take_succ_cons, List.cons_append]
      · rw [List.eraseIdx_cons_succ, h6, List.take_succ_cons, List.drop_succ_cons, List.cons_append]
/-- rows of n places -/
structure Rw0 (n : Nat) (rows : List (List Int)) : Prop where
  len : rows.length = n
  rg : ∀ p : Int, 0 ≤ p → p < n → ∀ q ∈ N rows p, 0 ≤ q ∧ q < n ∧ q ≠ p
  nd : ∀ p : Int, 0 ≤ p → p < n → (N rows p).Nodup
/-- joined both ways -/
structure Gr (n : Nat) (rows : List (List Int)) : Prop extends Rw0 n rows where
  sy : ∀ p : Int, 0 ≤ p → p < n → ∀ q ∈ N rows p, p ∈ N rows q
/-- every place has a neighbour -/
def Ne0 (n : Nat) (rows : List (List Int)) : Prop := ∀ p : Int, 0 ≤ p → p < n → N rows p ≠ []
theorem nodup_small : ∀ {n : Nat} {l : List Int}, l.Nodup → (∀ x ∈ l, 0 ≤ x ∧ x < (n : Int)) → l.length ≤ n
  | 0, [], _, _ => Nat.le_refl _
  | 0, x :: l, _, h => by
    have := h x List.mem_cons_self
    omega
  | n + 1, l, nd, h => by
    have ih := nodup_small (n := n) (l := l.erase (n : Int)) (nd.erase _) fun x m => by
      obtain ⟨h1, h2⟩ := nd.mem_erase_iff.mp m
      have := h x h2
      omega
    by_cases hm : (n : Int) ∈ l
    · rw [List.length_erase_of_mem hm] at ih
      omega
    · rw [List.erase_of_not_mem hm] at ih
      omega
theorem Rw0.small {n : Nat} {rows : List (List Int)} (g : Rw0 n rows) {p : Int} (h0 : 0 ≤ p) (h1 : p < n) : (N rows p).length ≤ n := nodup_small (g.nd p h0 h1) fun x m => ⟨(g.rg p h0 h1 x m).1, (g.rg p h0 h1 x m).2.1⟩

/-! ### rows that begin with their least, told by who stands behind whom -/
theorem nx_of_lin {l : List Int} {a b : Int} (h : Lin l a b) : Nx l a b := by
  cases l with
  | nil => exact h.elim
  | cons x t => exact lin_snoc.mpr (.inl h)
theorem lin_get {a b : Int} : ∀ {l : List Int} {i : Nat}, l[i]? = some a → l[i + 1]? = some b → Lin l a b
  | [], i, h, _ => by simp at h
  | [x], i, h, h2 => by simp at h2
  | x :: y :: t, 0, h, h2 => by
    simp only [List.getElem?_cons_zero, List.getElem?_cons_succ, Option.some.injEq] at h h2
    exact .inl ⟨h.symm, h2.symm⟩
  | x :: y :: t, i + 1, h, h2 => .inr (lin_get (l := y :: t) (i := i) (by simpa using h) (by simpa using h2))
theorem lin_rev {a b : Int} : ∀ {w : List Int}, Lin w.reverse a b ↔ Lin w b a
  | [] => by simp [Lin]
  | x :: w => by
    rw [List.reverse_cons, lin_snoc, lin_cons, lin_rev (w := w), List.getLast?_reverse]
    constructor
    · rintro (h | ⟨h1, h2⟩)
      · exact .inr h
      · exact .inl ⟨h2, h1⟩
    · rintro (⟨h1, h2⟩ | h)
      · exact .inr ⟨h2, h1⟩
      · exact .inl h
theorem nx_rev {l : List Int} {a b : Int} : Nx l.reverse a b ↔ Nx l b a := by
  cases l with
  | nil => simp [Nx]
  | cons h t =>
    rw [List.reverse_cons, nx_rot]
    show Lin (h :: t.reverse ++ [h]) a b ↔ Lin (h :: t ++ [h]) b a
    rw [← lin_rev (w := h :: t ++ [h])]
    simp
theorem lin_map {f : Int → Int} {a b : Int} : ∀ {w : List Int}, Lin (w.map f) a b ↔ ∃ x y, Lin w x y ∧ f x = a ∧ f y = b
  | [] => by simp [Lin]
  | [x] => by simp [Lin]
  | x :: y :: t => by
    rw [List.map_cons, List.map_cons, Lin, ← List.map_cons, lin_map (w := y :: t)]
    constructor
    · rintro (⟨h1, h2⟩ | ⟨u, v, h1, h2, h3⟩)
      · exact ⟨x, y, .inl ⟨rfl, rfl⟩, h1.symm, h2.symm⟩
      · exact ⟨u, v, .inr h1, h2, h3⟩
    · rintro ⟨u, v, ⟨h1, h2⟩ | h1, h3, h4⟩
      · subst h1 h2; exact .inl ⟨h3.symm, h4.symm⟩
      · exact .inr ⟨u, v, h1, h3, h4⟩
theorem nx_map {f : Int → Int} {a b : Int} {l : List Int} : Nx (l.map f) a b ↔ ∃ x y, Nx l x y ∧ f x = a ∧ f y = b := by
  cases l with
  | nil => simp [Nx]
  | cons h t =>
    show Lin ((h :: t).map f ++ [f h]) a b ↔ ∃ x y, Lin (h :: t ++ [h]) x y ∧ _
    rw [← lin_map (w := h :: t ++ [h]), List.map_append]
    rfl
theorem nx_drop {l : List Int} {k : Nat} {a b : Int} : Nx (l.drop k ++ l.take k) a b ↔ Nx l a b := by
  rw [nx_rot, List.take_append_drop]
/-- the least stands first -/
def LF (l : List Int) : Prop := l.Nodup ∧ ∃ h t, l = h :: t ∧ ∀ x ∈ l, h ≤ x
theorem lf_eq {l m : List Int} (hl : LF l) (hm : LF m) (e : ∀ a b, Nx l a b ↔ Nx m a b) : l = m := by
  obtain ⟨nl, h, t, el, ll⟩ := hl
  obtain ⟨nm, h', t', em, lm⟩ := hm
  have mem : ∀ x, x ∈ l ↔ x ∈ m := fun x => ⟨fun z => by
    obtain ⟨y, hy⟩ := nx_ex z
    exact (nx_mem ((e _ _).mp hy)).1, fun z => by
    obtain ⟨y, hy⟩ := nx_ex z
    exact (nx_mem ((e _ _).mpr hy)).1⟩
  have hh : h = h' := Int.le_antisymm (ll _ ((mem _).mpr (by rw [em]; exact List.mem_cons_self))) (lm _ ((mem _).mp (by rw [el]; exact List.mem_cons_self)))
  have len : l.length = m.length := Nat.le_antisymm (nodup_le nl fun x hx => (mem x).mp hx) (nodup_le nm fun x hx => (mem x).mpr hx)
  refine List.ext_getElem? fun i => ?_
  induction i with
  | zero => rw [el, em, hh]; rfl
  | succ i ih =>
    cases e1 : l[i + 1]? with
    | none =>
      have := List.getElem?_eq_none_iff.mp e1
      exact (List.getElem?_eq_none (by omega)).symm
    | some b =>
      have hi := (List.getElem?_eq_some_iff.mp e1).1
      have e2 : l[i]? = some l[i] := List.getElem?_eq_getElem (by omega)
      have e3 : m[i]? = some l[i] := ih ▸ e2
      have e4 : m[i + 1]? = some m[i + 1] := List.getElem?_eq_getElem (by omega)
      rw [e4]
      congr 1
      have n1 := (e _ _).mp (nx_of_lin (lin_get e2 e1))
      have n2 := nx_of_lin (lin_get e3 e4)
      exact nx_fun nm n1 n2
/-- the row turned till its least is first -/
theorem lf_turn {v : List Int} (nd : v.Nodup) {j : Nat} (h : ixOf (minL v) v = some j) : LF (v.drop j ++ v.take j) := by
  refine ⟨nodup_rot (by rw [List.take_append_drop]; exact nd), ?_⟩
  obtain ⟨h1, _⟩ := ixOf_some h
  have hj := (List.getElem?_eq_some_iff.mp h1)
  have ne : v ≠ [] := fun e => by rw [e] at h1; simp at h1
  refine ⟨minL v, v.drop (j + 1) ++ v.take j, ?_, fun x hx => (minL_is ne).2 x ?_⟩
  · rw [List.drop_eq_getElem_cons hj.1, hj.2]
    rfl
  · rw [List.mem_append, Or.comm, ← List.mem_append, List.take_append_drop] at hx
    exact hx

--#split
/-! ### what is reached -/
theorem rng62 {k : Int} (h : -1000000 ≤ k) (h2 : k < 1000000000000) : rngOk k := ⟨by omega, by omega⟩
theorem sizeB {n : Nat} (h : n ≤ 100000) : n < sizeLine := Nat.lt_of_le_of_lt h (by decide)
theorem rng_mem {lo hi x : Int} : x ∈ rng lo hi ↔ lo ≤ x ∧ x < hi := by
  constructor
  · intro h
    obtain ⟨i, hi⟩ := List.mem_iff_getElem?.mp h
    obtain ⟨h1, h2⟩ := rng_get hi
    omega
  · rintro ⟨h1, h2⟩
    unfold rng
    rw [List.mem_map]
    exact ⟨(x - lo).toNat, List.mem_range.mpr (by omega), by omega⟩
theorem rng_nodup (lo hi : Int) : (rng lo hi).Nodup := by
  unfold rng
  rw [List.Nodup, List.pairwise_map]
  exact List.nodup_range.imp fun h e => h (by omega)
/-- what may be reached from a, past what is gone -/
inductive Rea (web : List (List Int)) (gone : List Int) (a : Int) : Int → Prop
  | refl : Rea web gone a a
  | step {b c : Int} : Rea web gone a b → c ∈ N web b → b ∉ gone → c ∉ gone → Rea web gone a c
section
variable {n : Nat} {web : List (List Int)} {gone : List Int} (g : Gr n web)
theorem Rea.trans {a b c : Int} (h : Rea web gone a b) (h2 : Rea web gone b c) : Rea web gone a c := by
  induction h2 with
  | refl => exact h
  | step _ h3 h4 h5 ih => exact ih.step h3 h4 h5
theorem Rea.out {a b : Int} (h : Rea web gone a b) (ha : a ∉ gone) : b ∉ gone := by
  cases h with
  | refl => exact ha
  | step _ _ _ h => exact h
theorem Rea.one {a b : Int} (h : b ∈ N web a) : Rea web [] a b := .step .refl h (by simp) (by simp)
include g
theorem Rea.rg {a b : Int} (h : Rea web gone a b) (a0 : 0 ≤ a) (a1 : a < n) : 0 ≤ b ∧ b < n := by
  induction h with
  | refl => exact ⟨a0, a1⟩
  | step _ h3 _ _ ih => exact ⟨(g.rg _ ih.1 ih.2 _ h3).1, (g.rg _ ih.1 ih.2 _ h3).2.1⟩
theorem Rea.symm {a b : Int} (h : Rea web gone a b) (a0 : 0 ≤ a) (a1 : a < n) : Rea web gone b a := by
  induction h with
  | refl => exact .refl
  | step h2 h3 h4 h5 ih =>
    have r := Rea.rg g h2 a0 a1
    exact (Rea.step .refl (g.sy _ r.1 r.2 _ h3) h5 h4).trans ih
/-- ties that are kept, or led about -/
theorem Rea.into {web' : List (List Int)} (k : ∀ a : Int, 0 ≤ a → a < n → ∀ b ∈ N web a, Rea web' [] a b) {a b : Int} (h : Rea web [] a b) (a0 : 0 ≤ a) (a1 : a < n) : Rea web' [] a b := by
  induction h with
  | refl => exact .refl
  | step h2 h3 _ _ ih =>
    have r := Rea.rg g h2 a0 a1
    exact ih.trans (k _ r.1 r.2 _ h3)
end
/-- all places are reached from the first -/
def Con (n : Nat) (rows : List (List Int)) : Prop := ∀ p : Int, 0 ≤ p → p < n → Rea rows [] 0 p

theorem ins_nodup0 {u w : List Int} {new : Int} (h : (u ++ w).Nodup) (hn : new ∉ u ++ w) : (u ++ new :: w).Nodup := List.perm_middle.nodup_iff.mpr (List.nodup_cons.mpr ⟨hn, h⟩)
theorem put_mem {u : List Int} {k : Nat} {x v : Int} : x ∈ u.take k ++ [v] ++ u.drop k ↔ x = v ∨ x ∈ u := by
  have : x ∈ u ↔ x ∈ u.take k ∨ x ∈ u.drop k := by rw [← List.mem_append, List.take_append_drop]
  simp only [List.mem_append, List.mem_singleton, this]
  grind
theorem put_nodup {u : List Int} {k : Nat} {v : Int} (h : u.Nodup) (hv : v ∉ u) : (u.take k ++ [v] ++ u.drop k).Nodup := by
  rw [List.append_assoc, List.singleton_append]
  have e : u.take k ++ u.drop k = u := List.take_append_drop k u
  rw [← e] at h hv
  exact ins_nodup0 h hv

/-! ### names, and the web drawn -/
structure Nms (n : Int) (nm : List Int) : Prop where
  len : nm.length = n.toNat
  nd : nm.Nodup
  mem : ∀ x, x ∈ nm ↔ 0 ≤ x ∧ x < n
def nmf (nm : List Int) (x : Int) : Int := nm.getD x.toNat 0
theorem nmf_at {nm : List Int} {x : Int} (h0 : 0 ≤ x) (h : x < nm.length) : nm[x.toNat]? = some (nmf nm x) := by
  have hk : x.toNat < nm.length := by omega
  unfold nmf
  rw [List.getD_eq_getElem?_getD, List.getElem?_eq_getElem hk]
  rfl
theorem nd_get {nm : List Int} (nd : nm.Nodup) {i j : Nat} {a : Int} (hi : nm[i]? = some a) (hj : nm[j]? = some a) : i = j := (List.getElem?_inj (List.getElem?_eq_some_iff.mp hi).1 nd).mp (hi.trans hj.symm)
section
variable {n : Int} {nm : List Int} (g : Nms n nm)
include g
theorem Nms.lenI : (nm.length : Int) = max n 0 := by have := g.len; omega
theorem Nms.rg {x : Int} (h0 : 0 ≤ x) (h : x < n) : 0 ≤ nmf nm x ∧ nmf nm x < n := (g.mem _).mp (List.mem_of_getElem? (nmf_at h0 (by have := g.lenI; omega)))
theorem Nms.inj {x y : Int} (x0 : 0 ≤ x) (x1 : x < n) (y0 : 0 ≤ y) (y1 : y < n) (h : nmf nm x = nmf nm y) : x = y := by
  have h1 := nmf_at (nm := nm) x0 (by have := g.lenI; omega)
  have h2 := nmf_at (nm := nm) y0 (by have := g.lenI; omega)
  rw [← h] at h2
  have := nd_get g.nd h1 h2
  omega
theorem Nms.sur {a : Int} (h0 : 0 ≤ a) (h : a < n) : ∃ x, 0 ≤ x ∧ x < n ∧ nmf nm x = a := by
  obtain ⟨i, hi⟩ := List.mem_iff_getElem?.mp ((g.mem a).mpr ⟨h0, h⟩)
  have hl := (List.getElem?_eq_some_iff.mp hi).1
  have := g.len
  refine ⟨i, by omega, by omega, ?_⟩
  unfold nmf
  rw [List.getD_eq_getElem?_getD, Int.toNat_natCast, hi]
  rfl
end
theorem names_ok {l : List Int} (hp : Pot l) {n : Int} (n0 : 0 ≤ n) (n1 : n < 900) : Ok (m_law_names (l, n)) fun r => Nms n r.1 ∧ Pot r.2 := by
  unfold m_law_names mb_law_names
  simp only [DL.bind_assoc, bind_ok, lt_eq]
  refine Ok.f0 (Ok.bF (Pn := fun s : List Int × List Int => Pot s.1 ∧ Nms n s.2) (Ok.grdB (rng62 (by omega) (by omega)) (Ok.forR (fun i (s : List Int × List Int) => Pot s.1 ∧ s.2.length = i ∧ s.2.Nodup ∧ ∀ x, x ∈ s.2 ↔ 0 ≤ x ∧ x < (i : Int)) ⟨hp, rfl, List.nodup_nil, fun x => ⟨fun h => by simp at h, fun h => absurd h (by omega)⟩⟩ ?_ ?_)) fun s h => Ok.rt ⟨h.2, h.1⟩)
  · rintro i x ⟨l, f⟩ e ⟨k1, k2, k3, k4⟩
    obtain ⟨e1, e2⟩ := rng_get e
    have k2 : f.length = i := k2
    refine (digit k1 (show 0 < x + 1 by omega) (small8000 (by omega))).bind fun b hb => Ok.grdB ⟨small1000 (show f.length ≤ 1000 by omega), hb.1, by have := hb.2.1; omega⟩ (Ok.nx ⟨hb.2.2, ?_, ?_, fun y => ?_⟩)
    · have : (f.take b.1.toNat ++ [x] ++ f.drop b.1.toNat).length = f.length + 1 := by
        simp only [List.length_append, List.length_take, List.length_drop, List.length_singleton]
        omega
      rw [← k2]
      exact this
    · exact put_nodup k3 fun m => by have := (k4 x).mp m; omega
    · show y ∈ f.take b.1.toNat ++ [x] ++ f.drop b.1.toNat ↔ _
      rw [put_mem, k4]
      omega
  · rintro s ⟨k1, k2, k3, k4⟩
    rw [rng_len] at k2 k4
    exact ⟨k1, ⟨by rw [k2]; omega, k3, fun x => by rw [k4]; omega⟩⟩
theorem cut_from {α : Type} (xs : List α) (j : Nat) : cut xs (some (j : Int)) none = xs.drop j := by
  unfold cut
  rw [HT.sIx_nat, HT.sIx_none]
  by_cases h : j ≤ xs.length
  · rw [Nat.min_eq_left h, List.take_of_length_le (by rw [List.length_drop]; omega)]
  · rw [Nat.min_eq_right (by omega), List.drop_of_length_le (Nat.le_refl _), List.take_nil, List.drop_of_length_le (by omega)]
theorem cut_to {α : Type} (xs : List α) (j : Nat) : cut xs none (some (j : Int)) = xs.take j := by
  unfold cut
  rw [HT.sIx_nat, HT.sIx_none, List.drop_zero, Nat.sub_zero]
  by_cases h : j ≤ xs.length
  · rw [Nat.min_eq_left h]
  · rw [Nat.min_eq_right (by omega), List.take_of_length_le (Nat.le_refl _), List.take_of_length_le (by omega)]
theorem rep_len {α : Type} {x : α} (n : Nat) : (repL [x] (n : Int)).length = n := by
  unfold repL
  rw [Int.toNat_natCast]
  induction n with
  | zero => rfl
  | succ n ih => rw [List.replicate_succ, List.flatten_cons, List.length_append, ih, List.length_singleton]; omega
theorem nodup_map {f : Int → Int} : ∀ {l : List Int}, (∀ x ∈ l, ∀ y ∈ l, f x = f y → x = y) → l.Nodup → (l.map f).Nodup
  | [], _, _ => List.nodup_nil
  | x :: l, h, nd => by
    have := List.nodup_cons.mp nd
    rw [List.map_cons, List.nodup_cons]
    refine ⟨fun m => ?_, nodup_map (fun a ha b hb => h a (List.mem_cons_of_mem _ ha) b (List.mem_cons_of_mem _ hb)) this.2⟩
    obtain ⟨y, hy, e⟩ := List.mem_map.mp m
    rw [h y (List.mem_cons_of_mem _ hy) x List.mem_cons_self e] at hy
    exact this.1 hy

/-! ### places put over a stretch of the round -/
theorem cut_mid {α : Type} (xs : List α) (i j : Nat) : cut xs (some (i : Int)) (some (j : Int)) = (xs.drop i).take (j - i) := by
  unfold cut
  rw [HT.sIx_nat, HT.sIx_nat]
  by_cases h : i ≤ xs.length
  · rw [Nat.min_eq_left h]
    by_cases h2 : j ≤ xs.length
    · rw [Nat.min_eq_left h2]
    · rw [Nat.min_eq_right (by omega), List.take_of_length_le (by rw [List.length_drop]; omega), List.take_of_length_le (by rw [List.length_drop]; omega)]
  · rw [List.drop_of_length_le (by omega), List.take_nil, List.drop_of_length_le (by omega), List.take_nil]
structure Put (n : Nat) (rows : List (List Int)) (part : List Int) (rows' : List (List Int)) : Prop where
  len : rows'.length = n + 1
  new : N rows' n = part
  out : ∀ p : Int, 0 ≤ p → p < n → p ∉ part → N rows' p = N rows p
  mid : ∀ (i : Nat) (x y : Int), part[i]? = some x → part[i + 1]? = some y → ∃ a b, N rows x = a ++ y :: b ∧ N rows' x = a ++ y :: (n : Int) :: b
  lst : ∀ (x y : Int), part[part.length - 1]? = some x → part[part.length - 2]? = some y → ∃ a b, N rows x = a ++ y :: b ∧ N rows' x = a ++ (n : Int) :: y :: b
theorem get_inj {α : Type} {l : List α} (nd : l.Nodup) {i j : Nat} {x : α} (h : l[i]? = some x) (k : l[j]? = some x) : i = j := by
  have h1 := (List.getElem?_eq_some_iff.mp h)
  have k1 := (List.getElem?_eq_some_iff.mp k)
  obtain ⟨h1, h2⟩ := h1
  obtain ⟨k1, k2⟩ := k1
  exact (List.getElem_inj nd).mp (h2.trans k2.symm)
theorem put_ok {n : Nat} {rows : List (List Int)} (glen : rows.length = n) (few : ∀ p : Int, 0 ≤ p → p < n → (N rows p).length < 1000) {row : List Int} {f l : Nat} (hfl : f < l) (hl : l < row.length) (hr : row.length ≤ 900)
    (nd : row.Nodup) (rg : ∀ x ∈ row, 0 ≤ x ∧ x < (n : Int)) (adj : ∀ (i : Nat) (x y : Int), row[i]? = some x → row[i + 1]? = some y → y ∈ N rows x ∧ x ∈ N rows y) (hn : n < 900) :
    Ok (m_law_put_over (rows, row, (f : Int), (l : Int))) fun r => r.1 = row.take (f + 1) ++ [(n : Int)] ++ row.drop l ∧ Put n rows ((row.drop f).take (l + 1 - f)) r.2 := by
  unfold m_law_put_over mb_law_put_over
  simp only [DL.bind_assoc, bind_okN, lt_eqN]
  have hc : cut row (some (f : Int)) (some ((l : Int) + (1 : Int))) = (row.drop f).take (l + 1 - f) := by
    rw [show (l : Int) + 1 = ((l + 1 : Nat) : Int) by omega, cut_mid]
  have hc1 : cut row none (some ((f : Int) + (1 : Int))) = row.take (f + 1) := by
    rw [show (f : Int) + 1 = ((f + 1 : Nat) : Int) by omega, cut_to]
  have hc2 : cut row (some (l : Int)) none = row.drop l := cut_from _ _
  simp only [hc, hc1, hc2]
  have pl : ((row.drop f).take (l + 1 - f)).length = l + 1 - f := by
    rw [List.length_take, List.length_drop]
    omega
  have pg : ∀ i, i < l + 1 - f → ((row.drop f).take (l + 1 - f))[i]? = row[f + i]? := fun i hi => by
    rw [List.getElem?_take, if_pos hi, List.getElem?_drop]
  have pnd : ((row.drop f).take (l + 1 - f)).Nodup := List.Sublist.nodup ((List.take_sublist _ _).trans (List.drop_sublist _ _)) nd
  have prg : ∀ x ∈ (row.drop f).take (l + 1 - f), 0 ≤ x ∧ x < (n : Int) := fun x hx => rg x (List.mem_of_mem_drop (List.mem_of_mem_take hx))
  have padj : ∀ (i : Nat) (x y : Int), ((row.drop f).take (l + 1 - f))[i]? = some x → ((row.drop f).take (l + 1 - f))[i + 1]? = some y → y ∈ N rows x ∧ x ∈ N rows y := fun i x y h k => by
    have k1 := (List.getElem?_eq_some_iff.mp k).1
    rw [pl] at k1
    rw [pg _ (by omega)] at h k
    exact adj (f + i) x y h k
  generalize hP : (row.drop f).take (l + 1 - f) = part at *
  have hp2 : 2 ≤ part.length := by omega
  have gx : ∀ i, i < part.length → ∃ x, part[i]? = some x := fun i hi => ⟨_, List.getElem?_eq_getElem hi⟩
  refine Ok.f0 (Ok.bF (Pn := fun w => w.length = n ∧ (∀ p : Int, 0 ≤ p → p < n → p ∉ part.take (part.length - 1) → N w p = N rows p) ∧ ∀ (i : Nat) (x y : Int), part[i]? = some x → part[i + 1]? = some y → ∃ a b, N rows x = a ++ y :: b ∧ N w x = a ++ y :: (n : Int) :: b)
    (Ok.grdB (rng62 (by omega) (by omega)) (Ok.forR (fun (k : Nat) w => w.length = n ∧ (∀ p : Int, 0 ≤ p → p < n → p ∉ part.take k → N w p = N rows p) ∧ ∀ (i : Nat) (x y : Int), i < k → part[i]? = some x → part[i + 1]? = some y → ∃ a b, N rows x = a ++ y :: b ∧ N w x = a ++ y :: (n : Int) :: b) ?_ ?_ ?_)) ?_)
  · exact ⟨glen, fun _ _ _ _ => rfl, fun i _ _ h => absurd h (Nat.not_lt_zero _)⟩
  · rintro k z w ez ⟨wl, h1, h2⟩
    obtain ⟨ez, zl⟩ := rng_get ez
    rw [Int.zero_add] at ez
    subst ez
    have kl : k + 1 < part.length := by omega
    obtain ⟨x, ex⟩ := gx k (by omega)
    obtain ⟨y, ey⟩ := gx (k + 1) kl
    have hx := prg x (List.mem_of_getElem? ex)
    have nx : x ∉ part.take k := fun m => by
      obtain ⟨j, hj⟩ := List.mem_iff_getElem?.mp m
      rw [List.getElem?_take] at hj
      split at hj
      · have := get_inj pnd hj ex
        omega
      · cases hj
    have ew := h1 x hx.1 hx.2 nx
    have hy := (padj k x y ex ey).1
    have a1 : atI part (k : Int) = some x := atI_nat (by omega) (by rw [Int.toNat_natCast]; exact ex)
    have a2 : atI part ((k : Int) + 1) = some y := atI_nat (by omega) (by rw [show ((k : Int) + 1).toNat = k + 1 by omega]; exact ey)
    have xw : x < (w.length : Int) := by omega
    obtain ⟨j, j1, j2, j3, j4, j5, _⟩ := ix_mem hy
    have fx := few x hx.1 hx.2
    refine Ok.somB a1 (Ok.somB (N_row hx.1 xw) (Ok.somB a1 (Ok.somB (N_at hx.1 xw) (Ok.somB a2 (Ok.somB (by rw [ew]; exact j1) (Ok.grdB ⟨sizeB (show (N w x).length ≤ 100000 by rw [ew]; omega), by omega, by omega⟩ (Ok.nx ⟨by rw [List.length_set]; exact wl, ?_, ?_⟩)))))))
    · intro p p0 p1 hp
      have e : part.take (k + 1) = part.take k ++ [x] := by rw [List.take_succ, ex]; rfl
      rw [e, List.mem_append, not_or] at hp
      rw [N_set (show x.toNat < w.length by omega), if_neg (fun z => hp.2 (by rw [List.mem_singleton]; omega))]
      exact h1 p p0 p1 hp.1
    · intro i x' y' hi ex' ey'
      have hx' := prg x' (List.mem_of_getElem? ex')
      rw [N_set (show x.toNat < w.length by omega)]
      by_cases hik : i = k
      · subst hik
        have e1 : x' = x := by rw [ex] at ex'; injection ex' with e; exact e.symm
        have e2 : y' = y := by rw [ey] at ey'; injection ey' with e; exact e.symm
        subst e1
        subst e2
        rw [if_pos rfl]
        refine ⟨(N rows x').take j, (N rows x').drop (j + 1), j4, ?_⟩
        show List.take (((j : Nat) : Int) + 1).toNat (N w x') ++ [_] ++ List.drop (((j : Nat) : Int) + 1).toNat (N w x') = _
        rw [ew, show (((j : Nat) : Int) + 1).toNat = j + 1 by omega, j5, glen, List.append_assoc, List.append_assoc]
        rfl
      · rw [if_neg (fun z => hik (get_inj pnd ex' (by rw [show x' = x by omega]; exact ex)))]
        exact h2 i x' y' (by omega) ex' ey'
  · rintro w ⟨wl, h1, h2⟩
    rw [rng_len, show (((part.length : Nat) : Int) - 1 - 0).toNat = part.length - 1 by omega] at h1 h2
    refine ⟨wl, h1, fun i x y ex ey => h2 i x y ?_ ex ey⟩
    have := (List.getElem?_eq_some_iff.mp ey).1
    omega
  · rintro w ⟨wl, h1, h2⟩
    obtain ⟨x, ex⟩ := gx (part.length - 1) (by omega)
    obtain ⟨y, ey⟩ := gx (part.length - 2) (by omega)
    have ex' : part[part.length - 2 + 1]? = some x := by rw [show part.length - 2 + 1 = part.length - 1 by omega]; exact ex
    have hx := prg x (List.mem_of_getElem? ex)
    have nx : x ∉ part.take (part.length - 1) := fun m => by
      obtain ⟨j, hj⟩ := List.mem_iff_getElem?.mp m
      rw [List.getElem?_take] at hj
      split at hj
      · have := get_inj pnd hj ex
        omega
      · cases hj
    have ew := h1 x hx.1 hx.2 nx
    have hy := (padj _ y x ey ex').2
    have a1 : atI part (-(1 : Int)) = some x := by
      unfold atI ixN
      rw [if_neg (by omega), if_pos (by omega), show (-1 + (part.length : Int)).toNat = part.length - 1 by omega]
      exact ex
    have a2 : atI part (-(2 : Int)) = some y := by
      unfold atI ixN
      rw [if_neg (by omega), if_pos (by omega), show (-2 + (part.length : Int)).toNat = part.length - 2 by omega]
      exact ey
    have xw : x < (w.length : Int) := by omega
    obtain ⟨j, j1, j2, j3, j4, j5, _⟩ := ix_mem hy
    have fx := few x hx.1 hx.2
    refine Ok.somB a1 (Ok.somB (N_row hx.1 xw) (Ok.somB a1 (Ok.somB (N_at hx.1 xw) (Ok.somB a2 (Ok.somB (by rw [ew]; exact j1) (Ok.grdB ⟨sizeB (show (N w x).length ≤ 100000 by rw [ew]; omega), by omega, by omega⟩ ?_))))))
    refine Ok.grdB (sizeB (by rw [List.length_set]; omega)) (Ok.grdB (Nat.le_of_lt (sizeB (by rw [List.length_take, List.length_singleton]; omega))) (Ok.grdB (Nat.le_of_lt (sizeB (by rw [List.length_append, List.length_take, List.length_singleton, List.length_drop]; omega))) (Ok.rt ⟨by rw [glen], ?_⟩)))
    have setN : ∀ p : Int, 0 ≤ p → p < n → N (List.set w x.toNat (List.take (Int.toNat ((j : Nat) : Int)) (N w x) ++ [((rows.length : Nat) : Int)] ++ List.drop (Int.toNat ((j : Nat) : Int)) (N w x)) ++ [part]) p = if p = x then List.take j (N w x) ++ [(n : Int)] ++ List.drop j (N w x) else N w p := fun p p0 p1 => by
      rw [N_snoc, List.length_set, if_neg (by omega), N_set (by omega), Int.toNat_natCast, glen]
      by_cases e : p = x
      · rw [if_pos e, if_pos (by rw [e])]
      · rw [if_neg e, if_neg (by omega)]
    refine ⟨by rw [List.length_append, List.length_set, wl]; rfl, ?_, ?_, ?_, ?_⟩
    · rw [N_snoc, List.length_set, if_pos (by omega)]
    · intro p p0 p1 hp
      rw [setN p p0 p1, if_neg (fun e : p = x => hp (by rw [e]; exact List.mem_of_getElem? ex))]
      exact h1 p p0 p1 fun m => hp (List.mem_of_mem_take m)
    · intro i u v eu ev
      have hu := prg u (List.mem_of_getElem? eu)
      have ne : u ≠ x := fun z => by
        have := get_inj pnd eu (z ▸ ex)
        have := (List.getElem?_eq_some_iff.mp ev).1
        omega
      rw [setN u hu.1 hu.2, if_neg ne]
      exact h2 i u v eu ev
    · intro u v eu ev
      have e1 : u = x := by rw [ex] at eu; injection eu with e; exact e.symm
      have e2 : v = y := by rw [ey] at ev; injection ev with e; exact e.symm
      subst e1
      subst e2
      rw [setN u hx.1 hx.2, if_pos rfl, ew]
      refine ⟨(N rows u).take j, (N rows u).drop (j + 1), j4, ?_⟩
      have e3 : (N rows u).drop j = v :: (N rows u).drop (j + 1) := by
        have := List.drop_eq_getElem_cons (l := N rows u) (i := j) j2
        rw [this]
        congr 1
        obtain ⟨_, h⟩ := List.getElem?_eq_some_iff.mp j3
        exact h
      rw [e3, List.append_assoc]
      rfl

--#split
/-! ### the round -/
structure Rnd (n : Nat) (rows : List (List Int)) (row : List Int) : Prop where
  nd : row.Nodup
  rg : ∀ x ∈ row, 0 ≤ x ∧ x < (n : Int)
  two : 2 ≤ row.length
  nx : ∀ x y z : Int, Nx row z x → Nx row x y → Nx (N rows x) y z
theorem nx_get {row : List Int} {i : Nat} {x y : Int} (h : row[i]? = some x) (k : row[i + 1]? = some y) : Nx row x y := nx_of_lin (lin_get h k)
theorem nx_pre {l : List Int} {a : Int} (h : a ∈ l) : ∃ b, Nx l b a := by
  obtain ⟨b, hb⟩ := nx_ex (l := l.reverse) (a := a) (List.mem_reverse.mpr h)
  exact ⟨b, nx_rev.mp hb⟩
/-- neighbours on the round are neighbours -/
theorem Rnd.adj {n : Nat} {rows : List (List Int)} {row : List Int} (R : Rnd n rows row) {x y : Int} (h : Nx row x y) : y ∈ N rows x ∧ x ∈ N rows y := by
  obtain ⟨h1, h2⟩ := nx_mem h
  obtain ⟨z, hz⟩ := nx_pre h1
  obtain ⟨w, hw⟩ := nx_ex h2
  exact ⟨(nx_mem (R.nx _ _ _ hz h)).1, (nx_mem (R.nx _ _ _ h hw)).2⟩
theorem nx_insB {u v : List Int} {y new a b : Int} (nd : (u ++ y :: v).Nodup) (hn : new ∉ u ++ y :: v) : Nx (u ++ new :: y :: v) a b ↔ (a = new ∧ b = y) ∨ (b = new ∧ Nx (u ++ y :: v) a y) ∨ (b ≠ y ∧ Nx (u ++ y :: v) a b) := by
  have e1 : (u ++ new :: y :: v).reverse = v.reverse ++ y :: new :: u.reverse := by simp
  have e2 : (u ++ y :: v).reverse = v.reverse ++ y :: u.reverse := by simp
  have nd2 : (v.reverse ++ y :: u.reverse).Nodup := by rw [← e2]; exact (List.reverse_perm _).nodup_iff.mpr nd
  have hn2 : new ∉ v.reverse ++ y :: u.reverse := by rw [← e2]; exact fun z => hn (List.mem_reverse.mp z)
  have := nx_ins (a := b) (b := a) nd2 hn2
  rw [← e1, ← e2, nx_rev, nx_rev, nx_rev] at this
  rw [this]
  constructor
  · rintro (⟨h1, h2⟩ | h | h)
    · exact .inl ⟨h2, h1⟩
    · exact .inr (.inl h)
    · exact .inr (.inr h)
  · rintro (⟨h1, h2⟩ | h | h)
    · exact .inl ⟨h2, h1⟩
    · exact .inr (.inl h)
    · exact .inr (.inr h)
section
variable {n : Nat} {rows rows' : List (List Int)} {part : List Int}
theorem Put.row (P : Put n rows part rows') (hp : 2 ≤ part.length) {x : Int} (hx : x ∈ part) : ∃ a y b, N rows x = a ++ y :: b ∧ (N rows' x = a ++ y :: (n : Int) :: b ∨ N rows' x = a ++ (n : Int) :: y :: b) := by
  obtain ⟨i, hi⟩ := List.mem_iff_getElem?.mp hx
  have il := (List.getElem?_eq_some_iff.mp hi).1
  by_cases h : i + 1 < part.length
  · obtain ⟨a, b, h1, h2⟩ := P.mid i x _ hi (List.getElem?_eq_getElem h)
    exact ⟨a, _, b, h1, .inl h2⟩
  · have : i = part.length - 1 := by omega
    subst this
    obtain ⟨a, b, h1, h2⟩ := P.lst x _ hi (List.getElem?_eq_getElem (show part.length - 2 < part.length by omega))
    exact ⟨a, _, b, h1, .inr h2⟩
theorem Put.mem (P : Put n rows part rows') (hp : 2 ≤ part.length) {x : Int} (hx : x ∈ part) {q : Int} : q ∈ N rows' x ↔ q = n ∨ q ∈ N rows x := by
  obtain ⟨a, y, b, h1, h2 | h2⟩ := P.row hp hx <;> rw [h1, h2] <;> simp only [List.mem_append, List.mem_cons] <;> grind
theorem Put.gr (P : Put n rows part rows') (hp : 2 ≤ part.length) (g : Gr n rows) (nd : part.Nodup) (rg : ∀ x ∈ part, 0 ≤ x ∧ x < (n : Int)) : Gr (n + 1) rows' := by
  have cs : ∀ p : Int, 0 ≤ p → p < ((n + 1 : Nat) : Int) → (p = n ∧ N rows' p = part) ∨ (p < n ∧ p ∈ part) ∨ (p < n ∧ p ∉ part ∧ N rows' p = N rows p) := fun p p0 p1 => by
    by_cases e : p = n
    · exact .inl ⟨e, e ▸ P.new⟩
    · by_cases m : p ∈ part
      · exact .inr (.inl ⟨by omega, m⟩)
      · exact .inr (.inr ⟨by omega, m, P.out p p0 (by omega) m⟩)
  refine ⟨⟨P.len, fun p p0 p1 q hq => ?_, fun p p0 p1 => ?_⟩, fun p p0 p1 q hq => ?_⟩
  · rcases cs p p0 p1 with ⟨e, h⟩ | ⟨h, m⟩ | ⟨h, m, e⟩
    · rw [h] at hq
      have := rg q hq
      omega
    · rcases (P.mem hp m).mp hq with e | hq
      · omega
      · have := g.rg p p0 h q hq
        omega
    · rw [e] at hq
      have := g.rg p p0 h q hq
      omega
  · rcases cs p p0 p1 with ⟨e, h⟩ | ⟨h, m⟩ | ⟨h, m, e⟩
    · rw [h]; exact nd
    · have nr := g.nd p p0 h
      have no : (n : Int) ∉ N rows p := fun z => by have := g.rg p p0 h _ z; omega
      obtain ⟨a, y, b, h1, h2 | h2⟩ := P.row hp m
      · rw [h1] at nr no
        rw [h2]
        have pm : (a ++ y :: (n : Int) :: b).Perm ((n : Int) :: (a ++ y :: b)) := by
          have := List.perm_middle (a := (n : Int)) (l₁ := a ++ [y]) (l₂ := b)
          simpa using this
        exact pm.nodup_iff.mpr (List.nodup_cons.mpr ⟨no, nr⟩)
      · rw [h1] at nr no
        rw [h2]
        exact List.perm_middle.nodup_iff.mpr (List.nodup_cons.mpr ⟨no, nr⟩)
    · rw [e]; exact g.nd p p0 h
  · rcases cs p p0 p1 with ⟨e, h⟩ | ⟨h, m⟩ | ⟨h, m, e⟩
    · rw [h] at hq
      have := rg q hq
      exact (P.mem hp hq).mpr (.inl e)
    · rcases (P.mem hp m).mp hq with e | hq
      · rw [e, P.new]; exact m
      · have hq' := g.rg p p0 h q hq
        have back := g.sy p p0 h q hq
        by_cases mq : q ∈ part
        · exact (P.mem hp mq).mpr (.inr back)
        · rw [P.out q hq'.1 hq'.2.1 mq]; exact back
    · rw [e] at hq
      have hq' := g.rg p p0 h q hq
      have back := g.sy p p0 h q hq
      by_cases mq : q ∈ part
      · exact (P.mem hp mq).mpr (.inr back)
      · rw [P.out q hq'.1 hq'.2.1 mq]; exact back
/-- the round behind it -/
theorem Put.rnd {u t : List Int} (P : Put n rows part rows') (g : Gr n rows) (hp : 2 ≤ part.length) (R : Rnd n rows (u ++ part ++ t)) {s0 sk : Int} (h0 : part[0]? = some s0) (hk : part[part.length - 1]? = some sk) : Rnd (n + 1) rows' (u ++ [s0] ++ [(n : Int)] ++ sk :: t) := by
  obtain ⟨m, em⟩ : ∃ m, part = s0 :: (m ++ [sk]) := by
    cases part with
    | nil => simp at hp
    | cons a l =>
      injection h0 with h0
      subst h0
      have : l ≠ [] := fun z => by rw [z] at hp; simp at hp
      refine ⟨l.dropLast, ?_⟩
      have e := List.dropLast_concat_getLast this
      have e2 : l.getLast this = sk := by
        rw [List.length_cons, Nat.add_sub_cancel] at hk
        rw [List.getLast_eq_getElem]
        have : (a :: l)[l.length]? = l[l.length - 1]? := by
          obtain ⟨k, hk⟩ : ∃ k, l.length = k + 1 := ⟨l.length - 1, by have := List.length_pos_iff.mpr this; omega⟩
          rw [hk]
          rfl
        rw [this] at hk
        obtain ⟨_, h⟩ := List.getElem?_eq_some_iff.mp hk
        exact h
      rw [e2] at e
      rw [e]
  -- both rounds, turned
  have old : ∀ a b, Nx (u ++ part ++ t) a b ↔ Lin (s0 :: m ++ [sk]) a b ∨ Lin (sk :: (t ++ u) ++ [s0]) a b := fun a b => by
    rw [List.append_assoc, nx_rot, em]
    rw [show (s0 :: (m ++ [sk]) ++ t ++ u) = s0 :: (m ++ sk :: (t ++ u)) by simp]
    rw [Nx]
    rw [show s0 :: (m ++ sk :: (t ++ u)) ++ [s0] = (s0 :: m) ++ sk :: (t ++ u ++ [s0]) by simp]
    rw [lin_append]
    rfl
  have new : ∀ a b, Nx (u ++ [s0] ++ [(n : Int)] ++ sk :: t) a b ↔ (a = s0 ∧ b = n) ∨ (a = n ∧ b = sk) ∨ Lin (sk :: (t ++ u) ++ [s0]) a b := fun a b => by
    rw [show u ++ [s0] ++ [(n : Int)] ++ sk :: t = u ++ (s0 :: (n : Int) :: sk :: t) by simp, nx_rot]
    rw [show (s0 :: (n : Int) :: sk :: t) ++ u = s0 :: (n : Int) :: sk :: (t ++ u) by simp, Nx]
    rw [show s0 :: (n : Int) :: sk :: (t ++ u) ++ [s0] = s0 :: ((n : Int) :: (sk :: (t ++ u ++ [s0]))) by simp, lin_cons, lin_cons]
    simp only [List.head?_cons, Option.some.injEq]
    rw [show sk :: (t ++ u) ++ [s0] = sk :: (t ++ u ++ [s0]) by simp]
    constructor
    · rintro (⟨h, k⟩ | ⟨h, k⟩ | h)
      · exact .inl ⟨h, k.symm⟩
      · exact .inr (.inl ⟨h, k.symm⟩)
      · exact .inr (.inr h)
    · rintro (⟨h, k⟩ | ⟨h, k⟩ | h)
      · exact .inl ⟨h, k.symm⟩
      · exact .inr (.inl ⟨h, k.symm⟩)
      · exact .inr (.inr h)
  have ndo := R.nd
  have ndr : (s0 :: (m ++ sk :: (t ++ u))).Nodup := by
    have : (u ++ (part ++ t)).Nodup := by rw [← List.append_assoc]; exact ndo
    have := nodup_rot this
    rw [em] at this
    simpa using this
  have no : ∀ x, x ∈ u ++ part ++ t → x ≠ n := fun x hx e => by have := R.rg x hx; omega
  have inr : ∀ x, x ∈ s0 :: (m ++ sk :: (t ++ u)) ↔ x ∈ u ++ part ++ t := fun x => by
    rw [em]
    simp only [List.mem_append, List.mem_cons, List.not_mem_nil, or_false]
    grind
  obtain ⟨d1, d2⟩ := List.nodup_cons.mp ndr
  obtain ⟨d3, d4, d5⟩ := List.nodup_append.mp d2
  obtain ⟨d6, d7⟩ := List.nodup_cons.mp d4
  have s0k : s0 ≠ sk := fun e => d1 (by rw [e]; simp)
  have la : ∀ {a b}, Lin (sk :: (t ++ u) ++ [s0]) a b → (a = sk ∨ a ∈ t ++ u) ∧ (b ∈ t ++ u ∨ b = s0) := fun {a b} h => by
    constructor
    · have := lin_left h
      rcases List.mem_cons.mp this with e | e
      · exact .inl e
      · exact .inr e
    · rw [show sk :: (t ++ u) ++ [s0] = sk :: (t ++ u ++ [s0]) by simp, lin_cons] at h
      rcases h with ⟨_, h⟩ | h
      · have := List.mem_of_mem_head? h
        simpa [List.mem_append, or_assoc] using this
      · have := (lin_mem h).2
        simpa [List.mem_append, or_assoc] using this
  have n0 : (n : Int) ≠ s0 := fun e => no s0 ((inr _).mp List.mem_cons_self) e.symm
  have nk : (n : Int) ≠ sk := fun e => no sk ((inr _).mp (by simp)) e.symm
  have nr : (n : Int) ∉ t ++ u := fun m => no n ((inr _).mp (by simp at m ⊢; grind)) rfl
  have r0 : s0 ∉ t ++ u := fun z => d1 (by simp at z ⊢; grind)
  have rk : sk ∉ t ++ u := d6
  have s0p : s0 ∈ part := by rw [em]; exact List.mem_cons_self
  have skp : sk ∈ part := by rw [em]; simp
  have prg : ∀ x ∈ part, 0 ≤ x ∧ x < (n : Int) := fun x hx => R.rg x (by simp [hx])
  have nn : ∀ x, 0 ≤ x → x < (n : Int) → (n : Int) ∉ N rows x := fun x x0 x1 z => by have := g.rg x x0 x1 _ z; omega
  refine ⟨?_, fun x hx => ?_, by simp; omega, fun x y z hz hy => ?_⟩
  · have : (s0 :: (n : Int) :: sk :: (t ++ u)).Nodup := by
      refine List.nodup_cons.mpr ⟨?_, List.nodup_cons.mpr ⟨?_, d4⟩⟩
      · simp only [List.mem_cons, not_or]
        exact ⟨fun e => n0 e.symm, s0k, r0⟩
      · simp only [List.mem_cons, not_or]
        exact ⟨nk, nr⟩
    have h2 := nodup_rot (u := s0 :: (n : Int) :: sk :: t) (v := u) (by simpa using this)
    simpa using h2
  · have : x = n ∨ x ∈ u ++ part ++ t := by
      simp only [List.mem_append, List.mem_cons, List.not_mem_nil, or_false] at hx ⊢
      rw [em]
      simp only [List.mem_append, List.mem_cons, List.not_mem_nil, or_false]
      grind
    rcases this with e | m
    · omega
    · have := R.rg x m
      omega
  · rw [new] at hz hy
    rcases hy with ⟨e1, e2⟩ | ⟨e1, e2⟩ | hy
    · -- x = s0, y = n
      subst e1
      subst e2
      have hz : Lin (sk :: (t ++ u) ++ [x]) z x := by
        rcases hz with ⟨_, e⟩ | ⟨_, e⟩ | h
        · exact absurd e.symm n0
        · exact absurd e s0k
        · exact h
      have p2 : ∃ s1, part[1]? = some s1 := ⟨_, List.getElem?_eq_getElem (by omega)⟩
      obtain ⟨s1, h1⟩ := p2
      have o1 : Nx (u ++ part ++ t) x s1 := (old _ _).mpr (.inl (by have := lin_get h0 h1; rw [em] at this; simpa using this))
      have o2 : Nx (u ++ part ++ t) z x := (old _ _).mpr (.inr hz)
      have o3 := R.nx _ _ _ o2 o1
      have xr := prg x s0p
      obtain ⟨a, b, q1, q2⟩ := P.mid 0 x s1 h0 h1
      have nd := g.nd x xr.1 xr.2
      have ni := nn x xr.1 xr.2
      rw [q1] at nd ni o3
      rw [q2, nx_ins nd ni]
      exact .inr (.inl ⟨rfl, o3⟩)
    · -- x = n
      subst e1
      subst e2
      have ez : z = s0 := by
        rcases hz with ⟨e, _⟩ | ⟨_, e⟩ | h
        · exact e
        · exact absurd e nk
        · rcases (la h).2 with m | e
          · exact absurd m nr
          · exact absurd e n0
      rw [ez, P.new, em, Nx]
      rw [show s0 :: (m ++ [y]) ++ [s0] = (s0 :: m) ++ y :: [s0] by simp, lin_append]
      exact .inr (by rw [lin_cons]; exact .inl ⟨rfl, rfl⟩)
    · rcases (la hy).1 with ex | mx
      · subst ex
        -- x = sk, z = n
        have ez : z = n := by
          rcases hz with ⟨_, e⟩ | ⟨e, _⟩ | h
          · exact absurd e.symm nk
          · exact e
          · rcases (la h).2 with m | e
            · exact absurd m rk
            · exact absurd e.symm s0k
        have p2 : ∃ s1, part[part.length - 2]? = some s1 := ⟨_, List.getElem?_eq_getElem (by omega)⟩
        obtain ⟨s1, h1⟩ := p2
        have o1 : Nx (u ++ part ++ t) s1 x := (old _ _).mpr (.inl (by
          have := lin_get h1 (show part[part.length - 2 + 1]? = some x by rw [show part.length - 2 + 1 = part.length - 1 by omega]; exact hk)
          rw [em] at this
          simpa using this))
        have o2 : Nx (u ++ part ++ t) x y := (old _ _).mpr (.inr hy)
        have o3 := R.nx _ _ _ o1 o2
        have xr := prg x skp
        obtain ⟨a, b, q1, q2⟩ := P.lst x s1 hk h1
        have nd := g.nd x xr.1 xr.2
        have ni := nn x xr.1 xr.2
        rw [q1] at nd ni o3
        rw [ez, q2, nx_insB nd ni]
        exact .inr (.inl ⟨rfl, o3⟩)
      · have hz : Lin (sk :: (t ++ u) ++ [s0]) z x := by
          rcases hz with ⟨_, e⟩ | ⟨_, e⟩ | h
          · exact absurd (e ▸ mx) nr
          · exact absurd (e ▸ mx) rk
          · exact h
        have o3 := R.nx _ _ _ ((old _ _).mpr (.inr hz)) ((old _ _).mpr (.inr hy))
        have xin : x ∈ u ++ part ++ t := (inr _).mp (by simp at mx ⊢; grind)
        have xr := R.rg x xin
        have xp : x ∉ part := fun z => by
          rw [em] at z
          rcases List.mem_cons.mp z with e | z
          · exact r0 (e ▸ mx)
          · rcases List.mem_append.mp z with z | z
            · exact d5 _ z _ (List.mem_cons_of_mem _ mx) rfl
            · exact rk (List.mem_singleton.mp z ▸ mx)
        rw [P.out x xr.1 xr.2 xp]
        exact o3
end

--#split
/-! ### webs put together place by place -/
inductive Grw : Nat → List (List Int) → List (List Int) → List (List Int) → Prop
  | base : Grw 2 [[1], [0]] [[0, 1]] []
  | step {n : Nat} {rows told parts : List (List Int)} {u part t : List Int} {rows' : List (List Int)} {s0 sk : Int} : Grw n rows (told ++ [u ++ part ++ t]) parts → 2 ≤ part.length → part[0]? = some s0 → part[part.length - 1]? = some sk → Put n rows part rows' →
      Grw (n + 1) rows' (told ++ [u ++ part ++ t] ++ [u ++ [s0] ++ [(n : Int)] ++ sk :: t]) (parts ++ [part])
theorem put_con {n : Nat} {rows rows' : List (List Int)} {part : List Int} (P : Put n rows part rows') (hp : 2 ≤ part.length) (g : Gr n rows) (prg : ∀ x ∈ part, 0 ≤ x ∧ x < (n : Int)) (c : Con n rows) (hn : 0 < n) : Con (n + 1) rows' := by
  have keep : ∀ a : Int, 0 ≤ a → a < n → ∀ b ∈ N rows a, Rea rows' [] a b := fun a a0 a1 b hb => by
    refine .one ?_
    by_cases m : a ∈ part
    · exact (P.mem hp m).mpr (.inr hb)
    · rw [P.out a a0 a1 m]; exact hb
  intro p p0 p1
  by_cases e : p = n
  · obtain ⟨s, hs⟩ : ∃ s, s ∈ part := ⟨part[0], List.getElem_mem (by omega)⟩
    have sr := prg s hs
    have r := Rea.into g keep (c s sr.1 sr.2) (Int.le_refl _) (by omega)
    rw [e]
    exact r.trans (.one ((P.mem hp hs).mpr (.inl rfl)))
  · exact Rea.into g keep (c p p0 (by omega)) (Int.le_refl _) (by omega)
/-- what stands behind each step -/
structure GrwI (n : Nat) (rows : List (List Int)) (row : List Int) : Prop where
  g : Gr n rows
  r : Rnd n rows row
  c : Con n rows
  h : row.head? = some 0
  l : row.getLast? = some 1
  n2 : 2 ≤ n
theorem base_grwI : GrwI 2 [[1], [0]] [0, 1] := by
  have c : ∀ p : Int, 0 ≤ p → p < (2 : Nat) → p = 0 ∨ p = 1 := fun p h0 h1 => by omega
  have n0 : N [[1], [0]] 0 = [1] := rfl
  have n1 : N [[1], [0]] 1 = [0] := rfl
  refine ⟨⟨⟨rfl, fun p h0 h1 q hq => ?_, fun p h0 h1 => ?_⟩, fun p h0 h1 q hq => ?_⟩, ⟨by decide, fun x hx => ?_, by decide, fun x y z hz hy => ?_⟩, fun p h0 h1 => ?_, rfl, rfl, by decide⟩
  · rcases c p h0 h1 with rfl | rfl
    · rw [n0, List.mem_singleton] at hq; omega
    · rw [n1, List.mem_singleton] at hq; omega
  · rcases c p h0 h1 with rfl | rfl
    · rw [n0]; decide
    · rw [n1]; decide
  · rcases c p h0 h1 with rfl | rfl
    · rw [n0, List.mem_singleton] at hq; rw [hq, n1]; decide
    · rw [n1, List.mem_singleton] at hq; rw [hq, n0]; decide
  · simp only [List.mem_cons, List.not_mem_nil, or_false] at hx
    omega
  · have q : ∀ a b : Int, Nx [0, 1] a b → (a = 0 ∧ b = 1) ∨ (a = 1 ∧ b = 0) := fun a b h => by
      rw [Nx] at h
      simp only [List.cons_append, List.nil_append, lin_cons, List.head?_cons, Option.some.injEq, List.head?_nil] at h
      rcases h with ⟨h1, h2⟩ | ⟨h1, h2⟩ | h
      · exact .inl ⟨h1, h2.symm⟩
      · exact .inr ⟨h1, h2.symm⟩
      · simp [Lin] at h
    rcases q _ _ hz with ⟨e1, e2⟩ | ⟨e1, e2⟩ <;> rcases q _ _ hy with ⟨e3, e4⟩ | ⟨e3, e4⟩
    · omega
    · subst e1 e2 e4
      rw [n1, Nx]
      simp [lin_cons]
    · subst e1 e2 e4
      rw [n0, Nx]
      simp [lin_cons]
    · omega
  · rcases c p h0 h1 with rfl | rfl
    · exact .refl
    · exact .one (by rw [n0]; decide)
theorem GrwI.step {n : Nat} {rows : List (List Int)} {u part t : List Int} {rows' : List (List Int)} {s0 sk : Int} (I : GrwI n rows (u ++ part ++ t)) (hp : 2 ≤ part.length) (h0 : part[0]? = some s0) (hk : part[part.length - 1]? = some sk) (P : Put n rows part rows') : GrwI (n + 1) rows' (u ++ [s0] ++ [(n : Int)] ++ sk :: t) := by
  have prg : ∀ x ∈ part, 0 ≤ x ∧ x < (n : Int) := fun x hx => I.r.rg x (by simp [hx])
  have pnd : part.Nodup := List.Sublist.nodup ((List.sublist_append_right u part).trans (List.sublist_append_left _ t)) I.r.nd
  have n2 := I.n2
  refine ⟨P.gr hp I.g pnd prg, P.rnd I.g hp I.r h0 hk, put_con P hp I.g prg I.c (by omega), ?_, ?_, by omega⟩
  · have := I.h
    cases u with
    | nil =>
      cases part with
      | nil => simp at hp
      | cons a p =>
        injection h0 with h0
        subst h0
        simpa using this
    | cons a u => simpa using this
  · have := I.l
    cases t with
    | nil =>
      have e : part.getLast? = some sk := by rw [List.getLast?_eq_getElem?]; exact hk
      rw [List.append_nil, List.getLast?_append, e] at this
      rw [List.getLast?_append]
      simpa using this
    | cons a t =>
      rw [List.getLast?_append] at this ⊢
      have e : (sk :: a :: t).getLast? = (a :: t).getLast? := by rw [List.getLast?_cons_cons]
      rw [e]
      obtain ⟨z, hz⟩ : ∃ z, (a :: t).getLast? = some z := ⟨_, List.getLast?_eq_some_getLast (by simp)⟩
      rw [hz] at this ⊢
      exact this
theorem Grw.all {n : Nat} {rows told parts : List (List Int)} (h : Grw n rows told parts) : ∃ told0 row, told = told0 ++ [row] ∧ GrwI n rows row ∧ told.length + 1 = n ∧ parts.length + 2 = n := by
  induction h with
  | base => exact ⟨[], [0, 1], rfl, base_grwI, rfl, rfl⟩
  | @step n rows told parts u part t rows' s0 sk h hp h0 hk P ih =>
    obtain ⟨told0, row, e, I, l1, l2⟩ := ih
    have e := List.append_inj' e rfl
    have e2 : u ++ part ++ t = row := by
      have := e.2
      injection this
    subst e2
    refine ⟨_, _, rfl, I.step hp h0 hk P, ?_, ?_⟩
    · rw [List.length_append] at l1 ⊢
      simp at l1 ⊢
      omega
    · rw [List.length_append]
      simp
      omega
theorem rows_ok {l : List Int} (hp : Pot l) {n : Nat} (n0 : 3 ≤ n) (n1 : n < 800) : Ok (m_law_rows (l, (n : Int))) fun r => Pot r.2 ∧ Grw n r.1.1 r.1.2.1 r.1.2.2 ∧ ∃ told, r.1.2.1 = told ++ [[0, (n : Int) - 1, 1]] := by
  unfold m_law_rows mb_law_rows
  simp only [DL.bind_assoc, bind_okN, lt_eqN]
  refine Ok.f0 (Ok.bF (Pn := fun s => Pot s.1 ∧ Grw n s.2.1 s.2.2.1 s.2.2.2 ∧ ∃ told, s.2.2.1 = told ++ [[0, (n : Int) - 1, 1]]) (Ok.grdB (rng62 (by omega) (by omega)) (Ok.forR (fun i s => Pot s.1 ∧ Grw (2 + i) s.2.1 s.2.2.1 s.2.2.2 ∧ (2 + i = n → ∃ told, s.2.2.1 = told ++ [[0, (n : Int) - 1, 1]])) ⟨hp, .base, fun z => by omega⟩ ?_ ?_)) ?_)
  · rintro i x ⟨l, rows, told, parts⟩ ex ⟨k1, k2, _⟩
    have k1 : Pot l := k1
    have k2 : Grw (2 + i) rows told parts := k2
    obtain ⟨ex, xl⟩ := rng_get ex
    obtain ⟨told0, row, et, I, l1, l2⟩ := k2.all
    subst et
    have glen := I.g.len
    have two := I.r.two
    have rl : row.length ≤ 2 + i := nodup_small I.r.nd I.r.rg
    have ea : atI (told0 ++ [row]) (-(1 : Int)) = some row := by
      unfold atI ixN
      rw [List.length_append, if_neg (by omega), if_pos (by simp; omega)]
      show (told0 ++ [row])[_]? = _
      rw [List.getElem?_append_right (by simp; omega), show (-1 + ((told0.length + [row].length : Nat) : Int)).toNat - told0.length = 0 by rw [List.length_singleton]; omega]
      rfl
    refine Ok.somB ea ((digit k1 (show (0 : Int) < (row.length : Nat) - 1 by omega) (small8000 (by omega))).bind ?_)
    rintro ⟨f, lA⟩ ⟨f0, f1, hA⟩
    have f0 : 0 ≤ f := f0
    have f1 : f < (row.length : Nat) - 1 := f1
    refine (digit hA (show (0 : Int) < ((row.length : Nat) - 1) - f by omega) (small8000 (by omega))).bind ?_
    rintro ⟨d, lB⟩ ⟨d0, d1, hB⟩
    have d0 : 0 ≤ d := d0
    have d1 : d < ((row.length : Nat) - 1) - f := d1
    show Ok (bindF _ _) _
    refine Ok.bF (Pn := fun p : Int × Int => ∃ a b : Nat, p = ((a : Int), (b : Int)) ∧ a < b ∧ b < row.length ∧ (2 + i + 1 = n → a = 0 ∧ b = row.length - 1)) (Ok.ite (fun e => Ok.nx ⟨0, row.length - 1, ?_, by omega, by omega, fun _ => ⟨rfl, rfl⟩⟩) fun e => Ok.nx ⟨f.toNat, (f + 1 + d).toNat, ?_, by omega, by omega, fun z => ?_⟩) ?_
    · exact Prod.ext rfl (show ((row.length : Nat) : Int) - 1 = ((row.length - 1 : Nat) : Int) by omega)
    · exact Prod.ext (show f = _ by omega) (show f + 1 + d = _ by omega)
    · have e := of_decide_eq_false e
      omega
    rintro _ ⟨a, b, rfl, ab, bl, lastOne⟩
    refine Ok.grdB (sizeB (show parts.length ≤ 100000 by omega)) ?_
    have few : ∀ p : Int, 0 ≤ p → p < ((2 + i : Nat) : Int) → (N rows p).length < 1000 := fun p p0 p1 => by have := I.g.toRw0.small p0 p1; omega
    refine (put_ok glen few ab bl (by omega) I.r.nd I.r.rg (fun j x y hx hy => I.r.adj (nx_get hx hy)) (by omega)).bind ?_
    rintro ⟨row2, rows2⟩ ⟨e2, P⟩
    have e2 : row2 = row.take (a + 1) ++ [((2 + i : Nat) : Int)] ++ row.drop b := e2
    refine Ok.grdB (sizeB (show (told0 ++ [row]).length ≤ 100000 by omega)) (Ok.nx ?_)
    have hc : cut row (some (a : Int)) (some ((b : Int) + (1 : Int))) = (row.drop a).take (b + 1 - a) := by
      rw [show (b : Int) + 1 = ((b + 1 : Nat) : Int) by omega, cut_mid]
    have split : row = row.take a ++ (row.drop a).take (b + 1 - a) ++ row.drop (b + 1) := by
      rw [List.append_assoc]
      have := List.take_append_drop (b + 1 - a) (row.drop a)
      rw [List.drop_drop, show a + (b + 1 - a) = b + 1 by omega] at this
      rw [this, List.take_append_drop]
    have pl : ((row.drop a).take (b + 1 - a)).length = b + 1 - a := by
      rw [List.length_take, List.length_drop]
      omega
    have h0 : ((row.drop a).take (b + 1 - a))[0]? = some row[a] := by
      rw [List.getElem?_take, if_pos (by omega), List.getElem?_drop]
      exact List.getElem?_eq_getElem (by omega)
    have hk : ((row.drop a).take (b + 1 - a))[((row.drop a).take (b + 1 - a)).length - 1]? = some row[b] := by
      rw [pl, List.getElem?_take, if_pos (by omega), List.getElem?_drop, show a + (b + 1 - a - 1) = b by omega]
      exact List.getElem?_eq_getElem bl
    have st : Grw (2 + i) rows (told0 ++ [row.take a ++ (row.drop a).take (b + 1 - a) ++ row.drop (b + 1)]) parts := by rw [← split]; exact k2
    have nw := Grw.step st (by omega) h0 hk P
    rw [← split] at nw
    have er : row.take a ++ [row[a]] ++ [((2 + i : Nat) : Int)] ++ row[b] :: row.drop (b + 1) = row2 := by
      rw [e2]
      have t1 : row.take (a + 1) = row.take a ++ [row[a]] := by
        rw [List.take_succ, List.getElem?_eq_getElem (by omega)]
        rfl
      have t2 : row.drop b = row[b] :: row.drop (b + 1) := List.drop_eq_getElem_cons bl
      rw [t1, t2]
    rw [er] at nw
    refine ⟨hB, ?_, fun z => ?_⟩
    · show Grw (2 + i + 1) rows2 (told0 ++ [row] ++ [row2]) (parts ++ [cut row (some (a : Int)) (some ((b : Int) + (1 : Int)))])
      rw [hc]
      exact nw
    · obtain ⟨z1, z2⟩ := lastOne (by omega)
      subst z1
      subst z2
      refine ⟨told0 ++ [row], ?_⟩
      show told0 ++ [row] ++ [row2] = _
      have hh := I.h
      have ll := I.l
      rw [← er]
      have g0 : row[0] = 0 := by
        rw [List.head?_eq_getElem?, List.getElem?_eq_getElem (by omega)] at hh
        injection hh
      have g1 : row[row.length - 1] = 1 := by
        rw [List.getLast?_eq_getElem?, List.getElem?_eq_getElem (by omega)] at ll
        injection ll
      rw [g0, g1, List.take_zero, List.drop_of_length_le (by omega)]
      have : ((2 + i : Nat) : Int) = (n : Int) - 1 := by omega
      rw [this]
      rfl
  · rintro s ⟨k1, k2, k3⟩
    rw [rng_len, show 2 + (((n : Int) - 2) - 0).toNat = n by omega] at k2 k3
    exact ⟨k1, k2, k3 rfl⟩
  · rintro ⟨l, rows, told, parts⟩ ⟨k1, k2, k3⟩
    exact Ok.rt ⟨k1, k2, k3⟩

--#split
theorem Con.ne {n : Nat} {rows : List (List Int)} (g : Gr n rows) (hn : 2 ≤ n) (c : Con n rows) : Ne0 n rows := fun p p0 p1 e => by
  by_cases h : p = 0
  · subst h
    have r := Rea.symm g (c 1 (by omega) (by omega)) (Int.le_refl _) (by omega)
    cases r with
    | step r1 h3 _ _ =>
      have q := Rea.rg g r1 (by omega) (by omega)
      have := g.sy _ q.1 q.2 _ h3
      rw [e] at this
      simp at this
  · cases c p p0 p1 with
    | refl => exact h rfl
    | step r1 h3 _ _ =>
      have q := Rea.rg g r1 (Int.le_refl _) (by omega)
      have := g.sy _ q.1 q.2 _ h3
      rw [e] at this
      simp at this

theorem comp_eq {α γ : Type} {m : α → R γ} {f : α → γ} {xs : List α} (h : ∀ x ∈ xs, m x = .ok (f x)) : compR (compF (fun (x : α) (s : Unit) => R.ok ()) (fun (_ : Unit) => true) (fun (x : α) (s : Unit) => (m x).bind fun (y : γ) => R.ok (y, ())) Prod.fst Prod.snd) xs [] () = .ok (xs.map f, ()) := by
  have go : ∀ (xs : List α) (acc : List γ), (∀ x ∈ xs, m x = .ok (f x)) → compR (compF (fun (x : α) (s : Unit) => R.ok ()) (fun (_ : Unit) => true) (fun (x : α) (s : Unit) => (m x).bind fun (y : γ) => R.ok (y, ())) Prod.fst Prod.snd) xs acc () = .ok (acc ++ xs.map f, ()) := by
    intro xs
    induction xs with
    | nil => intro acc _; rw [compR, List.map_nil, List.append_nil]
    | cons x xs ih =>
      intro acc h
      have e := h x List.mem_cons_self
      rw [compR, compF]
      simp only [bind_ok, if_true, e]
      rw [ih _ fun y m => h y (List.mem_cons_of_mem _ m), List.map_cons, List.append_assoc]
      rfl
  have := go xs [] h
  rwa [List.nil_append] at this
theorem comp_map {α γ : Type} {f : α → γ} {xs : List α} : compR (compF (fun (x : α) (s : Unit) => R.ok ()) (fun (_ : Unit) => true) (fun (x : α) (s : Unit) => R.ok (f x, ())) Prod.fst Prod.snd) xs [] () = .ok (xs.map f, ()) := comp_eq (m := fun x => .ok (f x)) fun _ _ => rfl
theorem comp_eqS {α γ σ : Type} {m : α → R γ} {f : α → γ} {xs : List α} {s : σ} (h : ∀ x ∈ xs, m x = .ok (f x)) : compR (compF (fun (x : α) (s : σ) => R.ok ()) (fun (_ : Unit) => true) (fun (x : α) (s : σ) => (m x).bind fun (y : γ) => R.ok (y, s)) Prod.fst Prod.snd) xs [] s = .ok (xs.map f, s) := by
  have go : ∀ (xs : List α) (acc : List γ), (∀ x ∈ xs, m x = .ok (f x)) → compR (compF (fun (x : α) (s : σ) => R.ok ()) (fun (_ : Unit) => true) (fun (x : α) (s : σ) => (m x).bind fun (y : γ) => R.ok (y, s)) Prod.fst Prod.snd) xs acc s = .ok (acc ++ xs.map f, s) := by
    intro xs
    induction xs with
    | nil => intro acc _; rw [compR, List.map_nil, List.append_nil]
    | cons x xs ih =>
      intro acc h
      have e := h x List.mem_cons_self
      rw [compR, compF]
      simp only [bind_ok, if_true, e]
      rw [ih _ fun y m => h y (List.mem_cons_of_mem _ m), List.map_cons, List.append_assoc]
      rfl
  have := go xs [] h
  rwa [List.nil_append] at this

/-! ### webs, and webs renamed -/
structure Web (n : Nat) (w : List (List Int)) : Prop where
  gr : Gr n w
  con : Con n w
  lf : ∀ p : Int, 0 ≤ p → p < n → LF (N w p)
/-- each place bears another number -/
structure Ren (n : Nat) (rows : List (List Int)) (nm : List Int) (web : List (List Int)) : Prop where
  len : web.length = n
  lf : ∀ p : Int, 0 ≤ p → p < n → LF (N web (nmf nm p))
  nx : ∀ p : Int, 0 ≤ p → p < n → ∀ a b, Nx (N web (nmf nm p)) a b ↔ ∃ x y, Nx (N rows p) x y ∧ nmf nm x = a ∧ nmf nm y = b
theorem web_ext {n : Nat} {a b : List (List Int)} (ha : a.length = n) (hb : b.length = n) (h : ∀ p : Int, 0 ≤ p → p < n → N a p = N b p) : a = b := by
  refine List.ext_getElem? fun i => ?_
  by_cases hi : i < n
  · have h1 := N_get (rows := a) (p := (i : Int)) (by omega) (by omega)
    have h2 := N_get (rows := b) (p := (i : Int)) (by omega) (by omega)
    rw [Int.toNat_natCast] at h1 h2
    rw [h1, h2, h _ (by omega) (by omega)]
  · rw [List.getElem?_eq_none (by omega), List.getElem?_eq_none (by omega)]
section
variable {n : Nat} {rows web web' : List (List Int)} {nm : List Int}
theorem Ren.uniq (gm : Nms n nm) (h : Ren n rows nm web) (h' : Ren n rows nm web') : web = web' := web_ext h.len h'.len fun a a0 a1 => by
  obtain ⟨p, p0, p1, e⟩ := gm.sur a0 a1
  rw [← e]
  exact lf_eq (h.lf p p0 p1) (h'.lf p p0 p1) fun u v => (h.nx p p0 p1 u v).trans (h'.nx p p0 p1 u v).symm
theorem Ren.mem (h : Ren n rows nm web) {p : Int} (p0 : 0 ≤ p) (p1 : p < n) {b : Int} : b ∈ N web (nmf nm p) ↔ ∃ q ∈ N rows p, nmf nm q = b := by
  constructor
  · intro hb
    obtain ⟨c, hc⟩ := nx_ex hb
    obtain ⟨x, y, h1, h2, _⟩ := (h.nx p p0 p1 _ _).mp hc
    exact ⟨x, (nx_mem h1).1, h2⟩
  · rintro ⟨q, hq, rfl⟩
    obtain ⟨c, hc⟩ := nx_ex hq
    exact (nx_mem ((h.nx p p0 p1 _ _).mpr ⟨q, c, hc, rfl, rfl⟩)).1
theorem Ren.isWeb (g : Gr n rows) (c : Con n rows) (hn : 0 < n) (gm : Nms n nm) (h : Ren n rows nm web) : Web n web := by
  have gr : Gr n web := by
    refine ⟨⟨h.len, fun a a0 a1 b hb => ?_, fun a a0 a1 => ?_⟩, fun a a0 a1 b hb => ?_⟩
    · obtain ⟨p, p0, p1, rfl⟩ := gm.sur a0 a1
      obtain ⟨q, hq, rfl⟩ := (h.mem p0 p1).mp hb
      obtain ⟨q0, q1, qp⟩ := g.rg p p0 p1 q hq
      have := gm.rg q0 q1
      exact ⟨this.1, this.2, fun z => qp (gm.inj q0 q1 p0 p1 z)⟩
    · obtain ⟨p, p0, p1, rfl⟩ := gm.sur a0 a1
      exact (h.lf p p0 p1).1
    · obtain ⟨p, p0, p1, rfl⟩ := gm.sur a0 a1
      obtain ⟨q, hq, rfl⟩ := (h.mem p0 p1).mp hb
      obtain ⟨q0, q1, qp⟩ := g.rg p p0 p1 q hq
      exact (h.mem q0 q1).mpr ⟨p, g.sy p p0 p1 q hq, rfl⟩
  have to : ∀ p, Rea rows [] 0 p → 0 ≤ p ∧ p < n → Rea web [] (nmf nm 0) (nmf nm p) := fun p hp _ => by
    induction hp with
    | refl => exact .refl
    | step r1 h3 _ _ ih =>
      have q := Rea.rg g r1 (Int.le_refl _) (by omega)
      exact (ih q).trans (.one ((h.mem q.1 q.2).mpr ⟨_, h3, rfl⟩))
  refine ⟨gr, fun a a0 a1 => ?_, fun a a0 a1 => ?_⟩
  · obtain ⟨p, p0, p1, rfl⟩ := gm.sur a0 a1
    obtain ⟨z, z0, z1, ez⟩ := gm.sur (a := 0) (Int.le_refl _) (by omega)
    have r0 := gm.rg (x := 0) (Int.le_refl _) (by omega)
    have h1 := to p (c p p0 p1) ⟨p0, p1⟩
    have h2 := to z (c z z0 z1) ⟨z0, z1⟩
    rw [ez] at h2
    exact (Rea.symm gr h2 r0.1 r0.2).trans h1
  · obtain ⟨p, p0, p1, rfl⟩ := gm.sur a0 a1
    exact h.lf p p0 p1
/-- a row, renamed, turned till its least is first -/
theorem ren_row {r v : List Int} (nd : r.Nodup) (inj : ∀ x ∈ r, ∀ y ∈ r, nmf nm x = nmf nm y → x = y) {j : Nat} (h : ixOf (minL (r.map (nmf nm))) (r.map (nmf nm)) = some j) (e : v = (r.map (nmf nm)).drop j ++ (r.map (nmf nm)).take j) :
    LF v ∧ ∀ a b, Nx v a b ↔ ∃ x y, Nx r x y ∧ nmf nm x = a ∧ nmf nm y = b := by
  subst e
  exact ⟨lf_turn (nodup_map inj nd) h, fun a b => by rw [nx_drop, nx_map]⟩
end
/-- the web turned about -/
structure Mir (n : Nat) (w m : List (List Int)) : Prop where
  len : m.length = n
  lf : ∀ p : Int, 0 ≤ p → p < n → LF (N m p)
  nx : ∀ p : Int, 0 ≤ p → p < n → ∀ a b, Nx (N m p) a b ↔ Nx (N w p) b a
section
variable {n : Nat} {w m m' : List (List Int)}
theorem Mir.uniq (h : Mir n w m) (h' : Mir n w m') : m = m' := web_ext h.len h'.len fun p p0 p1 => lf_eq (h.lf p p0 p1) (h'.lf p p0 p1) fun a b => (h.nx p p0 p1 a b).trans (h'.nx p p0 p1 a b).symm
theorem Mir.mem (h : Mir n w m) {p : Int} (p0 : 0 ≤ p) (p1 : p < n) {b : Int} : b ∈ N m p ↔ b ∈ N w p := by
  constructor
  · intro hb
    obtain ⟨c, hc⟩ := nx_ex hb
    exact (nx_mem ((h.nx p p0 p1 _ _).mp hc)).2
  · intro hb
    have : b ∈ (N w p).reverse := List.mem_reverse.mpr hb
    obtain ⟨c, hc⟩ := nx_ex this
    exact (nx_mem ((h.nx p p0 p1 _ _).mpr (nx_rev.mp hc))).1
theorem Mir.isWeb (g : Web n w) (h : Mir n w m) (hn : 0 < n) : Web n m := by
  refine ⟨⟨⟨h.len, fun p p0 p1 q hq => g.gr.rg p p0 p1 q ((h.mem p0 p1).mp hq), fun p p0 p1 => (h.lf p p0 p1).1⟩, fun p p0 p1 q hq => ?_⟩, fun p p0 p1 => ?_, h.lf⟩
  · have hq := (h.mem p0 p1).mp hq
    have r := g.gr.rg p p0 p1 q hq
    exact (h.mem r.1 r.2.1).mpr (g.gr.sy p p0 p1 q hq)
  · exact Rea.into g.gr (fun a a0 a1 b hb => .one ((h.mem a0 a1).mpr hb)) (g.con p p0 p1) (Int.le_refl _) (by omega)
end

/-- LAWWEB: the rows, renamed -/
theorem law_web_ok {n : Nat} {rows : List (List Int)} (g : Gr n rows) (ne : Ne0 n rows) (hn : n < 900) {nm : List Int} (gm : Nms n nm) : Ok (m_law_web (rows, nm)) (Ren n rows nm) := by
  have glen := g.len
  have ml := gm.lenI
  unfold m_law_web mb_law_web
  refine Ok.f0 (Ok.bind (P := fun _ => True) (Ok.okB (Ok.okB (Ok.grdB ⟨?_, ?_, ?_⟩ (Ok.ret trivial)))) fun _ _ => Ok.ltI ?_)
  · show -(2 ^ 63 : Int) ≤ ((rows.length : Nat) : Int)
    omega
  · show ((rows.length : Nat) : Int) < (2 ^ 63 : Int)
    omega
  · show List.length [([] : List Int)] * Int.toNat ((List.length rows : Nat) : Int) ≤ sizeLine
    exact Nat.le_of_lt (small1000 (by rw [List.length_singleton]; omega))
  have b1 : (repL [([] : List Int)] ((List.length rows : Nat) : Int)).length = n := by rw [rep_len, glen]
  refine Ok.bF (Pn := Ren n rows nm) (Ok.forR (fun i s => s.length = n ∧ ∀ p : Int, 0 ≤ p → p < i → LF (N s (nmf nm p)) ∧ ∀ a b, Nx (N s (nmf nm p)) a b ↔ ∃ x y, Nx (N rows p) x y ∧ nmf nm x = a ∧ nmf nm y = b) ⟨b1, fun p h0 h1 => absurd h1 (by omega)⟩ ?_ ?_) fun s h => Ok.rt h
  · rintro i ⟨x, row⟩ s e ⟨k1, k2⟩
    rw [enumL_get] at e
    obtain ⟨r, er, e⟩ := Option.map_eq_some_iff.mp e
    have er : rows[i]? = some r := er
    have il : i < rows.length := (List.getElem?_eq_some_iff.mp er).1
    have ex : (i : Int) = x := congrArg Prod.fst e
    have erow : r = row := congrArg Prod.snd e
    subst ex erow
    have hN : N rows i = r := by
      have := N_get (rows := rows) (p := (i : Int)) (by omega) (by omega)
      rw [Int.toNat_natCast, er] at this
      injection this with this
      exact this.symm
    have i1 : (i : Int) < n := by omega
    have hr := g.toRw0.small (p := (i : Int)) (by omega) i1
    have rne := ne i (by omega) i1
    have rnd := g.nd i (by omega) i1
    have rrg := g.rg i (by omega) i1
    rw [hN] at hr rne rnd rrg
    have mne : r.map (nmf nm) ≠ [] := fun z => rne (List.map_eq_nil_iff.mp z)
    obtain ⟨j, h1, h2, _⟩ := ix_mem (minL_is mne).1
    have hl : (r.map (nmf nm)).length = r.length := List.length_map _
    obtain ⟨z0, z1⟩ := gm.rg (x := (i : Int)) (by omega) i1
    have z2 : nmf nm i < s.length := by omega
    have rr := ren_row rnd (fun x hx y hy h => gm.inj (rrg x hx).1 (rrg x hx).2.1 (rrg y hy).1 (rrg y hy).2.1 h) h1 rfl
    have ats : ∀ y ∈ r, R.some (atI nm y) = .ok (nmf nm y) := fun y hy => by
      rw [atI_nat (rrg y hy).1 (nmf_at (rrg y hy).1 (by have := (rrg y hy).2.1; omega))]
      rfl
    have ati : atI nm (i : Int) = some (nmf nm i) := atI_nat (by omega) (nmf_at (by omega) (by omega))
    have fin : ∀ V : List Int, V = (r.map (nmf nm)).drop j ++ (r.map (nmf nm)).take j → (s.set (nmf nm i).toNat V).length = n ∧ ∀ p : Int, 0 ≤ p → p < ((i + 1 : Nat) : Int) → LF (N (s.set (nmf nm i).toNat V) (nmf nm p)) ∧ ∀ a b, Nx (N (s.set (nmf nm i).toNat V) (nmf nm p)) a b ↔ ∃ x y, Nx (N rows p) x y ∧ nmf nm x = a ∧ nmf nm y = b := fun V hV => by
      refine ⟨by rw [List.length_set]; exact k1, fun p p0 p1 => ?_⟩
      have w : (nmf nm i).toNat < s.length := by omega
      rw [N_set w]
      by_cases ep : p = i
      · rw [ep, if_pos rfl, hN, hV]
        exact rr
      · have p2 : p < n := by omega
        have := gm.rg p0 p2
        rw [if_neg fun h => ep (gm.inj p0 p2 (by omega) i1 (by omega))]
        exact k2 p p0 (by omega)
    simp only [DL.bind_assoc, bind_okN, lt_eqN]
    refine Ok.grdB (Nat.le_of_lt (small1000 (show r.length ≤ 1000 by omega))) (Ok.bind1 (comp_eq (f := nmf nm) ats) (Ok.grdB mne (Ok.somB h1 ?_)))
    simp only [cut_from, cut_to]
    refine Ok.grdB (Nat.le_of_lt (small1000 ?_)) (Ok.somB ati (Ok.somB (ixN_nat z0 z2) (Ok.nx (fin _ rfl))))
    rw [List.length_drop, List.length_take, hl]
    omega
  · rintro s ⟨k1, k2⟩
    rw [enumL_len, glen] at k2
    exact ⟨k1, fun p p0 p1 => (k2 p p0 p1).1, fun p p0 p1 => (k2 p p0 p1).2⟩

/-! ### going round -/
def it {α : Type} (f : α → α) : Nat → α → α
  | 0, x => x
  | n + 1, x => f (it f n x)
theorem it_add {α : Type} (f : α → α) (b : Nat) (x : α) : ∀ a, it f (a + b) x = it f a (it f b x)
  | 0 => by rw [Nat.zero_add]; rfl
  | a + 1 => by
    rw [show a + 1 + b = (a + b) + 1 by omega, it, it, it_add f b x a]
/-- one to one within S -/
structure Perm1 {α : Type} (f : α → α) (S : α → Prop) : Prop where
  st : ∀ x, S x → S (f x)
  inj : ∀ x y, S x → S y → f x = f y → x = y
theorem nodup_leG {α : Type} [DecidableEq α] : ∀ {l m : List α}, l.Nodup → (∀ x ∈ l, x ∈ m) → l.length ≤ m.length
  | [], _, _, _ => Nat.zero_le _
  | x :: l, m, nd, h => by
    obtain ⟨h1, h2⟩ := List.nodup_cons.mp nd
    have hx := h x List.mem_cons_self
    have := nodup_leG (l := l) (m := m.erase x) h2 fun y hy => (List.mem_erase_of_ne (fun (e : y = x) => h1 (e ▸ hy))).mpr (h y (List.mem_cons_of_mem _ hy))
    rw [List.length_erase_of_mem hx] at this
    have := List.length_pos_of_mem hx
    rw [List.length_cons]
    omega
theorem least_ex {P : Nat → Prop} (h : ∃ k, P k) : ∃ k, P k ∧ ∀ j, j < k → ¬ P j := by
  obtain ⟨k, hk⟩ := h
  induction k using Nat.strongRecOn with
  | _ k ih =>
    by_cases h : ∃ j, j < k ∧ P j
    · obtain ⟨j, h1, h2⟩ := h
      exact ih j h1 h2
    · exact ⟨k, hk, fun j h1 h2 => h ⟨j, h1, h2⟩⟩
section
variable {α : Type} {f : α → α} {S : α → Prop} {x y : α}
theorem Perm1.its (h : Perm1 f S) (hx : S x) : ∀ k, S (it f k x)
  | 0 => hx
  | k + 1 => h.st _ (h.its hx k)
theorem Perm1.cancel (h : Perm1 f S) (hx : S x) {d : Nat} : ∀ i, it f (i + d) x = it f i x → it f d x = x
  | 0, e => by rw [Nat.zero_add] at e; exact e
  | i + 1, e => by
    rw [show i + 1 + d = (i + d) + 1 by omega, it, it] at e
    exact h.cancel hx i (h.inj _ _ (h.its hx _) (h.its hx _) e)
/-- the way round takes k turns -/
def Per (f : α → α) (x : α) (k : Nat) : Prop := 0 < k ∧ it f k x = x ∧ ∀ j, 0 < j → j < k → it f j x ≠ x
theorem Per.uniq {k j : Nat} (h : Per f x k) (h' : Per f x j) : k = j := by
  rcases Nat.lt_trichotomy k j with l | l | l
  · exact absurd h.2.1 (h'.2.2 k h.1 l)
  · exact l
  · exact absurd h'.2.1 (h.2.2 j h'.1 l)
theorem Perm1.per [DecidableEq α] (h : Perm1 f S) {L : List α} (hL : ∀ x, S x → x ∈ L) (hx : S x) : ∃ k, Per f x k ∧ k ≤ L.length := by
  have ex : ∃ k, 0 < k ∧ k ≤ L.length ∧ it f k x = x := by
    apply Classical.byContradiction
    intro no
    have nd : ((List.range (L.length + 1)).map fun i => it f i x).Nodup := by
      rw [List.nodup_iff_pairwise_ne, List.pairwise_map]
      refine List.Pairwise.imp_of_mem ?_ (List.pairwise_lt_range (n := L.length + 1))
      intro a b _ hb l e
      have hb := List.mem_range.mp hb
      refine no ⟨b - a, by omega, by omega, h.cancel hx a ?_⟩
      rw [show a + (b - a) = b by omega]
      exact e.symm
    have := nodup_leG nd fun y hy => by
      obtain ⟨i, _, e⟩ := List.mem_map.mp hy
      rw [← e]
      exact hL _ (h.its hx i)
    rw [List.length_map, List.length_range] at this
    omega
  obtain ⟨k, ⟨h1, h2, h3⟩, h4⟩ := least_ex ex
  exact ⟨k, ⟨h1, h3, fun j j0 j1 e => h4 j j1 ⟨j0, by omega, e⟩⟩, h2⟩
/-- those met on the way -/
def orb (f : α → α) (x : α) (k : Nat) : List α := (List.range k).map fun i => it f i x
theorem orb_len (k : Nat) : (orb f x k).length = k := by rw [orb, List.length_map, List.length_range]
theorem orb_succ (k : Nat) : orb f x (k + 1) = orb f x k ++ [it f k x] := by
  rw [orb, List.range_succ, List.map_append]
  rfl
theorem orb_mem {k : Nat} : y ∈ orb f x k ↔ ∃ i, i < k ∧ it f i x = y := by
  rw [orb, List.mem_map]
  exact ⟨fun ⟨i, h, e⟩ => ⟨i, List.mem_range.mp h, e⟩, fun ⟨i, h, e⟩ => ⟨i, List.mem_range.mpr h, e⟩⟩
theorem Perm1.orb_nd (h : Perm1 f S) (hx : S x) {k : Nat} (p : Per f x k) : (orb f x k).Nodup := by
  rw [orb, List.nodup_iff_pairwise_ne, List.pairwise_map]
  refine List.Pairwise.imp_of_mem ?_ (List.pairwise_lt_range (n := k))
  intro a b _ hb l e
  have hb := List.mem_range.mp hb
  refine p.2.2 (b - a) (by omega) (by omega) (h.cancel hx a ?_)
  rw [show a + (b - a) = b by omega]
  exact e.symm
theorem Per.st {k : Nat} (p : Per f x k) (h : y ∈ orb f x k) : f y ∈ orb f x k := by
  obtain ⟨i, hi, e⟩ := orb_mem.mp h
  subst e
  by_cases l : i + 1 < k
  · exact orb_mem.mpr ⟨i + 1, l, rfl⟩
  · have : i + 1 = k := by omega
    refine orb_mem.mpr ⟨0, p.1, ?_⟩
    show x = f (it f i x)
    rw [show f (it f i x) = it f (i + 1) x from rfl, this, p.2.1]
theorem Per.head {k : Nat} (p : Per f x k) : x ∈ orb f x k := orb_mem.mpr ⟨0, p.1, rfl⟩
/-- back to where it began -/
theorem Per.back {k : Nat} (p : Per f x k) (h : y ∈ orb f x k) : ∃ m, it f m y = x := by
  obtain ⟨i, hi, e⟩ := orb_mem.mp h
  subst e
  refine ⟨k - i, ?_⟩
  rw [← it_add, show k - i + i = k by omega, p.2.1]
theorem closed_it {K : List α} (hK : ∀ x ∈ K, f x ∈ K) (h : y ∈ K) : ∀ m, it f m y ∈ K
  | 0 => h
  | m + 1 => hK _ (closed_it hK h m)
end
/-! ### sorted lists -/
theorem sorted_eq {α : Type} {le : α → α → Prop} (anti : ∀ a b, le a b → le b a → a = b) : ∀ {l m : List α}, l.Perm m → l.Pairwise le → m.Pairwise le → l = m
  | [], m, p, _, _ => by rw [List.nil_perm.mp p]
  | x :: l, [], p, _, _ => absurd p.symm (by simp)
  | x :: l, y :: m, p, h1, h2 => by
    have e : x = y := by
      have a1 : x ∈ y :: m := p.mem_iff.mp List.mem_cons_self
      have a2 : y ∈ x :: l := p.mem_iff.mpr List.mem_cons_self
      rcases List.mem_cons.mp a1 with e | a1
      · exact e
      rcases List.mem_cons.mp a2 with e | a2
      · exact e.symm
      exact anti _ _ ((List.pairwise_cons.mp h1).1 _ a2) ((List.pairwise_cons.mp h2).1 _ a1)
    subst e
    rw [sorted_eq anti (List.perm_cons _ |>.mp p) (List.pairwise_cons.mp h1).2 (List.pairwise_cons.mp h2).2]
/-- pairs in order -/
def leP (p q : Int × Int) : Prop := p.1 < q.1 ∨ (p.1 = q.1 ∧ p.2 ≤ q.2)
instance (p q : Int × Int) : Decidable (leP p q) := by unfold leP; infer_instance
theorem leP_anti (p q : Int × Int) (h : leP p q) (k : leP q p) : p = q := by
  unfold leP at h k
  refine Prod.ext ?_ ?_ <;> omega
theorem srtP_eq (l : List (Int × Int)) : srtD eK2 l = l.mergeSort fun p q => decide (leP p q) := by
  rw [srtD, srtK2_le]
  rfl
theorem srtP_sorted (l : List (Int × Int)) : (srtD eK2 l).Pairwise leP := by
  rw [srtP_eq]
  refine List.Pairwise.imp (fun h => of_decide_eq_true h) (List.pairwise_mergeSort ?_ ?_ l)
  · intro a b c h1 h2
    have h1 := of_decide_eq_true h1
    have h2 := of_decide_eq_true h2
    refine decide_eq_true ?_
    unfold leP at *
    omega
  · intro a b
    rw [Bool.or_eq_true]
    by_cases h : leP a b
    · exact .inl (decide_eq_true h)
    · refine .inr (decide_eq_true ?_)
      unfold leP at *
      omega
theorem srtP_perm (l : List (Int × Int)) : (srtD eK2 l).Perm l := by
  rw [srtP_eq]
  exact List.mergeSort_perm _ _
theorem srtP_mem {l : List (Int × Int)} {p : Int × Int} : p ∈ srtD eK2 l ↔ p ∈ l := (srtP_perm l).mem_iff
/-- sorting, of those alone that are wanted -/
theorem srtP_filter (l : List (Int × Int)) (t : Int × Int → Bool) : (srtD eK2 l).filter t = srtD eK2 (l.filter t) :=
  sorted_eq leP_anti (((srtP_perm l).filter t).trans (srtP_perm _).symm) ((srtP_sorted l).filter t) (srtP_sorted _)
/-- pairs told as rows of two -/
theorem srtT_pairs (l : List (Int × Int)) : srtD (eT D.int) (l.map fun p => [p.1, p.2]) = (srtD eK2 l).map fun p => [p.1, p.2] := by
  rw [srtD, srtD]
  refine (List.map_mergeSort (f := fun p : Int × Int => [p.1, p.2]) fun a _ b _ => ?_).symm
  rw [srtK2_le]
  show decide (leP a b) = PySem.W.dataLe false (fun x => pdOf (eT D.int x)) [a.1, a.2] [b.1, b.2]
  have e : PySem.W.dataLe false (fun p : Int × Int => PyData.tuple [.int p.1, .int p.2]) a b = decide (leP a b) := by
    rw [PySem.W.dataLe_ii (β := Int × Int) (fun p => p.1) (fun p => p.2)]
    rfl
  rw [← e]
  simp only [PySem.W.dataLe, PySem.W.sortLe, pd_TI, List.map_cons, List.map_nil]

/-! ### keys of two small numbers have hashes of their own -/
def khOrd : List Nat := [1086, 902, 1061, 1299, 675, 1525, 785, 162, 839, 998, 375, 1108, 259, 485, 1547, 1419, 570, 808, 184, 68, 1356, 691, 1515, 507, 617, 776, 1002, 886, 928, 316, 475, 1325, 713, 585, 823, 
  1024, 908, 1134, 285, 1372, 1531, 523, 1219, 1457, 608, 94, 332, 1156, 491, 307, 1394, 545, 1425, 417, 31, 1589, 728, 116, 538, 354, 1363, 1472, 623, 849, 665, 0, 934, 85, 1172, 323, 
  1257, 1483, 871, 22, 132, 956, 1378, 1194, 1066, 1225, 217, 1304, 1463, 443, 681, 1505, 840, 1573, 338, 154, 380, 1272, 423, 649, 465, 1595, 734, 972, 232, 1082, 1057, 1295, 671, 1521, 
  781, 1178, 994, 1104, 255, 1489, 481, 718, 1415, 138, 180, 1072, 64, 1310, 449, 1536, 1352, 687, 772, 882, 386, 270, 496, 312, 471, 1321, 1558, 709, 581, 819, 195, 1020, 1088, 904, 
  1130, 281, 518, 1368, 1527, 1215, 1110, 90, 1336, 328, 1152, 487, 1421, 1035, 27, 186, 919, 70, 296, 112, 534, 1358, 1230, 1468, 619, 845, 888, 930, 318, 1168, 556, 825, 867, 18, 1136, 
  128, 952, 1374, 1246, 1062, 1459, 1569, 96, 999, 334, 1158, 206, 1396, 1268, 419, 645, 33, 1591, 730, 118, 968, 356, 228, 625, 1516, 667, 777, 936, 1174, 1046, 1284, 476, 1485, 714, 
  873, 983, 799, 134, 1025, 360, 244, 1068, 1306, 445, 1532, 683, 1575, 768, 382, 266, 492, 1554, 705, 577, 815, 191, 1084, 1126, 514, 1523, 783, 599, 1009, 160, 44, 1106, 86, 1332, 483, 
  592, 1417, 1031, 182, 915, 66, 1312, 292, 1538, 530, 1354, 1226, 1464, 615, 841, 884, 272, 926, 314, 552, 1432, 424, 583, 821, 735, 1132, 1370, 1242, 630, 1455, 7, 1565, 941, 92, 1179, 
  1338, 330, 1154, 202, 1392, 1264, 415, 1490, 641, 878, 29, 726, 114, 1385, 536, 352, 1232, 224, 1470, 1512, 847, 773, 1170, 1042, 558, 430, 1280, 656, 472, 1481, 869, 741, 979, 130, 
  240, 1064, 1302, 441, 678, 1528, 1571, 1185, 336, 378, 1270, 262, 1496, 488, 647, 573, 145, 187, 1079, 230, 1080, 1317, 456, 694, 1518, 779, 1005, 889, 393, 40, 277, 1286, 1102, 478, 
  1328, 716, 588, 985, 1027, 362, 911, 246, 62, 1308, 288, 1534, 526, 1406, 1222, 880, 1117, 268, 1343, 1159, 494, 1556, 1428, 420, 579, 817, 193, 77, 119, 1128, 516, 626, 3, 46, 937, 
  88, 1175, 1334, 326, 1206, 1444, 832, 1486, 874, 1033, 25, 917, 1143, 135, 959, 294, 1381, 532, 404, 1228, 220, 1466, 843, 103, 341, 554, 1275, 426, 652, 865, 1598, 737, 975, 126, 1244, 
  632, 674, 9, 1567, 943, 759, 1181, 1053, 204, 1266, 1492, 643, 141, 367, 183, 1075, 226, 1313, 452, 690, 1514, 1582, 775, 1001, 885, 1044, 389, 273, 432, 1282, 474, 712, 584, 743, 981, 
  1023, 1091, 242, 1530, 1402, 790, 167, 51, 1113, 264, 1339, 490, 1552, 600, 1424, 575, 1038, 189, 73, 1319, 299, 696, 512, 806, 622, 1007, 891, 395, 42, 279, 933, 1330, 1202, 559, 590, 
  1440, 828, 1029, 913, 1139, 290, 1377, 528, 400, 1224, 1462, 1572, 1119, 99, 337, 1399, 1271, 606, 1430, 422, 648, 36, 79, 733, 543, 359, 231, 1240, 1477, 628, 854, 5, 1563, 939, 1177, 
  1049, 200, 437, 1446, 1262, 1488, 876, 748, 986, 137, 1383, 363, 1199, 1071, 406, 222, 1309, 448, 686, 1578, 343, 159, 1040, 385, 1277, 269, 428, 1503, 654, 764, 580, 739, 977, 237, 
  1087, 463, 676, 1526, 786, 1183, 163, 47, 1293, 1109, 1335, 1494, 486, 1420, 143, 1034, 369, 185, 253, 1077, 69, 1315, 295, 454, 1541, 692, 564, 802, 1003, 887, 391, 275, 501, 1326, 
  1435, 586, 824, 1093, 909, 1135, 286, 1373, 1404, 1220, 10, 169, 53, 1115, 95, 1341, 333, 1213, 1267, 602, 1426, 32, 75, 1150, 301, 539, 1235, 227, 1473, 624, 850, 1, 893, 935, 1173, 
  1045, 1204, 433, 1283, 1442, 830, 872, 744, 982, 1141, 133, 1379, 1251, 1067, 402, 639, 16, 1574, 950, 101, 1188, 339, 211, 1273, 1499, 650, 38, 760, 1596, 148, 973, 233, 1083, 1479, 
  459, 856, 672, 966, 782, 1051, 396, 43, 439, 1289, 719, 750, 988, 139, 1030, 365, 914, 249, 1073, 1311, 450, 1537, 688, 1580, 560, 174, 883, 387, 1279, 271, 497, 1559, 1431, 766, 582, 
  820, 196, 239, 1089, 703, 519, 1400, 788, 1014, 6, 165, 898, 49, 1111, 1337, 1209, 597, 1447, 1422, 835, 1036, 71, 1146, 297, 1543, 535, 1359, 1231, 566, 1469, 804, 620, 846, 106, 503, 
  319, 1200, 613, 1437, 429, 826, 924, 740, 1137, 550, 1375, 1247, 635, 861, 677, 12, 1570, 946, 97, 1184, 335, 207, 1453, 1269, 604, 1495, 646, 34, 144, 303, 1390, 541, 1078, 413, 1237, 
  229, 1475, 455, 693, 1517, 852, 1585, 724, 962, 350, 1047, 392, 435, 1285, 661, 477, 746, 984, 361, 1253, 245, 1069, 446, 1533, 1576, 1190, 170, 213, 383, 1300, 1116, 267, 1501, 493, 
  1427, 762, 150, 376, 192, 260, 76, 235, 1085, 461, 699, 784, 1010, 161, 894, 398, 45, 1291, 1333, 1205, 593, 1443, 831, 990, 1032, 1100, 916, 251, 67, 1142, 293, 1539, 1411, 403, 1227, 
  562, 800, 176, 60, 102, 1348, 499, 609, 1433, 822, 198, 920, 308, 1133, 546, 1243, 631, 857, 1016, 8, 900, 942, 93, 1364, 1180, 1211, 203, 1449, 837, 879, 30, 324, 1148, 140, 1386, 
  537, 1074, 409, 1233, 1471, 451, 23, 848, 1581, 720, 108, 346, 1043, 431, 657, 742, 1164, 980, 1249, 637, 863, 679, 14, 789, 124, 948, 1186, 166, 1058, 209, 1296, 1497, 757, 995, 146, 
  372, 256, 1318, 457, 1544, 695, 1519, 1587, 567, 964, 780, 1006, 890, 394, 278, 1287, 663, 479, 1201, 589, 827, 1096, 247, 1322, 710, 1535, 1407, 795, 1021, 172, 56, 1118, 1344, 495, 
  605, 1429, 194, 78, 304, 1550, 542, 701, 1238, 811, 627, 853, 1012, 4, 896, 1122, 510, 1360, 1207, 595, 1445, 833, 82, 918, 320, 1144, 1382, 533, 1413, 405, 1229, 1467, 19, 1577, 953, 
  104, 1350, 342, 1460, 1276, 611, 427, 653, 922, 310, 1160, 1397, 548, 236, 1245, 633, 859, 731, 120, 944, 1366, 1182, 1054, 205, 1292, 1451, 1493, 1561, 753, 991, 142, 1388, 368, 1260, 
  252, 1076, 411, 1314, 453, 1540, 1583, 563, 722, 110, 960, 1197, 348, 390, 274, 1508, 659, 769, 157, 1166, 199, 1092, 243, 468, 706, 1403, 791, 1017, 168, 1060, 52, 1298, 1114, 1524, 
  1340, 601, 997, 1039, 374, 190, 1107, 258, 74, 484, 300, 1546, 697, 1418, 1234, 569, 807, 1008, 892, 506, 1203, 591, 1441, 829, 1098, 1324, 1140, 1250, 1409, 401, 638, 797, 15, 907, 
  58, 949, 284, 100, 522, 1346, 1218, 1456, 607, 37, 1155, 306, 1393, 544, 416, 1241, 1478, 813, 629, 855, 727, 115, 1124, 940, 353, 1362, 1050, 201, 438, 1288, 664, 877, 749, 84, 1171, 
  987, 322, 1384, 364, 1256, 248, 407, 1482, 870, 21, 1579, 131, 955, 1193, 344, 216, 442, 1278, 1504, 655, 765, 153, 1162, 238, 464, 702, 1594, 971, 787, 122, 1013, 164, 1056, 48, 1294, 
  670, 1520, 755, 993, 370, 1103, 254, 480, 1316, 1542, 1414, 565, 803, 179, 1004, 63, 276, 1510, 502, 1436, 771, 587, 881, 1094, 470, 1320, 1557, 708, 1405, 818, 634, 793, 1019, 11, 
  903, 54, 945, 280, 517, 1342, 1214, 1452, 603, 1151, 302, 1389, 1548, 540, 412, 1236, 571, 1474, 809, 851, 723, 111, 961, 1120, 1357, 349, 508, 618, 434, 660, 929, 745, 80, 317, 1167, 
  555, 1380, 1252, 866, 17, 127, 951, 1189, 524, 340, 212, 1458, 1274, 1500, 651, 1568, 39, 761, 1157, 149, 1395, 418, 234, 644, 460, 698, 1590, 729, 117, 967, 355, 1052, 397, 1290, 666, 
  751, 989, 366, 1099, 1258, 250, 1484, 1410, 561, 798, 957, 1195, 175, 59, 218, 1305, 444, 1347, 682, 1506, 498, 767, 155, 381, 197, 265, 1090, 466, 1553, 704, 576, 1401, 814, 1015, 
  899, 50, 1125, 513, 1522, 1210, 598, 1448, 836, 1037, 1105, 1331, 1147, 482, 298, 1416, 408, 805, 181, 65, 291, 107, 529, 1353, 345, 504, 614, 1438, 925, 313, 1163, 551, 1248, 636, 
  862, 13, 905, 1131, 123, 947, 282, 1369, 520, 1216, 208, 1454, 1564, 756, 91, 329, 1153, 1391, 371, 1263, 414, 640, 1476, 28, 1586, 725, 113, 963, 351, 223, 1048, 436, 1511, 662, 931, 
  747, 1169, 1041, 557, 1095, 1254, 1480, 868, 978, 794, 129, 1191, 171, 1063, 55, 214, 1301, 440, 1502, 763, 151, 377, 261, 462, 1549, 700, 1592, 572, 810, 969, 357, 1011, 895, 399, 
  1121, 509, 668, 778, 594, 1101, 81, 1327, 715, 1412, 801, 1026, 177, 910, 61, 1307, 287, 525, 1349, 684, 500, 1221, 610, 1434, 921, 309, 1555, 547, 578, 816, 858, 901, 1127, 515, 1365, 
  1212, 1450, 2, 838, 1560, 752, 87, 325, 1149, 1387, 1259, 410, 24, 721, 958, 109, 1196, 531, 1355, 347, 219, 1465, 616, 1507, 842, 658, 927, 156, 315, 1165, 553, 425, 467, 864, 1597, 
  736, 974, 125, 1371, 1187, 1059, 210, 1297, 673, 1498, 1566, 758, 996, 331, 147, 373, 1265, 257, 1491, 642, 458, 1545, 1588, 568, 965, 225, 689, 1513, 505, 1439, 774, 1000, 388, 1281, 
  1097, 473, 1323, 711, 1408, 796, 1022, 173, 906, 241, 1065, 57, 1303, 283, 1529, 521, 1345, 680, 1217, 379, 1112, 263, 489, 305, 1551, 1423, 1239, 574, 812, 188, 72, 1081, 897, 1123, 
  511, 1361, 1208, 621, 596, 834, 41, 932, 83, 1329, 321, 1145, 717, 1255, 1028, 20, 912, 1138, 954, 289, 105, 1376, 1192, 527, 1351, 1223, 215, 1461, 612, 98, 923, 152, 311, 1161, 1398, 
  549, 421, 35, 860, 1593, 732, 970, 1129, 121, 358, 1367, 1055, 669, 1562, 938, 754, 89, 1176, 992, 327, 1261, 1487, 875, 26, 1584, 136, 1198, 178, 1070, 221, 447, 685, 1509, 844, 770, 
  158, 384, 469, 707, 1599, 738, 976, 792, 1018]
def ascB : Int → List Nat → Bool
  | _, [] => true
  | a, i :: l => let h := khash ((i / 40 : Nat), (i % 40 : Nat)); decide (a < h) && ascB h l
theorem khOrd_asc : ascB (-(2 ^ 64)) khOrd = true := by decide +kernel
theorem khOrd_len : khOrd.length = 1600 := by decide +kernel
theorem khOrd_lt : khOrd.all (fun i => Nat.blt i 1600) = true := by decide +kernel
theorem ascB_gt : ∀ {l : List Nat} {a : Int}, ascB a l = true → ∀ i ∈ l, a < khash ((i / 40 : Nat), (i % 40 : Nat))
  | i :: l, a, h, j, hj => by
    rw [ascB, Bool.and_eq_true] at h
    have h1 := of_decide_eq_true h.1
    rcases List.mem_cons.mp hj with e | hj
    · rw [e]; exact h1
    · exact Int.lt_trans h1 (ascB_gt h.2 j hj)
theorem ascB_inj : ∀ {l : List Nat} {a : Int}, ascB a l = true → l.Nodup ∧ ∀ i ∈ l, ∀ j ∈ l, khash ((i / 40 : Nat), (i % 40 : Nat)) = khash ((j / 40 : Nat), (j % 40 : Nat)) → i = j
  | [], _, _ => ⟨List.nodup_nil, fun _ m => nomatch m⟩
  | i :: l, a, h => by
    rw [ascB, Bool.and_eq_true] at h
    obtain ⟨h1, h2⟩ := ascB_inj h.2
    have h3 := ascB_gt h.2
    refine ⟨List.nodup_cons.mpr ⟨fun m => Int.lt_irrefl _ (h3 i m), h1⟩, fun x hx y hy e => ?_⟩
    rcases List.mem_cons.mp hx with ex | hx <;> rcases List.mem_cons.mp hy with ey | hy
    · rw [ex, ey]
    · have := h3 y hy
      rw [← e, ex] at this
      exact absurd this (Int.lt_irrefl _)
    · have := h3 x hx
      rw [e, ey] at this
      exact absurd this (Int.lt_irrefl _)
    · exact h2 x hx y hy e
theorem khOrd_all {i : Nat} (h : i < 1600) : i ∈ khOrd := by
  apply Classical.byContradiction
  intro no
  have nd := (ascB_inj khOrd_asc).1
  have := nodup_leG (m := List.range 1600) (List.nodup_cons.mpr ⟨no, nd⟩) fun x hx => by
    rcases List.mem_cons.mp hx with e | hx
    · rw [e]; exact List.mem_range.mpr h
    · exact List.mem_range.mpr (Nat.blt_eq.mp (List.all_eq_true.mp khOrd_lt x hx))
  rw [List.length_cons, khOrd_len, List.length_range] at this
  omega
theorem kh_inj {p q : Int × Int} (hp : 0 ≤ p.1 ∧ p.1 < 40 ∧ 0 ≤ p.2 ∧ p.2 < 40) (hq : 0 ≤ q.1 ∧ q.1 < 40 ∧ 0 ≤ q.2 ∧ q.2 < 40) (e : khash p = khash q) : p = q := by
  obtain ⟨a, b⟩ := p
  obtain ⟨c, d⟩ := q
  obtain ⟨h1, h2, h3, h4⟩ := hp
  obtain ⟨k1, k2, k3, k4⟩ := hq
  have h1 : 0 ≤ a := h1
  have h2 : a < 40 := h2
  have h3 : 0 ≤ b := h3
  have h4 : b < 40 := h4
  have k1 : 0 ≤ c := k1
  have k2 : c < 40 := k2
  have k3 : 0 ≤ d := k3
  have k4 : d < 40 := k4
  obtain ⟨a, rfl⟩ := Int.eq_ofNat_of_zero_le h1
  obtain ⟨b, rfl⟩ := Int.eq_ofNat_of_zero_le h3
  obtain ⟨c, rfl⟩ := Int.eq_ofNat_of_zero_le k1
  obtain ⟨d, rfl⟩ := Int.eq_ofNat_of_zero_le k3
  have q1 : (a * 40 + b) / 40 = a := by omega
  have q2 : (a * 40 + b) % 40 = b := by omega
  have q3 : (c * 40 + d) / 40 = c := by omega
  have q4 : (c * 40 + d) % 40 = d := by omega
  have := (ascB_inj khOrd_asc).2 (a * 40 + b) (khOrd_all (by omega)) (c * 40 + d) (khOrd_all (by omega)) (by rw [q1, q2, q3, q4]; exact e)
  refine Prod.ext ?_ ?_ <;> show (_ : Int) = _ <;> omega
theorem kh_nodup {l : List (Int × Int)} (nd : l.Nodup) (h : ∀ p ∈ l, 0 ≤ p.1 ∧ p.1 < 40 ∧ 0 ≤ p.2 ∧ p.2 < 40) : (l.map khash).Nodup := by
  rw [List.nodup_iff_pairwise_ne, List.pairwise_map]
  refine List.Pairwise.imp_of_mem ?_ (List.nodup_iff_pairwise_ne.mp nd)
  intro a b ha hb ne e
  exact ne (kh_inj (h a ha) (h b hb) e)

--#split
/-! ### steps and faces -/
/-- the one ahead, in turn -/
def prev (l : List Int) (x : Int) : Int := match ixOf x l with
  | some j => (atI l ((j : Int) - 1)).getD 0
  | none => 0
theorem prev_ok {l : List Int} {x : Int} (hp : x ∈ l) : ∃ j, ixOf x l = some j ∧ j < l.length ∧ atI l ((j : Int) - 1) = some (prev l x) ∧ Nx l (prev l x) x := by
  obtain ⟨j, h2, h3, h4, h5, _, _⟩ := ix_mem hp
  have e : ∃ r, atI l ((j : Int) - 1) = some r ∧ Nx l r x := by
    cases j with
    | zero =>
      have h5 : l = x :: l.drop 1 := by simpa using h5
      generalize l.drop 1 = t at h5
      rw [h5]
      have hl : (x :: t).getLast? = some ((x :: t).getLast (by simp)) := List.getLast?_eq_some_getLast (by simp)
      refine ⟨(x :: t).getLast (by simp), ?_, ?_⟩
      · unfold atI ixN
        rw [if_neg (by omega), if_pos (by simp; omega)]
        rw [List.getLast?_eq_getElem?] at hl
        rw [← hl]
        show (x :: t)[_]? = _
        congr 1
        simp
        omega
      · rw [Nx]
        exact lin_snoc.mpr (.inr ⟨hl, rfl⟩)
    | succ j =>
      have hj : j < l.length := by omega
      refine ⟨l[j], atI_nat (by omega) (by rw [show ((j + 1 : Nat) : Int) - 1 = (j : Int) by omega, Int.toNat_natCast]; exact List.getElem?_eq_getElem hj), ?_⟩
      have e2 : l.take (j + 1) = l.take j ++ [l[j]] := by
        rw [List.take_succ, List.getElem?_eq_getElem hj]
        rfl
      rw [e2] at h5
      generalize l[j] = z at *
      rw [h5, List.append_assoc]
      refine nx_rot.mpr ?_
      rw [List.singleton_append, List.cons_append, nx_cons]
      exact .inl ⟨rfl, rfl⟩
  obtain ⟨r, e1, e2⟩ := e
  have ep : prev l x = r := by
    unfold prev
    rw [h2]
    show (atI l ((j : Int) - 1)).getD 0 = r
    rw [e1]
    rfl
  rw [ep]
  exact ⟨j, h2, h3, e1, e2⟩
theorem prev_eq {l : List Int} {x y : Int} (nd : l.Nodup) (h : Nx l y x) : prev l x = y := by
  obtain ⟨_, _, _, _, h5⟩ := prev_ok (nx_mem h).2
  exact nx_inj nd h5 h
/-- two numbers that are a step -/
def St (n : Nat) (w : List (List Int)) (s : Int × Int) : Prop := 0 ≤ s.1 ∧ s.1 < n ∧ s.2 ∈ N w s.1
/-- the step behind a step -/
def bhf (w : List (List Int)) (s : Int × Int) : Int × Int := (s.2, prev (N w s.2) s.1)
section
variable {n : Nat} {w : List (List Int)} {s : Int × Int}
theorem St.two (g : Gr n w) (h : St n w s) : 0 ≤ s.2 ∧ s.2 < n ∧ s.2 ≠ s.1 ∧ s.1 ∈ N w s.2 := by
  obtain ⟨h1, h2, h3⟩ := h
  obtain ⟨a, b, c⟩ := g.rg _ h1 h2 _ h3
  exact ⟨a, b, c, g.sy _ h1 h2 _ h3⟩
theorem bh_perm (g : Gr n w) : Perm1 (bhf w) (St n w) := by
  refine ⟨fun s h => ?_, fun s t h k e => ?_⟩
  · obtain ⟨a, b, c, d⟩ := h.two g
    obtain ⟨j, _, _, _, h5⟩ := prev_ok d
    exact ⟨a, b, (nx_mem h5).1⟩
  · obtain ⟨a, b, c, d⟩ := h.two g
    obtain ⟨a', b', c', d'⟩ := k.two g
    unfold bhf at e
    injection e with e1 e2
    obtain ⟨_, _, _, _, h5⟩ := prev_ok d
    obtain ⟨_, _, _, _, h5'⟩ := prev_ok d'
    rw [← e1] at h5' e2
    rw [← e2] at h5'
    exact Prod.ext (nx_fun (g.nd _ a b) h5 h5') e1
theorem beh_ok (g : Gr n w) (h : St n w s) : m_behind (w, s) = .ok (bhf w s) := by
  obtain ⟨a, b, c, d⟩ := h.two g
  obtain ⟨j, h2, h3, h4, _⟩ := prev_ok d
  have gl := g.len
  unfold m_behind mb_behind
  simp only [N_at a (show s.2 < w.length by omega), some_ok, bind_ok, lt_eq, h2, h4, fin0_rt]
  rfl
/-! the steps -/
def stR (w : List (List Int)) : List (Int × Int) := (rng 0 w.length).flatMap fun p => (N w p).map fun q => (p, q)
noncomputable def stS (w : List (List Int)) : List (Int × Int) := srtD eK2 (stR w)
theorem stR_mem (gl : w.length = n) : s ∈ stR w ↔ St n w s := by
  unfold stR St
  rw [List.mem_flatMap]
  constructor
  · rintro ⟨p, hp, hs⟩
    obtain ⟨q, hq, rfl⟩ := List.mem_map.mp hs
    have := rng_mem.mp hp
    exact ⟨this.1, by show p < (n : Int); omega, hq⟩
  · rintro ⟨h1, h2, h3⟩
    exact ⟨s.1, rng_mem.mpr ⟨h1, by omega⟩, List.mem_map.mpr ⟨s.2, h3, rfl⟩⟩
theorem stS_mem (gl : w.length = n) : s ∈ stS w ↔ St n w s := srtP_mem.trans (stR_mem gl)
theorem flat_len {α β : Type} {f : α → List β} {b : Nat} : ∀ {l : List α}, (∀ x ∈ l, (f x).length ≤ b) → (l.flatMap f).length ≤ l.length * b
  | [], _ => by simp
  | x :: l, h => by
    have h1 := h x List.mem_cons_self
    have h2 := flat_len (l := l) fun y m => h y (List.mem_cons_of_mem _ m)
    rw [List.flatMap_cons, List.length_append, List.length_cons, Nat.succ_mul]
    omega
theorem stR_len (g : Rw0 n w) : (stR w).length ≤ n * n := by
  have := flat_len (f := fun p : Int => (N w p).map fun q => (p, q)) (b := n) (l := rng 0 w.length) fun p hp => by
    have := rng_mem.mp hp
    rw [List.length_map]
    exact g.small this.1 (by rw [← g.len]; omega)
  rw [rng_len, g.len] at this
  unfold stR
  rw [g.len]
  have e : ((n : Int) - 0).toNat = n := by omega
  rw [e] at this
  exact this
theorem enum_rng {w : List (List Int)} : enumL w = (rng 0 w.length).map fun p => (p, N w p) := by
  refine List.ext_getElem? fun i => ?_
  rw [enumL_get, List.getElem?_map]
  by_cases hi : i < w.length
  · obtain ⟨x, hx⟩ : ∃ x, (rng 0 (w.length : Int))[i]? = some x := ⟨_, List.getElem?_eq_getElem (by rw [rng_len]; omega)⟩
    obtain ⟨e1, e2⟩ := rng_get hx
    rw [hx, List.getElem?_eq_getElem hi]
    show some ((i : Int), w[i]) = some (x, N w x)
    have e3 : x = (i : Int) := by omega
    subst e3
    have := N_get (rows := w) (p := (i : Int)) (by omega) (by omega)
    rw [Int.toNat_natCast, List.getElem?_eq_getElem hi] at this
    injection this with this
    rw [← this]
  · rw [List.getElem?_eq_none (by omega), List.getElem?_eq_none (by rw [rng_len]; omega)]
    rfl
theorem forR_eq {α S L T : Type} {f : α → S → R (Fl S S T)} (gg : S → α → S) : ∀ {xs : List α} {s : S}, (∀ (i : Nat) (x : α), xs[i]? = some x → f x ((xs.take i).foldl gg s) = .ok (.nx (gg ((xs.take i).foldl gg s) x))) → (forR f xs s : R (Fl S L T)) = .ok (.nx (xs.foldl gg s))
  | [], s, _ => rfl
  | x :: xs, s, h => by
    have h0 := h 0 x rfl
    rw [List.take_zero, List.foldl_nil] at h0
    rw [forR, h0, List.foldl_cons]
    exact forR_eq gg fun i y e => by
      have := h (i + 1) y (by simpa using e)
      rw [List.take_succ_cons, List.foldl_cons] at this
      exact this
theorem foldl_app {α β : Type} (f : α → List β) : ∀ (l : List α) (a : List β), l.foldl (fun s x => s ++ f x) a = a ++ l.flatMap f
  | [], a => by simp
  | x :: l, a => by rw [List.foldl_cons, foldl_app f l, List.flatMap_cons, List.append_assoc]
theorem map_fTrue {α β : Type} (f : α → β) (l : List α) : List.map f (List.filter (fun _ => true) l) = List.map f l := by rw [List.filter_eq_self.mpr (fun _ _ => rfl)]
theorem take_flat {α β : Type} {f : α → List β} {l : List α} {i : Nat} {x : α} (h : l[i]? = some x) : ((l.take i).flatMap f).length + (f x).length ≤ (l.flatMap f).length := by
  have e : l.take (i + 1) = l.take i ++ [x] := by rw [List.take_succ, h]; rfl
  have e2 : l = l.take (i + 1) ++ l.drop (i + 1) := (List.take_append_drop _ _).symm
  have := congrArg (fun z => (List.flatMap f z).length) e2
  rw [e] at this
  simp only [List.flatMap_append, List.length_append, List.flatMap_cons, List.flatMap_nil, List.length_nil] at this
  omega
theorem steps_eq (g : Gr n w) (hn : n ≤ 40) : m_steps w = .ok (stS w) := by
  have hl := stR_len g.toRw0
  have hl2 : n * n ≤ 1600 := Nat.le_trans (Nat.mul_le_mul hn hn) (by decide)
  unfold m_steps mb_steps
  simp only [bind_okN, lt_eqN, DL.bind_assoc, map_fTrue]
  rw [forR_eq (fun s x => s ++ x.2.map fun q => (x.1, q))]
  · simp only [bindF_nx, foldl_app, List.nil_append]
    rw [guard_ok trivial, bind_okN, fin0_rt]
    unfold stS stR
    rw [enum_rng, List.flatMap_map]
  · intro i x e
    rw [foldl_app, List.nil_append]
    have h1 := take_flat (f := fun x : Int × List Int => x.2.map fun q => (x.1, q)) e
    have h2 : (enumL w).flatMap (fun x : Int × List Int => x.2.map fun q => (x.1, q)) = stR w := by
      unfold stR
      rw [enum_rng, List.flatMap_map]
    rw [h2, List.length_map] at h1
    rw [guard_ok (Nat.le_of_lt (sizeB (show x.2.length ≤ 100000 by omega))), bind_okN, guard_ok (Nat.le_of_lt (sizeB (by rw [List.length_map]; omega))), bind_okN]
/-- those round a step's face -/
noncomputable def orbW (w : List (List Int)) (s : Int × Int) : List (Int × Int) :=
  open Classical in if h : ∃ k, Per (bhf w) s k then orb (bhf w) s h.choose else []
theorem orbW_eq {k : Nat} (p : Per (bhf w) s k) : orbW w s = orb (bhf w) s k := by
  have h : ∃ k, Per (bhf w) s k := ⟨k, p⟩
  unfold orbW
  rw [dif_pos h, h.choose_spec.uniq p]
theorem orbW_ex (g : Gr n w) (h : St n w s) : ∃ k, Per (bhf w) s k ∧ k ≤ (stR w).length ∧ orbW w s = orb (bhf w) s k := by
  obtain ⟨k, p, l⟩ := (bh_perm g).per (fun x hx => (stR_mem g.len).mpr hx) h
  exact ⟨k, p, l, orbW_eq p⟩
theorem orbW_st (g : Gr n w) (h : St n w s) {t : Int × Int} (ht : t ∈ orbW w s) : St n w t := by
  obtain ⟨k, p, l, e⟩ := orbW_ex g h
  rw [e] at ht
  obtain ⟨i, _, e⟩ := orb_mem.mp ht
  rw [← e]
  exact (bh_perm g).its h i
theorem round_eq (g : Gr n w) (hn : n ≤ 40) (h : St n w s) : m_steps_round (w, s) = .ok (orbW w s) := by
  obtain ⟨k, p, l, e⟩ := orbW_ex g h
  have hl := stR_len g.toRw0
  have hl2 : n * n ≤ 1600 := Nat.le_trans (Nat.mul_le_mul hn hn) (by decide)
  refine Ok.eq ?_
  rw [e]
  unfold m_steps_round mb_steps_round
  simp only [DL.bind_assoc, bind_okN, lt_eqN]
  rw [beh_ok g h, bind_okN]
  refine Ok.f0 (Ok.bF (Pn := fun x => x.1 = orb (bhf w) s k) (Ok.whR (fun x => ∃ j, 0 < j ∧ j ≤ k ∧ x = (orb (bhf w) s j, it (bhf w) j s)) (fun x => k - x.1.length) ⟨1, Nat.lt_succ_self 0, p.1, rfl⟩ ?_) ?_)
  · rintro x ⟨j, j0, j1, rfl⟩
    refine ⟨_, rfl, fun hb => ?_, fun hb => ?_⟩
    · have hb : it (bhf w) j s ≠ s := fun z => by
        rw [z] at hb
        simp at hb
      have j2 : j < k := by
        rcases Nat.lt_or_eq_of_le j1 with z | z
        · exact z
        · rw [z] at hb
          exact absurd p.2.1 hb
      refine Ok.grdB (sizeB (by rw [orb_len]; omega)) (Ok.bind1 (beh_ok g ((bh_perm g).its h j)) (Ok.nx ⟨⟨j + 1, by omega, j2, ?_⟩, ?_⟩))
      · rw [orb_succ]
        rfl
      · show k - (orb (bhf w) s j ++ [it (bhf w) j s]).length < k - (orb (bhf w) s j).length
        rw [List.length_append, orb_len, List.length_singleton]
        omega
    · have hb : it (bhf w) j s = s := by simpa using hb
      show orb (bhf w) s j = _
      have : j = k := by
        rcases Nat.lt_or_eq_of_le j1 with z | z
        · exact absurd hb (p.2.2 j j0 z)
        · exact z
      rw [this]
  · rintro x hx
    exact Ok.rt hx
/-! told from the least on -/
theorem minP_head {s : Int × Int} {r : List (Int × Int)} (h : ∀ t ∈ r, leP s t) : minP (s :: r) = s := by
  show PySem.W.minOf s r = s
  unfold PySem.W.minOf
  induction r with
  | nil => rfl
  | cons t r ih =>
    rw [List.foldl_cons]
    have h1 := h t List.mem_cons_self
    have e : PySem.W.DatumOrd.lt t s = false := by
      show (if t.1 = s.1 then decide (t.2 < s.2) else decide (t.1 < s.1)) = false
      unfold leP at h1
      split <;> (apply decide_eq_false; omega)
    rw [if_neg (by rw [e]; decide)]
    exact ih fun u m => h u (List.mem_cons_of_mem _ m)
theorem told_eq {s : Int × Int} {r : List (Int × Int)} (h : ∀ t ∈ r, leP s t) (hl : (s :: r).length ≤ 100000) : m_told_round (s :: r) = .ok ((s :: r).map Prod.fst) := by
  have ne : s :: r ≠ [] := by simp
  have e1 : ixOf s (s :: r) = some 0 := by rw [ixOf, if_pos rfl]
  have c1 : cut (s :: r) (some ((0 : Nat) : Int)) none = s :: r := by
    rw [cut_from]
    rfl
  have c2 : cut (s :: r) none (some ((0 : Nat) : Int)) = [] := by
    rw [cut_to]
    rfl
  unfold m_told_round mb_told_round
  simp only [DL.bind_assoc, guard_ok ne, bind_okN, minP_head h, e1, some_ok, lt_eqN, c1, c2, List.append_nil, List.length_nil, Nat.add_zero]
  simp only [guard_ok (Nat.le_of_lt (sizeB hl)), bind_okN, fin0_rt, map_fTrue]
/-! all faces -/
noncomputable def fcStep (w : List (List Int)) (x : List (Int × Int) × List (List Int)) (s : Int × Int) : List (Int × Int) × List (List Int) :=
  if s ∈ x.1 then x else (x.1 ++ orbW w s, x.2 ++ [(orbW w s).map Prod.fst])
noncomputable def fcR (w : List (List Int)) : List (List Int) := ((stS w).foldl (fcStep w) ([], [])).2
/-- what is known by then -/
structure FcI (n : Nat) (w : List (List Int)) (i : Nat) (x : List (Int × Int) × List (List Int)) : Prop where
  cl : ∀ s ∈ x.1, bhf w s ∈ x.1
  st : ∀ s ∈ x.1, St n w s
  nd : x.1.Nodup
  all : ∀ s ∈ (stS w).take i, s ∈ x.1
  ne : ∀ f ∈ x.2, f ≠ []
  few : x.2.length ≤ i
theorem FcI.out (g : Gr n w) {i : Nat} {x : List (Int × Int) × List (List Int)} (h : FcI n w i x) (hs : St n w s) (no : s ∉ x.1) : ∀ t ∈ orbW w s, t ∉ x.1 := by
  obtain ⟨k, p, _, e⟩ := orbW_ex g hs
  intro t ht hx
  rw [e] at ht
  obtain ⟨m, hm⟩ := p.back ht
  exact no (hm ▸ closed_it h.cl hx m)
theorem FcI.step (g : Gr n w) {i : Nat} {x : List (Int × Int) × List (List Int)} (h : FcI n w i x) (e : (stS w)[i]? = some s) : FcI n w (i + 1) (fcStep w x s) := by
  have hs : St n w s := (stS_mem g.len).mp (List.mem_of_getElem? e)
  have tk : (stS w).take (i + 1) = (stS w).take i ++ [s] := by rw [List.take_succ, e]; rfl
  unfold fcStep
  by_cases hx : s ∈ x.1
  · rw [if_pos hx]
    refine ⟨h.cl, h.st, h.nd, fun t ht => ?_, h.ne, Nat.le_succ_of_le h.few⟩
    rw [tk] at ht
    rcases List.mem_append.mp ht with m | m
    · exact h.all t m
    · rw [List.mem_singleton.mp m]; exact hx
  · rw [if_neg hx]
    obtain ⟨k, p, _, eo⟩ := orbW_ex g hs
    have out := h.out g hs hx
    have hh : s ∈ orbW w s := by rw [eo]; exact p.head
    refine ⟨fun t ht => ?_, fun t ht => ?_, ?_, fun t ht => ?_, fun f hf => ?_, ?_⟩
    · rcases List.mem_append.mp ht with m | m
      · exact List.mem_append_left _ (h.cl t m)
      · refine List.mem_append_right _ ?_
        rw [eo] at m ⊢
        exact p.st m
    · rcases List.mem_append.mp ht with m | m
      · exact h.st t m
      · exact orbW_st g hs m
    · refine List.nodup_append.mpr ⟨h.nd, by rw [eo]; exact (bh_perm g).orb_nd hs p, fun a ha b hb e => out b hb (e ▸ ha)⟩
    · rw [tk] at ht
      rcases List.mem_append.mp ht with m | m
      · exact List.mem_append_left _ (h.all t m)
      · rw [List.mem_singleton.mp m]; exact List.mem_append_right _ hh
    · rcases List.mem_append.mp hf with m | m
      · exact h.ne f m
      · rw [List.mem_singleton.mp m]
        intro z
        have := List.map_eq_nil_iff.mp z
        rw [this] at hh
        simp at hh
    · show (x.2 ++ _).length ≤ _
      rw [List.length_append, List.length_singleton]
      have := h.few
      omega
theorem fcI_take (g : Gr n w) : ∀ i, i ≤ (stS w).length → FcI n w i (((stS w).take i).foldl (fcStep w) ([], []))
  | 0, _ => by
    rw [List.take_zero]
    exact ⟨fun _ m => absurd m List.not_mem_nil, fun _ m => absurd m List.not_mem_nil, List.nodup_nil, fun _ m => absurd m (by rw [List.take_zero]; exact List.not_mem_nil), fun _ m => absurd m List.not_mem_nil, Nat.le_refl _⟩
  | i + 1, hi => by
    have e : (stS w)[i]? = some (stS w)[i] := List.getElem?_eq_getElem hi
    have := (fcI_take g i (by omega)).step g e
    have tk : (stS w).take (i + 1) = (stS w).take i ++ [(stS w)[i]] := by rw [List.take_succ, e]; rfl
    rw [tk, List.foldl_append]
    exact this
/-- a step that isn't known is the least round its face -/
theorem orbW_least (g : Gr n w) {i : Nat} {x : List (Int × Int) × List (List Int)} (h : FcI n w i x) (e : (stS w)[i]? = some s) (no : s ∉ x.1) : ∃ r, orbW w s = s :: r ∧ (∀ t ∈ r, leP s t) ∧ (s :: r).Nodup := by
  have hs : St n w s := (stS_mem g.len).mp (List.mem_of_getElem? e)
  obtain ⟨k, p, _, eo⟩ := orbW_ex g hs
  have nd := (bh_perm g).orb_nd hs p
  have out := h.out g hs no
  obtain ⟨k', rfl⟩ : ∃ k', k = k' + 1 := ⟨k - 1, by have := p.1; omega⟩
  have e1 : orb (bhf w) s (k' + 1) = s :: (List.range k').map (fun i => it (bhf w) (i + 1) s) := by
    rw [orb, List.range_succ_eq_map, List.map_cons, List.map_map]
    rfl
  refine ⟨_, eo.trans e1, fun t ht => ?_, e1 ▸ nd⟩
  have ht' : t ∈ orbW w s := by rw [eo, e1]; exact List.mem_cons_of_mem _ ht
  have ts : t ∈ stS w := (stS_mem g.len).mpr (orbW_st g hs ht')
  have e2 : stS w = (stS w).take i ++ s :: (stS w).drop (i + 1) := by
    have hi := (List.getElem?_eq_some_iff.mp e)
    obtain ⟨hi, hv⟩ := hi
    have := List.drop_eq_getElem_cons hi
    rw [hv] at this
    rw [← this, List.take_append_drop]
  have so : (stS w).Pairwise leP := srtP_sorted _
  rw [e2] at ts so
  rcases List.mem_append.mp ts with m | m
  · exact absurd (h.all t m) (out t ht')
  · rcases List.mem_cons.mp m with m | m
    · rw [m]
      exact .inr ⟨rfl, Int.le_refl _⟩
    · exact (List.pairwise_cons.mp (List.pairwise_append.mp so).2.1).1 t m
/-! dicts by pairs -/
theorem hasT_iff {β : Type} {k : Int × Int} {d : List ((Int × Int) × β)} : hasT k d = true ↔ k ∈ d.map Prod.fst := by
  unfold hasT
  rw [List.any_eq_true, List.mem_map]
  exact ⟨fun ⟨p, h, e⟩ => ⟨p, h, of_decide_eq_true e⟩, fun ⟨p, h, e⟩ => ⟨p, h, decide_eq_true e⟩⟩
theorem putT_keys {β : Type} {d : List ((Int × Int) × β)} {k : Int × Int} {v : β} (no : k ∉ d.map Prod.fst) : (putT d k v).map Prod.fst = d.map Prod.fst ++ [k] := by
  unfold putT
  rw [if_neg (fun z => no (hasT_iff.mp z)), List.map_append]
  rfl
theorem mergeT_keys {β : Type} : ∀ {m d : List ((Int × Int) × β)}, (d.map Prod.fst ++ m.map Prod.fst).Nodup → (mergeT d m).map Prod.fst = d.map Prod.fst ++ m.map Prod.fst
  | [], d, _ => by simp [mergeT]
  | p :: m, d, h => by
    have h1 : p.1 ∉ d.map Prod.fst := fun z => (List.nodup_append.mp h).2.2 _ z _ (by rw [List.map_cons]; exact List.mem_cons_self) rfl
    have e : mergeT d (p :: m) = mergeT (putT d p.1 p.2) m := by rw [mergeT, List.foldl_cons]; rfl
    rw [e, mergeT_keys, putT_keys h1, List.map_cons, List.append_assoc, List.singleton_append]
    rw [putT_keys h1, List.append_assoc, List.singleton_append]
    exact h
theorem faces_eq (g : Gr n w) (hn : n ≤ 40) : m_faces w = .ok (srtD (eT D.int) (fcR w)) := by
  have gl := g.len
  have hl := stR_len g.toRw0
  have hl2 : n * n ≤ 1600 := Nat.le_trans (Nat.mul_le_mul hn hn) (by decide)
  have ls : (stS w).length = (stR w).length := (srtP_perm _).length_eq
  refine Ok.eq ?_
  unfold m_faces mb_faces
  simp only [DL.bind_assoc, bind_okN, lt_eqN, map_fTrue]
  rw [steps_eq g hn, bind_okN]
  refine Ok.f0 (Ok.bF (Pn := fun x => x.2 = fcR w) (Ok.forR (fun i x => i ≤ (stS w).length ∧ (x.1.map Prod.fst, x.2) = ((stS w).take i).foldl (fcStep w) ([], [])) ⟨Nat.zero_le _, by rw [List.take_zero]; rfl⟩ ?_ ?_) ?_)
  · rintro i s ⟨d, F⟩ e ⟨hi, hx⟩
    have hx : (d.map Prod.fst, F) = ((stS w).take i).foldl (fcStep w) ([], []) := hx
    have I := fcI_take g i hi
    rw [← hx] at I
    have hs : St n w s := (stS_mem gl).mp (List.mem_of_getElem? e)
    have hi2 : i + 1 ≤ (stS w).length := (List.getElem?_eq_some_iff.mp e).1
    have tk : (stS w).take (i + 1) = (stS w).take i ++ [s] := by rw [List.take_succ, e]; rfl
    have fin : ∀ y, y = fcStep w (d.map Prod.fst, F) s → y = ((stS w).take (i + 1)).foldl (fcStep w) ([], []) := fun y hy => by
      rw [tk, List.foldl_append, ← hx, hy]
      rfl
    refine Ok.bF (Pn := fun y => (y.1.map Prod.fst, y.2) = fcStep w (d.map Prod.fst, F) s) (Ok.ite (fun hb => ?_) fun hb => ?_) fun y hy => Ok.nx ⟨hi2, fin _ hy⟩
    · have no : s ∉ d.map Prod.fst := fun z => by
        rw [hasT_iff.mpr z] at hb
        exact absurd hb (by decide)
      obtain ⟨r, e1, e2, e3⟩ := orbW_least g I e no
      have so : ∀ t ∈ s :: r, St n w t := fun t ht => orbW_st g hs (by rw [e1]; exact ht)
      have ol : (s :: r).length ≤ (stR w).length := nodup_leG e3 fun t ht => (stR_mem gl).mpr (so t ht)
      have kk : ((s :: r).map fun x => (x, true)).map Prod.fst = s :: r := by rw [List.map_map]; exact List.map_id _
      have mk : (mergeT [] ((s :: r).map fun x => (x, true))).map Prod.fst = s :: r := by
        rw [mergeT_keys (by rw [kk]; exact e3), kk]
        rfl
      have ml : (mergeT [] ((s :: r).map fun x => (x, true))).length = (s :: r).length := by
        have := congrArg List.length mk
        rw [List.length_map] at this
        exact this
      have nd2 : (d.map Prod.fst ++ (mergeT [] ((s :: r).map fun x => (x, true))).map Prod.fst).Nodup := by
        rw [mk, List.nodup_append]
        exact ⟨I.nd, e3, fun a ha b hb e => I.out g hs no b (by rw [e1]; exact hb) (e ▸ ha)⟩
      have dl : d.length ≤ (stR w).length := by
        have := nodup_leG I.nd fun t ht => (stR_mem gl).mpr (I.st t ht)
        rw [List.length_map] at this
        exact this
      refine Ok.bind1 (round_eq g hn hs) ?_
      rw [e1]
      refine Ok.grdB (Nat.le_of_lt (sizeB (by omega))) (Ok.grdB ⟨.inr ?_, Nat.le_of_lt (sizeB (show d.length + _ ≤ 100000 by omega))⟩ (Ok.bind1 (told_eq e2 (by omega)) (Ok.grdB (sizeB (show F.length ≤ 100000 by have : F.length ≤ i := I.few; omega)) (Ok.nx ?_))))
      · have := kh_nodup (l := s :: r) e3 fun p hp => by
          have h1 := so p hp
          have h2 := h1.two g
          exact ⟨h1.1, by have := h1.2.1; omega, h2.1, by omega⟩
        rw [← mk, List.map_map] at this
        exact this
      · show ((mergeT d _).map Prod.fst, F ++ [(s :: r).map Prod.fst]) = fcStep w (d.map Prod.fst, F) s
        rw [mergeT_keys nd2, mk]
        unfold fcStep
        rw [if_neg no, e1]
    · refine Ok.nx ?_
      have yes : s ∈ d.map Prod.fst := hasT_iff.mp (by simpa using hb)
      show (d.map Prod.fst, F) = fcStep w (d.map Prod.fst, F) s
      unfold fcStep
      rw [if_pos yes]
  · rintro x ⟨_, hx⟩
    rw [List.take_length] at hx
    unfold fcR
    rw [← hx]
  · rintro ⟨d, F⟩ hx
    have hx : F = fcR w := hx
    subst hx
    have I := fcI_take g (stS w).length (Nat.le_refl _)
    rw [List.take_length] at I
    exact Ok.grdB I.ne (Ok.rt rfl)
end

section
variable {n : Nat} {w : List (List Int)} {s : Int × Int}
/-! ties -/
noncomputable def tiW (w : List (List Int)) : List (List Int) := ((stS w).filter fun p => decide (p.1 < p.2)).map fun p => [p.1, p.2]
theorem ties_eq (g : Gr n w) (hn : n ≤ 40) : m_ties w = .ok (tiW w) := by
  have hl := stR_len g.toRw0
  have hl2 : n * n ≤ 1600 := Nat.le_trans (Nat.mul_le_mul hn hn) (by decide)
  have e0 : (enumL w).flatMap (fun x : Int × List Int => (x.2.filter fun q => decide (x.1 < q)).map fun q => [x.1, q]) = ((stR w).filter fun p => decide (p.1 < p.2)).map fun p => [p.1, p.2] := by
    unfold stR
    rw [enum_rng, List.flatMap_map, List.filter_flatMap, List.map_flatMap]
    congr 1
    funext p
    rw [List.filter_map, List.map_map]
    rfl
  unfold m_ties mb_ties
  simp only [bind_okN, lt_eqN, DL.bind_assoc]
  rw [forR_eq (fun s x => s ++ (x.2.filter fun q => decide (x.1 < q)).map fun q => [x.1, q])]
  · simp only [bindF_nx, foldl_app, List.nil_append, e0]
    rw [guard_ok (fun x hx => by obtain ⟨p, _, rfl⟩ := List.mem_map.mp hx; simp), bind_okN, fin0_rt, srtT_pairs, ← srtP_filter]
    rfl
  · intro i x e
    rw [foldl_app, List.nil_append]
    have h1 := take_flat (f := fun x : Int × List Int => (x.2.filter fun q => decide (x.1 < q)).map fun q => [x.1, q]) e
    rw [e0, List.length_map] at h1
    have h2 := List.length_filter_le (fun p : Int × Int => decide (p.1 < p.2)) (stR w)
    have h3 := take_flat (f := fun x : Int × List Int => x.2.map fun q => (x.1, q)) e
    have h4 : (enumL w).flatMap (fun x : Int × List Int => x.2.map fun q => (x.1, q)) = stR w := by
      unfold stR
      rw [enum_rng, List.flatMap_map]
    rw [h4, List.length_map] at h3
    rw [guard_ok (Nat.le_of_lt (sizeB (show x.2.length ≤ 100000 by omega))), bind_okN, guard_ok (Nat.le_of_lt (sizeB (by rw [List.length_map] at h1 ⊢; omega))), bind_okN]
theorem flat_eq (g : Gr n w) (hn : n ≤ 40) : m_is_flat w = .ok (decide (((w.length : Nat) : Int) + ((srtD (eT D.int) (fcR w)).length : Nat) = ((tiW w).length : Nat) + 2)) := by
  unfold m_is_flat mb_is_flat
  simp only [faces_eq g hn, ties_eq g hn, op2_ok, bind_okN, fin0_rt]
end

--#split
/-! ### faces of three places -/
theorem flat_nodup {α β : Type} {f : α → List β} : ∀ {l : List α}, l.Nodup → (∀ x ∈ l, (f x).Nodup) → (∀ x ∈ l, ∀ y ∈ l, ∀ z, z ∈ f x → z ∈ f y → x = y) → (l.flatMap f).Nodup
  | [], _, _, _ => List.nodup_nil
  | x :: l, nd, h1, h2 => by
    obtain ⟨n1, n2⟩ := List.nodup_cons.mp nd
    rw [List.flatMap_cons, List.nodup_append]
    refine ⟨h1 x List.mem_cons_self, flat_nodup n2 (fun y m => h1 y (List.mem_cons_of_mem _ m)) fun a ha b hb => h2 a (List.mem_cons_of_mem _ ha) b (List.mem_cons_of_mem _ hb), fun a ha b hb e => ?_⟩
    obtain ⟨y, hy, hb⟩ := List.mem_flatMap.mp hb
    exact n1 (h2 x List.mem_cons_self y (List.mem_cons_of_mem _ hy) a ha (e ▸ hb) ▸ hy)
theorem len_fil {α : Type} : ∀ (l : List α) (t : α → Bool), l.length = (l.filter t).length + (l.filter fun x => !t x).length
  | [], _ => rfl
  | x :: l, t => by
    have := len_fil l t
    rw [List.filter_cons, List.filter_cons]
    cases t x <;> simp <;> omega
section
variable {n : Nat} {w : List (List Int)} {s : Int × Int}
theorem stR_nd (g : Gr n w) : (stR w).Nodup := by
  unfold stR
  refine flat_nodup (rng_nodup _ _) (fun x hx => ?_) fun x _ y _ z hz hz' => ?_
  · have hx := rng_mem.mp hx
    rw [List.nodup_iff_pairwise_ne, List.pairwise_map]
    refine (List.nodup_iff_pairwise_ne.mp (g.nd x hx.1 (by rw [← g.len]; exact hx.2))).imp fun h e => h ?_
    injection e
  · obtain ⟨a, _, e⟩ := List.mem_map.mp hz
    obtain ⟨b, _, e'⟩ := List.mem_map.mp hz'
    rw [← e'] at e
    injection e
/-- what is known, by the faces found -/
structure FcJ (w : List (List Int)) (n : Nat) (x : List (Int × Int) × List (List Int)) : Prop where
  sum : x.1.length = (x.2.map List.length).sum
  by_ : ∀ s ∈ x.1, ∃ t, St n w t ∧ s ∈ orbW w t ∧ (orbW w t).map Prod.fst ∈ x.2
  of_ : ∀ f ∈ x.2, ∃ t, St n w t ∧ f = (orbW w t).map Prod.fst
theorem fcJ_take (g : Gr n w) : ∀ i, i ≤ (stS w).length → FcJ w n (((stS w).take i).foldl (fcStep w) ([], []))
  | 0, _ => by
    rw [List.take_zero]
    exact ⟨rfl, fun _ m => absurd m List.not_mem_nil, fun _ m => absurd m List.not_mem_nil⟩
  | i + 1, hi => by
    have e : (stS w)[i]? = some (stS w)[i] := List.getElem?_eq_getElem hi
    have J := fcJ_take g i (by omega)
    have tk : (stS w).take (i + 1) = (stS w).take i ++ [(stS w)[i]] := by rw [List.take_succ, e]; rfl
    have hs : St n w (stS w)[i] := (stS_mem g.len).mp (List.getElem_mem hi)
    rw [tk, List.foldl_append, List.foldl_cons, List.foldl_nil]
    generalize ((stS w).take i).foldl (fcStep w) ([], []) = x at *
    unfold fcStep
    split
    · exact J
    · refine ⟨?_, fun s m => ?_, fun f m => ?_⟩
      · rw [List.length_append, List.map_append, List.sum_append, J.sum]
        simp
      · rcases List.mem_append.mp m with m | m
        · obtain ⟨t, h1, h2, h3⟩ := J.by_ s m
          exact ⟨t, h1, h2, List.mem_append_left _ h3⟩
        · exact ⟨_, hs, m, List.mem_append_right _ (List.mem_singleton.mpr rfl)⟩
      · rcases List.mem_append.mp m with m | m
        · exact J.of_ f m
        · exact ⟨_, hs, List.mem_singleton.mp m⟩
theorem fcR_all (g : Gr n w) : ((fcR w).map List.length).sum = (stR w).length ∧ (∀ s, St n w s → ∃ t, St n w t ∧ s ∈ orbW w t ∧ (orbW w t).map Prod.fst ∈ fcR w) ∧ ∀ f ∈ fcR w, ∃ t, St n w t ∧ f = (orbW w t).map Prod.fst := by
  have J := fcJ_take g (stS w).length (Nat.le_refl _)
  have I := fcI_take g (stS w).length (Nat.le_refl _)
  rw [List.take_length] at I J
  have ls : (stS w).length = (stR w).length := (srtP_perm _).length_eq
  have e : ((stS w).foldl (fcStep w) ([], [])).2 = fcR w := rfl
  have al := I.all
  rw [List.take_length] at al
  generalize (stS w).foldl (fcStep w) ([], []) = x at *
  rw [← e]
  refine ⟨?_, fun s hs => J.by_ s (al s ((stS_mem g.len).mpr hs)), J.of_⟩
  rw [← J.sum]
  have h1 := nodup_leG I.nd fun t ht => (stR_mem g.len).mpr (I.st t ht)
  have h2 := nodup_leG (stR_nd g) fun t ht => al t ((stS_mem g.len).mpr ((stR_mem g.len).mp ht))
  omega
/-- each step's third behind it is itself -/
def Thr (n : Nat) (w : List (List Int)) : Prop := ∀ s, St n w s → it (bhf w) 3 s = s
theorem per3 (g : Gr n w) (hs : St n w s) : Per (bhf w) s 3 ↔ it (bhf w) 3 s = s := by
  refine ⟨fun h => h.2.1, fun h => ⟨by decide, h, fun j j0 j1 e => ?_⟩⟩
  have ne : ∀ t, St n w t → bhf w t ≠ t := fun t ht z => by
    have := congrArg Prod.fst z
    exact (ht.two g).2.2.1 this
  have : j = 1 ∨ j = 2 := by omega
  rcases this with rfl | rfl
  · exact ne s hs e
  · have : it (bhf w) 3 s = bhf w s := by rw [it, e]
    rw [this] at h
    exact ne s hs h
theorem thr_faces (g : Gr n w) : Thr n w ↔ ∀ f ∈ fcR w, f.length = 3 := by
  obtain ⟨_, a2, a3⟩ := fcR_all g
  constructor
  · intro h f hf
    obtain ⟨t, ht, e⟩ := a3 f hf
    rw [e, List.length_map, orbW_eq ((per3 g ht).mpr (h t ht)), orb_len]
  · intro h s hs
    obtain ⟨t, ht, m, hf⟩ := a2 s hs
    have l := h _ hf
    obtain ⟨k, p, _, e⟩ := orbW_ex g ht
    rw [List.length_map, e, orb_len] at l
    subst l
    rw [e] at m
    obtain ⟨i, _, em⟩ := orb_mem.mp m
    rw [← em, ← it_add, Nat.add_comm, it_add, p.2.1]
theorem thr_count (g : Gr n w) (h : Thr n w) : 3 * (fcR w).length = (stR w).length := by
  have a1 := (fcR_all g).1
  rw [← a1]
  have all := (thr_faces g).mp h
  generalize fcR w = l at *
  clear a1
  induction l with
  | nil => rfl
  | cons f l ih =>
    rw [List.map_cons, List.sum_cons, List.length_cons, all f List.mem_cons_self, ← ih fun y m => all y (List.mem_cons_of_mem _ m)]
    omega
theorem tiW_len (g : Gr n w) : 2 * (tiW w).length = (stR w).length := by
  have e1 : (tiW w).length = ((stR w).filter fun p => decide (p.1 < p.2)).length := by
    unfold tiW stS
    rw [List.length_map, srtP_filter]
    exact (srtP_perm _).length_eq
  have e2 : ((stR w).filter fun p => !decide (p.1 < p.2)).length = ((stR w).filter fun p => decide (p.1 < p.2)).length := by
    have sw : ∀ {p : Int × Int}, p ∈ stR w → (p.2, p.1) ∈ stR w := fun {p} h => by
      have h := (stR_mem g.len).mp h
      have t := h.two g
      exact (stR_mem g.len).mpr ⟨t.1, t.2.1, t.2.2.2⟩
    have ne : ∀ {p : Int × Int}, p ∈ stR w → p.2 ≠ p.1 := fun {p} h => (((stR_mem g.len).mp h).two g).2.2.1
    have sn : ∀ (t : Int × Int → Bool), (((stR w).filter t).map fun p => (p.2, p.1)).Nodup := fun t => by
      rw [List.nodup_iff_pairwise_ne, List.pairwise_map]
      refine (List.nodup_iff_pairwise_ne.mp ((stR_nd g).filter t)).imp fun h e => h ?_
      injection e with e1 e2
      exact Prod.ext e2 e1
    have h1 := nodup_leG (sn fun p => !decide (p.1 < p.2)) (m := (stR w).filter fun p => decide (p.1 < p.2)) fun x hx => by
      obtain ⟨p, hp, rfl⟩ := List.mem_map.mp hx
      obtain ⟨m, hp⟩ := List.mem_filter.mp hp
      refine List.mem_filter.mpr ⟨sw m, ?_⟩
      have := ne m
      simp at hp ⊢
      omega
    have h2 := nodup_leG (sn fun p => decide (p.1 < p.2)) (m := (stR w).filter fun p => !decide (p.1 < p.2)) fun x hx => by
      obtain ⟨p, hp, rfl⟩ := List.mem_map.mp hx
      obtain ⟨m, hp⟩ := List.mem_filter.mp hp
      refine List.mem_filter.mpr ⟨sw m, ?_⟩
      have := ne m
      simp at hp ⊢
      omega
    rw [List.length_map] at h1 h2
    omega
  have e3 := len_fil (stR w) fun p => decide (p.1 < p.2)
  omega
theorem srtT_mem {l : List (List Int)} {f : List Int} : f ∈ srtD (eT D.int) l ↔ f ∈ l := List.mem_mergeSort
theorem srtT_len (l : List (List Int)) : (srtD (eT D.int) l).length = l.length := List.length_mergeSort _
theorem third2 (g : Gr n w) : (∀ s, St n w s → (it (bhf w) 2 s).2 = s.1) ↔ Thr n w := by
  constructor
  · intro h s hs
    have h1 := h s hs
    have h2 := h (bhf w s) ((bh_perm g).st _ hs)
    have e : it (bhf w) 2 (bhf w s) = it (bhf w) 3 s := rfl
    rw [e] at h2
    exact Prod.ext h1 h2
  · intro h s hs
    have := congrArg Prod.fst (h s hs)
    exact this
end

/-! ### how many steps -/
section
variable {n : Nat} {rows rows' : List (List Int)} {part : List Int}
theorem nodup_len {α : Type} [DecidableEq α] {l m : List α} (h1 : l.Nodup) (h2 : m.Nodup) (h : ∀ x, x ∈ l ↔ x ∈ m) : l.length = m.length :=
  Nat.le_antisymm (nodup_leG h1 fun x hx => (h x).mp hx) (nodup_leG h2 fun x hx => (h x).mpr hx)
theorem nodup_mapG {α β : Type} {f : α → β} {l : List α} (h : l.Nodup) (inj : ∀ x ∈ l, ∀ y ∈ l, f x = f y → x = y) : (l.map f).Nodup := by
  rw [List.nodup_iff_pairwise_ne, List.pairwise_map]
  exact List.Pairwise.imp_of_mem (fun {a b} ha hb ne e => ne (inj a ha b hb e)) (List.nodup_iff_pairwise_ne.mp h)
theorem Put.stR (P : Put n rows part rows') (hp : 2 ≤ part.length) (g : Gr n rows) (nd : part.Nodup) (rg : ∀ x ∈ part, 0 ≤ x ∧ x < (n : Int)) : (stR rows').length = (stR rows).length + 2 * part.length := by
  have g' := P.gr hp g nd rg
  have e := nodup_len (stR_nd g') (m := W.stR rows ++ (part.map (fun x => (x, (n : Int))) ++ part.map fun x => ((n : Int), x))) ?_ ?_
  · rw [e, List.length_append, List.length_append, List.length_map, List.length_map]
    omega
  · rw [List.nodup_append, List.nodup_append]
    have st : ∀ {s : Int × Int}, s ∈ W.stR rows → s.1 < n ∧ s.2 < n := fun {s} h => by
      have h := (stR_mem g.len).mp h
      exact ⟨h.2.1, (h.two g).2.1⟩
    refine ⟨stR_nd g, ⟨nodup_mapG nd fun x _ y _ e => by injection e, nodup_mapG nd fun x _ y _ e => by injection e, fun a ha b hb e => ?_⟩, fun a ha b hb e => ?_⟩
    · obtain ⟨x, hx, rfl⟩ := List.mem_map.mp ha
      obtain ⟨y, hy, rfl⟩ := List.mem_map.mp hb
      injection e with e1 e2
      have := rg x hx
      omega
    · have h := st ha
      rw [e] at h
      rcases List.mem_append.mp hb with m | m
      · obtain ⟨x, hx, rfl⟩ := List.mem_map.mp m
        have h2 : (n : Int) < n := h.2
        omega
      · obtain ⟨x, hx, rfl⟩ := List.mem_map.mp m
        have h2 : (n : Int) < n := h.1
        omega
  · rintro ⟨p, q⟩
    rw [stR_mem g'.len, List.mem_append, List.mem_append, stR_mem g.len, List.mem_map, List.mem_map]
    unfold St
    simp only
    constructor
    · rintro ⟨p0, p1, hq⟩
      by_cases e : p = n
      · subst e
        rw [P.new] at hq
        exact .inr (.inr ⟨q, hq, rfl⟩)
      · by_cases m : p ∈ part
        · rcases (P.mem hp m).mp hq with e2 | hq
          · exact .inr (.inl ⟨p, m, by rw [e2]⟩)
          · exact .inl ⟨p0, by omega, hq⟩
        · rw [P.out p p0 (by omega) m] at hq
          exact .inl ⟨p0, by omega, hq⟩
    · rintro (⟨p0, p1, hq⟩ | ⟨x, hx, e⟩ | ⟨x, hx, e⟩)
      · refine ⟨p0, by omega, ?_⟩
        by_cases m : p ∈ part
        · exact (P.mem hp m).mpr (.inr hq)
        · rw [P.out p p0 p1 m]; exact hq
      · injection e with e1 e2
        subst e1
        subst e2
        have := rg x hx
        exact ⟨this.1, by omega, (P.mem hp hx).mpr (.inl rfl)⟩
      · injection e with e1 e2
        subst e1
        subst e2
        exact ⟨by omega, by omega, by rw [P.new]; exact hx⟩
end
theorem Grw.deg {n : Nat} {rows told parts : List (List Int)} (h : Grw n rows told parts) : ∀ told0 row, told = told0 ++ [row] → (stR rows).length + 2 * row.length + 6 = 6 * n := by
  induction h with
  | base =>
    intro told0 row e
    have e := List.append_inj' (s₁ := []) (t₁ := [[0, 1]]) e rfl
    have e2 := e.2
    injection e2 with e2 _
    subst e2
    rfl
  | @step n rows told parts u part t rows' s0 sk h hp h0 hk P ih =>
    intro told0 row e
    have e := List.append_inj' e rfl
    have e2 := e.2
    injection e2 with e2 _
    subst e2
    have ih := ih told _ rfl
    obtain ⟨_, row, er, I, _, _⟩ := h.all
    have er := List.append_inj' er rfl
    have er2 := er.2
    injection er2 with er2 _
    subst er2
    have prg : ∀ x ∈ part, 0 ≤ x ∧ x < (n : Int) := fun x hx => I.r.rg x (by simp [hx])
    have pnd : part.Nodup := List.Sublist.nodup ((List.sublist_append_right u part).trans (List.sublist_append_left _ t)) I.r.nd
    rw [P.stR hp I.g pnd prg]
    simp only [List.length_append, List.length_cons, List.length_nil] at ih ⊢
    omega
/-- in the web by other names there are as many steps -/
theorem Ren.stR {n : Nat} {rows web : List (List Int)} {nm : List Int} (g : Gr n rows) (gw : Gr n web) (gm : Nms n nm) (h : Ren n rows nm web) : (stR web).length = (stR rows).length := by
  have e := nodup_len (stR_nd gw) (m := (W.stR rows).map fun s => (nmf nm s.1, nmf nm s.2)) ?_ ?_
  · rw [e, List.length_map]
  · refine nodup_mapG (stR_nd g) fun x hx y hy e => ?_
    have hx := (stR_mem g.len).mp hx
    have hy := (stR_mem g.len).mp hy
    have tx := hx.two g
    have ty := hy.two g
    injection e with e1 e2
    exact Prod.ext (gm.inj hx.1 hx.2.1 hy.1 hy.2.1 e1) (gm.inj tx.1 tx.2.1 ty.1 ty.2.1 e2)
  · rintro ⟨p, q⟩
    rw [stR_mem gw.len, List.mem_map]
    constructor
    · rintro ⟨p0, p1, hq⟩
      obtain ⟨x, x0, x1, ex⟩ := gm.sur (a := p) p0 p1
      have hq : q ∈ N web p := hq
      rw [← ex] at hq
      obtain ⟨y, hy, ey⟩ := (h.mem x0 x1).mp hq
      exact ⟨(x, y), (stR_mem g.len).mpr ⟨x0, x1, hy⟩, by show (nmf nm x, nmf nm y) = (p, q); rw [ex, ey]⟩
    · rintro ⟨⟨x, y⟩, hs, e⟩
      injection e with e1 e2
      obtain ⟨x0, x1, hy⟩ := (stR_mem g.len).mp hs
      have r := gm.rg x0 x1
      subst e1
      subst e2
      exact ⟨r.1, r.2, (h.mem x0 x1).mpr ⟨y, hy, rfl⟩⟩

--#split
/-! ### faces of webs put together place by place -/
/-- nothing more comes between a and b in the row of p -/
def Cl (row : List Int) (p a b : Int) : Prop := ¬ (Nx row b p ∧ Nx row p a)
/-- the round ahead and behind, turned -/
theorem round_split {u part t : List Int} {s0 sk : Int} {v : Int} (hp : 2 ≤ part.length) (h0 : part[0]? = some s0) (hk : part[part.length - 1]? = some sk) : ∃ m, part = s0 :: (m ++ [sk]) ∧
    (∀ a b, Nx (u ++ part ++ t) a b ↔ Lin part a b ∨ Lin (sk :: (t ++ u) ++ [s0]) a b) ∧
    (∀ a b, Nx (u ++ [s0] ++ [v] ++ sk :: t) a b ↔ (a = s0 ∧ b = v) ∨ (a = v ∧ b = sk) ∨ Lin (sk :: (t ++ u) ++ [s0]) a b) := by
  obtain ⟨m, em⟩ : ∃ m, part = s0 :: (m ++ [sk]) := by
    cases part with
    | nil => simp at hp
    | cons a l =>
      injection h0 with h0
      subst h0
      have : l ≠ [] := fun z => by rw [z] at hp; simp at hp
      refine ⟨l.dropLast, ?_⟩
      have e := List.dropLast_concat_getLast this
      have e2 : l.getLast this = sk := by
        rw [List.length_cons, Nat.add_sub_cancel] at hk
        rw [List.getLast_eq_getElem]
        have : (a :: l)[l.length]? = l[l.length - 1]? := by
          obtain ⟨k, hk⟩ : ∃ k, l.length = k + 1 := ⟨l.length - 1, by have := List.length_pos_iff.mpr this; omega⟩
          rw [hk]
          rfl
        rw [this] at hk
        obtain ⟨_, h⟩ := List.getElem?_eq_some_iff.mp hk
        exact h
      rw [e2] at e
      rw [e]
  refine ⟨m, em, fun a b => ?_, fun a b => ?_⟩
  · rw [List.append_assoc, nx_rot, em]
    rw [show (s0 :: (m ++ [sk]) ++ t ++ u) = s0 :: (m ++ sk :: (t ++ u)) by simp]
    rw [Nx]
    rw [show s0 :: (m ++ sk :: (t ++ u)) ++ [s0] = (s0 :: m) ++ sk :: (t ++ u ++ [s0]) by simp]
    rw [lin_append]
    rfl
  · rw [show u ++ [s0] ++ [v] ++ sk :: t = u ++ (s0 :: v :: sk :: t) by simp, nx_rot]
    rw [show (s0 :: v :: sk :: t) ++ u = s0 :: v :: sk :: (t ++ u) by simp, Nx]
    rw [show s0 :: v :: sk :: (t ++ u) ++ [s0] = s0 :: (v :: (sk :: (t ++ u ++ [s0]))) by simp, lin_cons, lin_cons]
    simp only [List.head?_cons, Option.some.injEq]
    rw [show sk :: (t ++ u) ++ [s0] = sk :: (t ++ u ++ [s0]) by simp]
    constructor
    · rintro (⟨h, k⟩ | ⟨h, k⟩ | h)
      · exact .inl ⟨h, k.symm⟩
      · exact .inr (.inl ⟨h, k.symm⟩)
      · exact .inr (.inr h)
    · rintro (⟨h, k⟩ | ⟨h, k⟩ | h)
      · exact .inl ⟨h, k.symm⟩
      · exact .inr (.inl ⟨h, k.symm⟩)
      · exact .inr (.inr h)
theorem lin_ix {a b : Int} : ∀ {l : List Int}, Lin l a b → ∃ i, l[i]? = some a ∧ l[i + 1]? = some b
  | [], h => by simp [Lin] at h
  | x :: l, h => by
    rw [lin_cons] at h
    rcases h with ⟨h1, h2⟩ | h
    · refine ⟨0, by rw [h1]; rfl, ?_⟩
      rw [List.head?_eq_getElem?] at h2
      exact h2
    · obtain ⟨i, h1, h2⟩ := lin_ix h
      exact ⟨i + 1, h1, h2⟩
section
variable {n : Nat} {rows rows' : List (List Int)} {u part t : List Int} {s0 sk : Int}
/-- all of one step of putting -/
structure Stp (n : Nat) (rows rows' : List (List Int)) (u part t : List Int) (s0 sk : Int) : Prop where
  I : GrwI n rows (u ++ part ++ t)
  hp : 2 ≤ part.length
  h0 : part[0]? = some s0
  hk : part[part.length - 1]? = some sk
  P : Put n rows part rows'
variable (S : Stp n rows rows' u part t s0 sk)
include S
theorem Stp.prg : ∀ x ∈ part, 0 ≤ x ∧ x < (n : Int) := fun x hx => S.I.r.rg x (by simp [hx])
theorem Stp.pnd : part.Nodup := List.Sublist.nodup ((List.sublist_append_right u part).trans (List.sublist_append_left _ t)) S.I.r.nd
theorem Stp.nn {x : Int} (x0 : 0 ≤ x) (x1 : x < n) : (n : Int) ∉ N rows x := fun z => by have := S.I.g.rg x x0 x1 _ z; omega
/-- neighbours of the new round that are old were so -/
theorem Stp.oldp {a b : Int} (ha : a ≠ n) (hb : b ≠ n) (h : Nx (u ++ [s0] ++ [(n : Int)] ++ sk :: t) a b) : Nx (u ++ part ++ t) a b ∧ ¬ Lin part a b := by
  obtain ⟨m, em, o, nw⟩ := round_split (u := u) (t := t) (v := (n : Int)) S.hp S.h0 S.hk
  rcases (nw a b).mp h with ⟨_, e⟩ | ⟨e, _⟩ | h
  · exact absurd e hb
  · exact absurd e ha
  · refine ⟨(o a b).mpr (.inr h), fun l => ?_⟩
    have nd : (s0 :: (m ++ sk :: (t ++ u))).Nodup := by
      have : (u ++ (part ++ t)).Nodup := by rw [← List.append_assoc]; exact S.I.r.nd
      have := nodup_rot this
      rw [em] at this
      simpa using this
    obtain ⟨d1, d2⟩ := List.nodup_cons.mp nd
    obtain ⟨d3, d4, d5⟩ := List.nodup_append.mp d2
    have h1 := lin_left h
    have h2 : a ∈ s0 :: m := by
      rw [em, show s0 :: (m ++ [sk]) = (s0 :: m) ++ [sk] by simp] at l
      exact lin_left l
    rcases List.mem_cons.mp h2 with e | h2
    · rw [e] at h1
      exact d1 (List.mem_append_right _ h1)
    · exact d5 _ h2 _ h1 rfl
/-- what is closed stays -/
theorem Stp.keep {p a b : Int} (p0 : 0 ≤ p) (p1 : p < n) (h : Nx (N rows p) a b) (c : Cl (u ++ part ++ t) p a b) : Nx (N rows' p) a b ∧ Cl (u ++ [s0] ++ [(n : Int)] ++ sk :: t) p a b := by
  have ra := S.I.g.rg p p0 p1 a (nx_mem h).1
  have rb := S.I.g.rg p p0 p1 b (nx_mem h).2
  refine ⟨?_, fun ⟨h1, h2⟩ => c ⟨(S.oldp (by omega) (by omega) h1).1, (S.oldp (by omega) (by omega) h2).1⟩⟩
  by_cases m : p ∈ part
  · have nd := S.I.g.nd p p0 p1
    have ni := S.nn p0 p1
    obtain ⟨i, hi⟩ := List.mem_iff_getElem?.mp m
    have il := (List.getElem?_eq_some_iff.mp hi).1
    have on : ∀ {x y : Int} {j : Nat}, part[j]? = some x → part[j + 1]? = some y → Nx (u ++ part ++ t) x y := fun hx hy => by
      obtain ⟨_, _, o, _⟩ := round_split (u := u) (t := t) (v := (n : Int)) S.hp S.h0 S.hk
      exact (o _ _).mpr (.inl (lin_get hx hy))
    by_cases hl : i + 1 < part.length
    · have hy := List.getElem?_eq_getElem hl
      obtain ⟨c1, d1, e1, e2⟩ := S.P.mid i p _ hi hy
      have nx1 := on hi hy
      obtain ⟨z, hz⟩ := nx_pre (nx_mem nx1).1
      have o3 := S.I.r.nx _ _ _ hz nx1
      rw [e1] at nd ni
      rw [e2, nx_ins nd ni]
      by_cases ea : a = part[i + 1]
      · exfalso
        have : b = z := by
          rw [ea] at h
          exact nx_fun (S.I.g.nd p p0 p1) h o3
        exact c ⟨this ▸ hz, ea ▸ nx1⟩
      · rw [← e1]
        exact .inr (.inr ⟨ea, h⟩)
    · have ei : i = part.length - 1 := by omega
      subst ei
      have hj : part[part.length - 2]? = some part[part.length - 2] := List.getElem?_eq_getElem (by have := S.hp; omega)
      obtain ⟨c1, d1, e1, e2⟩ := S.P.lst p _ hi hj
      have nx1 := on hj (show part[part.length - 2 + 1]? = some p by rw [show part.length - 2 + 1 = part.length - 1 by have := S.hp; omega]; exact hi)
      obtain ⟨z, hz⟩ := nx_ex (nx_mem nx1).2
      have o3 := S.I.r.nx _ _ _ nx1 hz
      rw [e1] at nd ni
      rw [e2, nx_insB nd ni]
      by_cases eb : b = part[part.length - 2]
      · exfalso
        have : a = z := by
          rw [eb] at h
          exact nx_inj (S.I.g.nd p p0 p1) h o3
        exact c ⟨eb ▸ nx1, this ▸ hz⟩
      · rw [← e1]
        exact .inr (.inr ⟨eb, h⟩)
  · rw [S.P.out p p0 p1 m]
    exact h
/-- the three corners of a new face -/
theorem Stp.face {i : Nat} {x y : Int} (hx : part[i]? = some x) (hy : part[i + 1]? = some y) :
    (Nx (N rows' y) n x ∧ Cl (u ++ [s0] ++ [(n : Int)] ++ sk :: t) y n x) ∧ (Nx (N rows' n) x y ∧ Cl (u ++ [s0] ++ [(n : Int)] ++ sk :: t) n x y) ∧ (Nx (N rows' x) y n ∧ Cl (u ++ [s0] ++ [(n : Int)] ++ sk :: t) x y n) := by
  have rx := S.prg x (List.mem_of_getElem? hx)
  have ry := S.prg y (List.mem_of_getElem? hy)
  have lp : Lin part x y := lin_get hx hy
  have no : ¬ Nx (u ++ [s0] ++ [(n : Int)] ++ sk :: t) x y := fun h => (S.oldp (by omega) (by omega) h).2 lp
  obtain ⟨m, em, o, nw⟩ := round_split (u := u) (t := t) (v := (n : Int)) S.hp S.h0 S.hk
  have on : ∀ {x y : Int} {j : Nat}, part[j]? = some x → part[j + 1]? = some y → Nx (u ++ part ++ t) x y := fun hx hy => (o _ _).mpr (.inl (lin_get hx hy))
  have yl := (List.getElem?_eq_some_iff.mp hy).1
  refine ⟨⟨?_, fun ⟨h, _⟩ => no h⟩, ⟨?_, fun ⟨h1, h2⟩ => ?_⟩, ⟨?_, fun ⟨_, h⟩ => no h⟩⟩
  · have nd := S.I.g.nd y ry.1 ry.2
    have ni := S.nn ry.1 ry.2
    by_cases hl : i + 1 + 1 < part.length
    · have hz := List.getElem?_eq_getElem hl
      obtain ⟨c1, d1, e1, e2⟩ := S.P.mid (i + 1) y _ hy hz
      have o3 := S.I.r.nx _ _ _ (on hx hy) (on hy hz)
      rw [e1] at nd ni o3
      rw [e2, nx_ins nd ni]
      exact .inr (.inl ⟨rfl, o3⟩)
    · have e : i + 1 = part.length - 1 := by omega
      obtain ⟨c1, d1, e1, e2⟩ := S.P.lst y x (by rw [← e]; exact hy) (by rw [show part.length - 2 = i by omega]; exact hx)
      rw [e1] at nd ni
      rw [e2, nx_insB nd ni]
      exact .inl ⟨rfl, rfl⟩
  · rw [S.P.new]
    exact nx_of_lin lp
  · -- the one behind n is sk
    rcases (nw n x).mp h2 with ⟨e, _⟩ | ⟨_, e⟩ | h
    · have := S.prg s0 (List.mem_of_getElem? S.h0)
      omega
    · have := get_inj S.pnd hx (by rw [e]; exact S.hk)
      omega
    · have h1 := lin_left h
      have rg : ∀ z ∈ sk :: (t ++ u), 0 ≤ z ∧ z < (n : Int) := fun z hz => by
        rcases List.mem_cons.mp hz with e | hz
        · rw [e]; exact S.prg sk (List.mem_of_getElem? S.hk)
        · exact S.I.r.rg z (by simp at hz ⊢; grind)
      have := rg _ h1
      omega
  · have nd := S.I.g.nd x rx.1 rx.2
    have ni := S.nn rx.1 rx.2
    obtain ⟨c1, d1, e1, e2⟩ := S.P.mid i x y hx hy
    rw [e1] at nd ni
    rw [e2, nx_ins nd ni]
    exact .inl ⟨rfl, rfl⟩
end
/-- (p, q) goes round a face of three that is closed -/
def Tri3 (rows : List (List Int)) (row : List Int) (p q : Int) : Prop := ∃ r, (Nx (N rows q) r p ∧ Cl row q r p) ∧ (Nx (N rows r) p q ∧ Cl row r p q) ∧ (Nx (N rows p) q r ∧ Cl row p q r)
theorem Grw.stp {n : Nat} {rows told parts : List (List Int)} {u part t : List Int} {rows' : List (List Int)} {s0 sk : Int} (h : Grw n rows (told ++ [u ++ part ++ t]) parts) (hp : 2 ≤ part.length) (h0 : part[0]? = some s0) (hk : part[part.length - 1]? = some sk) (P : Put n rows part rows') : Stp n rows rows' u part t s0 sk := by
  obtain ⟨_, row, er, I, _, _⟩ := h.all
  have er := (List.append_inj' er rfl).2
  injection er with er _
  subst er
  exact ⟨I, hp, h0, hk, P⟩
/-- each step: round the outer face, or a closed one of three -/
theorem Grw.tri {n : Nat} {rows told parts : List (List Int)} (h : Grw n rows told parts) : ∀ told0 row, told = told0 ++ [row] → ∀ p q, St n rows (p, q) → Nx row p q ∨ Tri3 rows row p q := by
  induction h with
  | base =>
    intro told0 row e
    have e2 := (List.append_inj' (s₁ := []) (t₁ := [[0, 1]]) e rfl).2
    injection e2 with e2 _
    subst e2
    rintro p q ⟨p0, p1, hq⟩
    have p0 : 0 ≤ p := p0
    have p1 : p < ((2 : Nat) : Int) := p1
    have hq : q ∈ N [[1], [0]] p := hq
    refine .inl ?_
    have : p = 0 ∨ p = 1 := by omega
    rcases this with rfl | rfl
    · rw [show N [[1], [0]] 0 = [1] from rfl, List.mem_singleton] at hq
      rw [hq, Nx]
      simp [lin_cons]
    · rw [show N [[1], [0]] 1 = [0] from rfl, List.mem_singleton] at hq
      rw [hq, Nx]
      simp [lin_cons]
  | @step n rows told parts u part t rows' s0 sk h hp h0 hk P ih =>
    intro told0 row e
    have e2 := (List.append_inj' e rfl).2
    injection e2 with e2 _
    subst e2
    have S := h.stp hp h0 hk P
    have ih := ih told _ rfl
    obtain ⟨m, em, o, nw⟩ := round_split (u := u) (t := t) (v := (n : Int)) hp h0 hk
    have keep : ∀ p q, St n rows (p, q) → Tri3 rows (u ++ part ++ t) p q → Tri3 rows' (u ++ [s0] ++ [(n : Int)] ++ sk :: t) p q := fun p q hs ⟨r, a, b, c⟩ => by
      have h2 := hs.two S.I.g
      have rr := S.I.g.rg q h2.1 h2.2.1 r (nx_mem a.1).1
      exact ⟨r, S.keep h2.1 h2.2.1 a.1 a.2, S.keep rr.1 rr.2.1 b.1 b.2, S.keep hs.1 hs.2.1 c.1 c.2⟩
    have old : ∀ p q, St n rows (p, q) → Nx (u ++ [s0] ++ [(n : Int)] ++ sk :: t) p q ∨ Tri3 rows' (u ++ [s0] ++ [(n : Int)] ++ sk :: t) p q := fun p q hs => by
      rcases ih p q hs with h1 | h1
      · rcases (o p q).mp h1 with l | l
        · obtain ⟨i, hx, hy⟩ := lin_ix l
          obtain ⟨f1, f2, f3⟩ := S.face hx hy
          exact .inr ⟨n, f1, f2, f3⟩
        · exact .inl ((nw p q).mpr (.inr (.inr l)))
      · exact .inr (keep p q hs h1)
    rintro p q ⟨p0, p1, hq⟩
    have p0 : 0 ≤ p := p0
    have p1 : p < ((n + 1 : Nat) : Int) := p1
    have hq : q ∈ N rows' p := hq
    by_cases e : p = n
    · subst e
      rw [P.new] at hq
      obtain ⟨i, hi⟩ := List.mem_iff_getElem?.mp hq
      by_cases hl : i + 1 < part.length
      · obtain ⟨f1, f2, f3⟩ := S.face hi (List.getElem?_eq_getElem hl)
        exact .inr ⟨_, f3, f1, f2⟩
      · have il := (List.getElem?_eq_some_iff.mp hi).1
        have : q = sk := by
          rw [show i = part.length - 1 by omega, hk] at hi
          injection hi with hi
          exact hi.symm
        exact .inl ((nw _ _).mpr (.inr (.inl ⟨rfl, this⟩)))
    · have oldq : q ∈ N rows p → _ := fun hq => old p q ⟨p0, show p < n by omega, hq⟩
      by_cases m : p ∈ part
      · rcases (P.mem hp m).mp hq with eq | hq
        · subst eq
          obtain ⟨i, hi⟩ := List.mem_iff_getElem?.mp m
          by_cases h0i : i = 0
          · subst h0i
            rw [h0] at hi
            injection hi with hi
            exact .inl ((nw _ _).mpr (.inl ⟨hi.symm, rfl⟩))
          · obtain ⟨j, rfl⟩ : ∃ j, i = j + 1 := ⟨i - 1, by omega⟩
            have il := (List.getElem?_eq_some_iff.mp hi).1
            obtain ⟨f1, f2, f3⟩ := S.face (List.getElem?_eq_getElem (show j < part.length by omega)) hi
            exact .inr ⟨_, f2, f3, f1⟩
        · exact oldq hq
      · rw [P.out p p0 (by omega) m] at hq
        exact oldq hq
/-- what the parts are in the end -/
theorem Grw.parts {n : Nat} {rows told parts : List (List Int)} (h : Grw n rows told parts) : ∀ (j : Nat) part, parts[j]? = some part → (∀ (i : Nat) (x y : Int), part[i]? = some x → part[i + 1]? = some y → St n rows (x, y) ∧ Nx (N rows y) ((j + 2 : Nat) : Int) x) ∧ (∀ q, q ∈ part ↔ q ∈ N rows ((j + 2 : Nat) : Int) ∧ q < ((j + 2 : Nat) : Int)) := by
  have key : ∀ (j : Nat) part, parts[j]? = some part → (∀ told0 row, told = told0 ++ [row] → ∀ (i : Nat) (x y : Int), part[i]? = some x → part[i + 1]? = some y → St n rows (x, y) ∧ Nx (N rows y) ((j + 2 : Nat) : Int) x ∧ Cl row y ((j + 2 : Nat) : Int) x) ∧ (∀ q, q ∈ part ↔ q ∈ N rows ((j + 2 : Nat) : Int) ∧ q < ((j + 2 : Nat) : Int)) := by
    induction h with
    | base => intro j part e; simp at e
    | @step n rows told parts u part t rows' s0 sk h hp h0 hk P ih =>
      have S := h.stp hp h0 hk P
      have g' := P.gr hp S.I.g S.pnd S.prg
      obtain ⟨_, _, _, _, _, l2⟩ := h.all
      have st : ∀ {x y : Int}, St n rows (x, y) → St (n + 1) rows' (x, y) := fun {x y} hs => by
        obtain ⟨x0, x1, hy⟩ := hs
        have x1 : x < n := x1
        refine ⟨x0, by show x < ((n + 1 : Nat) : Int); omega, ?_⟩
        by_cases m : x ∈ part
        · exact (P.mem hp m).mpr (.inr hy)
        · show y ∈ N rows' x
          rw [P.out x x0 x1 m]; exact hy
      intro j pj ej
      by_cases hj : j < parts.length
      · rw [List.getElem?_append_left hj] at ej
        obtain ⟨k1, k2⟩ := ih j pj ej
        refine ⟨fun told0 row e i x y hx hy => ?_, fun q => ?_⟩
        · have e2 := (List.append_inj' e rfl).2
          injection e2 with e2 _
          subst e2
          obtain ⟨a1, a2, a3⟩ := k1 told _ rfl i x y hx hy
          have t2 := a1.two S.I.g
          obtain ⟨b1, b2⟩ := S.keep t2.1 t2.2.1 a2 a3
          exact ⟨st a1, b1, b2⟩
        · rw [k2]
          by_cases m : ((j + 2 : Nat) : Int) ∈ part
          · rw [P.mem hp m]
            constructor
            · exact fun h => ⟨.inr h.1, h.2⟩
            · rintro ⟨h | h, k⟩
              · omega
              · exact ⟨h, k⟩
          · rw [P.out _ (by omega) (by omega) m]
      · have jl := (List.getElem?_eq_some_iff.mp ej).1
        rw [List.length_append, List.length_singleton] at jl
        have ej2 : j = parts.length := by omega
        subst ej2
        rw [List.getElem?_append_right (Nat.le_refl _), Nat.sub_self] at ej
        injection ej with ej
        subst ej
        have en : ((parts.length + 2 : Nat) : Int) = n := by omega
        rw [en]
        refine ⟨fun told0 row e i x y hx hy => ?_, fun q => ?_⟩
        · have e2 := (List.append_inj' e rfl).2
          injection e2 with e2 _
          subst e2
          obtain ⟨f1, f2, f3⟩ := S.face hx hy
          have rx := S.prg x (List.mem_of_getElem? hx)
          exact ⟨⟨rx.1, by show x < ((n + 1 : Nat) : Int); omega, (nx_mem f3.1).1⟩, f1.1, f1.2⟩
        · rw [P.new]
          exact ⟨fun h => ⟨h, (S.prg q h).2⟩, fun h => h.1⟩
  obtain ⟨told0, row, et, _, _, _⟩ := h.all
  intro j part ej
  obtain ⟨k1, k2⟩ := key j part ej
  exact ⟨fun i x y hx hy => by
    obtain ⟨a, b, _⟩ := k1 told0 row et i x y hx hy
    exact ⟨a, b⟩, k2⟩
/-- in the end all faces have three places -/
theorem Grw.thr {n : Nat} {rows told parts : List (List Int)} (h : Grw n rows told parts) {told0 : List (List Int)} {c : Int} (e : told = told0 ++ [[0, c, 1]]) : Thr n rows ∧ St n rows (0, c) ∧ Nx (N rows c) 1 0 := by
  obtain ⟨_, row, er, I, _, _⟩ := h.all
  rw [e] at er
  have er := (List.append_inj' er rfl).2
  injection er with er _
  subst er
  have nx : ∀ a b, Nx [0, c, 1] a b ↔ (a = 0 ∧ b = c) ∨ (a = c ∧ b = 1) ∨ (a = 1 ∧ b = 0) := fun a b => by
    rw [Nx]
    simp only [List.cons_append, List.nil_append, lin_cons, List.head?_cons, Option.some.injEq, List.head?_nil, Lin]
    grind
  have b1 : Nx (N rows c) 1 0 := I.r.nx c 1 0 ((nx _ _).mpr (.inl ⟨rfl, rfl⟩)) ((nx _ _).mpr (.inr (.inl ⟨rfl, rfl⟩)))
  have b2 : Nx (N rows 1) 0 c := I.r.nx 1 0 c ((nx _ _).mpr (.inr (.inl ⟨rfl, rfl⟩))) ((nx _ _).mpr (.inr (.inr ⟨rfl, rfl⟩)))
  have b3 : Nx (N rows 0) c 1 := I.r.nx 0 c 1 ((nx _ _).mpr (.inr (.inr ⟨rfl, rfl⟩))) ((nx _ _).mpr (.inl ⟨rfl, rfl⟩))
  have rc := I.r.rg c (by simp)
  have n2 := I.n2
  have three : ∀ {p q r : Int}, 0 ≤ p → p < n → 0 ≤ q → q < n → 0 ≤ r → r < n → Nx (N rows q) r p → Nx (N rows r) p q → Nx (N rows p) q r → it (bhf rows) 3 (p, q) = (p, q) := fun {p q r} p0 p1 q0 q1 r0 r1 h1 h2 h3 => by
    have e1 : bhf rows (p, q) = (q, r) := Prod.ext rfl (prev_eq (I.g.nd q q0 q1) h1)
    have e2 : bhf rows (q, r) = (r, p) := Prod.ext rfl (prev_eq (I.g.nd r r0 r1) h2)
    have e3 : bhf rows (r, p) = (p, q) := Prod.ext rfl (prev_eq (I.g.nd p p0 p1) h3)
    show bhf rows (bhf rows (bhf rows (p, q))) = (p, q)
    rw [e1, e2, e3]
  refine ⟨?_, ⟨Int.le_refl _, by show (0 : Int) < n; omega, (nx_mem b3).1⟩, b1⟩
  rintro ⟨p, q⟩ hs
  have t2 := hs.two I.g
  rcases h.tri _ _ e p q hs with h1 | ⟨r, h1, h2, h3⟩
  · rcases (nx p q).mp h1 with ⟨rfl, rfl⟩ | ⟨rfl, rfl⟩ | ⟨rfl, rfl⟩
    · exact three (by omega) (by omega) rc.1 rc.2 (by omega) (by omega) b1 b2 b3
    · exact three rc.1 rc.2 (by omega) (by omega) (by omega) (by omega) b2 b3 b1
    · exact three (by omega) (by omega) (by omega) (by omega) rc.1 rc.2 b3 b1 b2
  · have rr := I.g.rg q t2.1 t2.2.1 r (nx_mem h1.1).1
    exact three hs.1 hs.2.1 t2.1 t2.2.1 rr.1 rr.2.1 h1.1 h2.1 h3.1

--#split
/-! ### orders put place by place -/
inductive Gro (n : Nat) (w : List (List Int)) : List Int → List (List Int) → List (List Int) → Prop
  | base {a b : Int} : a ≠ b → (0 ≤ a ∧ a < n) → (0 ≤ b ∧ b < n) → Gro n w [a, b] [[a, b]] []
  | step {pre : List Int} {rs ps : List (List Int)} {u part t : List Int} {s0 sk v : Int} : Gro n w pre (rs ++ [u ++ part ++ t]) ps → 2 ≤ part.length → part[0]? = some s0 → part[part.length - 1]? = some sk →
      (∀ q, q ∈ part ↔ q ∈ N w v ∧ q ∈ pre) → (∀ (i : Nat) (x y : Int), part[i]? = some x → part[i + 1]? = some y → St n w (x, y) ∧ bhf w (x, y) = (y, v)) → v ∉ pre → (0 ≤ v ∧ v < n) →
      Gro n w (pre ++ [v]) (rs ++ [u ++ part ++ t] ++ [u ++ [s0] ++ [v] ++ sk :: t]) (ps ++ [part])
section
variable {n : Nat} {w : List (List Int)} {pre : List Int} {rs ps : List (List Int)}
structure GroI (n : Nat) (pre : List Int) (row : List Int) : Prop where
  pnd : pre.Nodup
  prg : ∀ x ∈ pre, 0 ≤ x ∧ x < (n : Int)
  nd : row.Nodup
  sub : ∀ x ∈ row, x ∈ pre
theorem Gro.all (h : Gro n w pre rs ps) : ∃ rs0 row, rs = rs0 ++ [row] ∧ GroI n pre row ∧ rs.length + 1 = pre.length ∧ ps.length + 2 = pre.length := by
  induction h with
  | @base a b h1 h2 h3 =>
    refine ⟨[], [a, b], rfl, ⟨?_, ?_, ?_, fun x hx => hx⟩, rfl, rfl⟩
    · simp [h1]
    · intro x hx
      simp only [List.mem_cons, List.not_mem_nil, or_false] at hx
      rcases hx with rfl | rfl
      · exact h2
      · exact h3
    · simp [h1]
  | @step pre rs ps u part t s0 sk v h hp h0 hk hm hb hv hr ih =>
    obtain ⟨rs0, row, er, I, l1, l2⟩ := ih
    have er := (List.append_inj' er rfl).2
    injection er with er _
    subst er
    obtain ⟨m, em, _, _⟩ := round_split (u := u) (t := t) (v := v) hp h0 hk
    have vr : v ∉ u ++ part ++ t := fun z => hv (I.sub v z)
    refine ⟨_, _, rfl, ⟨?_, fun x hx => ?_, ?_, fun x hx => ?_⟩, ?_, ?_⟩
    · rw [List.nodup_append]
      exact ⟨I.pnd, by simp, fun a ha b hb e => hv (by rw [List.mem_singleton.mp hb] at e; exact e ▸ ha)⟩
    · rcases List.mem_append.mp hx with m | m
      · exact I.prg x m
      · rw [List.mem_singleton.mp m]; exact hr
    · have nd : (s0 :: (m ++ sk :: (t ++ u))).Nodup := by
        have : (u ++ (part ++ t)).Nodup := by rw [← List.append_assoc]; exact I.nd
        have := nodup_rot this
        rw [em] at this
        simpa using this
      obtain ⟨d1, d2⟩ := List.nodup_cons.mp nd
      obtain ⟨d3, d4, d5⟩ := List.nodup_append.mp d2
      have v2 : v ≠ s0 ∧ v ∉ sk :: (t ++ u) := by
        rw [em] at vr
        simp only [List.mem_append, List.mem_cons, not_or, List.not_mem_nil] at vr ⊢
        grind
      have : (s0 :: v :: sk :: (t ++ u)).Nodup := by
        refine List.nodup_cons.mpr ⟨?_, List.nodup_cons.mpr ⟨v2.2, d4⟩⟩
        intro z
        rcases List.mem_cons.mp z with e | z
        · exact v2.1 e.symm
        · exact d1 (List.mem_append_right _ z)
      have h2 := nodup_rot (u := s0 :: v :: sk :: t) (v := u) (by simpa using this)
      simpa using h2
    · by_cases e : x = v
      · exact List.mem_append_right _ (List.mem_singleton.mpr e)
      · refine List.mem_append_left _ (I.sub x ?_)
        rw [em]
        simp only [List.mem_append, List.mem_cons, List.not_mem_nil, or_false] at hx ⊢
        grind
    · rw [List.length_append, List.length_append] at *
      simp at l1 ⊢
      omega
    · rw [List.length_append, List.length_append]
      simp
      omega
/-- one step of it -/
structure Gst (n : Nat) (w : List (List Int)) (pre row part : List Int) (v : Int) (row' : List Int) : Prop where
  I : GroI n pre row
  vr : 0 ≤ v ∧ v < (n : Int)
  vp : v ∉ pre
  mem : ∀ q, q ∈ part ↔ q ∈ N w v ∧ q ∈ pre
  beh : ∀ (i : Nat) (x y : Int), part[i]? = some x → part[i + 1]? = some y → St n w (x, y) ∧ bhf w (x, y) = (y, v)
  two : 2 ≤ part.length
  ex : ∃ u t s0 sk, row = u ++ part ++ t ∧ part[0]? = some s0 ∧ part[part.length - 1]? = some sk ∧ row' = u ++ [s0] ++ [v] ++ sk :: t
theorem Gro.at (h : Gro n w pre rs ps) : ∀ i, i + 2 < pre.length → ∃ row part v row', rs[i]? = some row ∧ ps[i]? = some part ∧ pre[i + 2]? = some v ∧ rs[i + 1]? = some row' ∧ Gst n w (pre.take (i + 2)) row part v row' := by
  induction h with
  | base =>
    intro i hi
    have hi : i + 2 < 2 := hi
    omega
  | @step pre rs ps u part t s0 sk v h hp h0 hk hm hb hv hr ih =>
    obtain ⟨rs0, row, er, I, l1, l2⟩ := h.all
    have er := (List.append_inj' er rfl).2
    injection er with er _
    subst er
    intro i hi
    by_cases hl : i + 2 < pre.length
    · obtain ⟨row, pt, v', row', e1, e2, e3, e4, G⟩ := ih i hl
      have a1 := (List.getElem?_eq_some_iff.mp e1).1
      have a2 := (List.getElem?_eq_some_iff.mp e2).1
      have a3 := (List.getElem?_eq_some_iff.mp e4).1
      refine ⟨row, pt, v', row', ?_, ?_, ?_, ?_, ?_⟩
      · rw [List.getElem?_append_left a1]; exact e1
      · rw [List.getElem?_append_left a2]; exact e2
      · rw [List.getElem?_append_left hl]; exact e3
      · rw [List.getElem?_append_left a3]; exact e4
      · rw [List.take_append_of_le_length (by omega)]
        exact G
    · rw [List.length_append, List.length_singleton] at hi
      have ei : i + 2 = pre.length := by omega
      have rl : (rs ++ [u ++ part ++ t]).length = i + 1 := by omega
      refine ⟨u ++ part ++ t, part, v, u ++ [s0] ++ [v] ++ sk :: t, ?_, ?_, ?_, ?_, ?_⟩
      · rw [List.getElem?_append_left (by omega)]
        rw [List.length_append, List.length_singleton] at rl
        rw [List.getElem?_append_right (by omega), show i - rs.length = 0 by omega]
        rfl
      · rw [List.getElem?_append_right (by omega), show i - ps.length = 0 by omega]
        rfl
      · rw [List.getElem?_append_right (by omega), show i + 2 - pre.length = 0 by omega]
        rfl
      · rw [List.getElem?_append_right (by omega), show i + 1 - (rs ++ [u ++ part ++ t]).length = 0 by omega]
        rfl
      · rw [List.take_append_of_le_length (by omega), List.take_of_length_le (by omega)]
        exact ⟨I, hr, hv, hm, hb, hp, u, t, s0, sk, rfl, h0, hk, rfl⟩
theorem Gro.first (h : Gro n w pre rs ps) : rs[0]? = some (pre.take 2) := by
  induction h with
  | base => rfl
  | @step pre rs ps u part t s0 sk v h hp h0 hk hm hb hv hr ih =>
    have := (List.getElem?_eq_some_iff.mp ih).1
    obtain ⟨_, _, _, _, l1, _⟩ := h.all
    rw [List.getElem?_append_left this, ih, List.take_append_of_le_length (by omega)]
theorem rng_split {a b c : Int} (h1 : a ≤ b) (h2 : b ≤ c) : rng a c = rng a b ++ rng b c := by
  refine List.ext_getElem? fun i => ?_
  have get : ∀ {lo hi : Int} {i : Nat}, (i : Int) < hi - lo → (rng lo hi)[i]? = some (lo + i) := fun {lo hi i} h => by
    have : ∃ x, (rng lo hi)[i]? = some x := ⟨_, List.getElem?_eq_getElem (by rw [rng_len]; omega)⟩
    obtain ⟨x, hx⟩ := this
    rw [hx, (rng_get hx).1]
  by_cases hi : (i : Int) < b - a
  · rw [List.getElem?_append_left (by rw [rng_len]; omega), get hi, get (by omega)]
  · rw [List.getElem?_append_right (by rw [rng_len]; omega), rng_len]
    by_cases hj : (i : Int) < c - a
    · rw [get hj, get (by omega)]
      congr 1
      omega
    · rw [List.getElem?_eq_none (by rw [rng_len]; omega), List.getElem?_eq_none (by rw [rng_len]; omega)]
theorem filter_rng {a b c d : Int} {t : Int → Bool} (h1 : a ≤ b) (h2 : b ≤ c) (h3 : c ≤ d) (ht : ∀ x, a ≤ x → x < d → (t x = true ↔ b ≤ x ∧ x < c)) : (rng a d).filter t = rng b c := by
  rw [rng_split h1 (show b ≤ d by omega), rng_split h2 h3, List.filter_append, List.filter_append]
  have e1 : (rng a b).filter t = [] := List.filter_eq_nil_iff.mpr fun x hx h => by
    have hx := rng_mem.mp hx
    have := (ht x (by omega) (by omega)).mp h
    omega
  have e2 : (rng b c).filter t = rng b c := List.filter_eq_self.mpr fun x hx => by
    have hx := rng_mem.mp hx
    exact (ht x (by omega) (by omega)).mpr hx
  have e3 : (rng c d).filter t = [] := List.filter_eq_nil_iff.mpr fun x hx h => by
    have hx := rng_mem.mp hx
    have := (ht x (by omega) (by omega)).mp h
    omega
  rw [e1, e2, e3, List.nil_append, List.append_nil]
theorem enumI (l : List Int) : enumL l = (rng 0 l.length).map fun k => (k, l.getD k.toNat 0) := by
  refine List.ext_getElem? fun i => ?_
  rw [enumL_get, List.getElem?_map]
  by_cases hi : i < l.length
  · obtain ⟨x, hx⟩ : ∃ x, (rng 0 (l.length : Int))[i]? = some x := ⟨_, List.getElem?_eq_getElem (by rw [rng_len]; omega)⟩
    have e := (rng_get hx).1
    rw [hx, List.getElem?_eq_getElem hi]
    have e3 : x = (i : Int) := by omega
    subst e3
    show some ((i : Int), l[i]) = some ((i : Int), l.getD (i : Int).toNat 0)
    rw [Int.toNat_natCast, List.getD_eq_getElem?_getD, List.getElem?_eq_getElem hi]
    rfl
  · rw [List.getElem?_eq_none (by omega), List.getElem?_eq_none (by rw [rng_len]; omega)]
    rfl
theorem rng_first {a b : Int} (h : a < b) : atI (rng a b) (0 : Int) = some a ∧ atI (rng a b) (-(1 : Int)) = some (b - 1) := by
  have l := rng_len a b
  constructor
  · refine atI_nat (Int.le_refl _) ?_
    obtain ⟨x, hx⟩ : ∃ x, (rng a b)[(0 : Int).toNat]? = some x := ⟨_, List.getElem?_eq_getElem (by rw [l]; simp; omega)⟩
    rw [hx, (rng_get hx).1]
    simp
  · unfold atI ixN
    rw [if_neg (by omega), if_pos (by omega)]
    show (rng a b)[_]? = _
    obtain ⟨x, hx⟩ : ∃ x, (rng a b)[(-1 + ((rng a b).length : Int)).toNat]? = some x := ⟨_, List.getElem?_eq_getElem (by omega)⟩
    rw [hx, (rng_get hx).1]
    congr 1
    omega
/-- the part of a round -/
theorem part_ok {u part t some_ : List Int} (nd : (u ++ part ++ t).Nodup) (hl : (u ++ part ++ t).length ≤ 100000) (two : 2 ≤ part.length) (sl : some_.length = part.length) (sm : ∀ q ∈ u ++ part ++ t, q ∈ some_ ↔ q ∈ part) :
    m_part_of (u ++ part ++ t, some_) = .ok (eR D.int part) := by
  have ll : ((u ++ part ++ t).length : Int) = u.length + part.length + t.length := by
    rw [List.length_append, List.length_append]
    omega
  have th : List.map (fun (x : (Int × Int)) => x.1) (List.filter (fun (x : (Int × Int)) => (hasL x.2 some_)) (enumL (u ++ part ++ t))) = rng (u.length : Int) ((u.length : Int) + part.length) := by
    rw [enumI, List.filter_map, List.map_map]
    rw [show (fun (x : Int × Int) => x.1) ∘ (fun k : Int => (k, (u ++ part ++ t).getD k.toNat 0)) = id from rfl, List.map_id]
    refine filter_rng (by omega) (by omega) (by omega) fun x x0 x1 => ?_
    show hasL ((u ++ part ++ t).getD x.toNat 0) some_ = true ↔ _
    have xl : x.toNat < (u ++ part ++ t).length := by omega
    have eg : (u ++ part ++ t).getD x.toNat 0 = (u ++ part ++ t)[x.toNat] := by rw [List.getD_eq_getElem?_getD, List.getElem?_eq_getElem xl]; rfl
    rw [eg, hasL_iff, sm _ (List.getElem_mem xl)]
    have gu : ∀ {k : Nat}, u.length ≤ k → k < u.length + part.length → (u ++ part ++ t)[k]? = part[k - u.length]? := fun {k} h1 h2 => by
      rw [List.append_assoc, List.getElem?_append_right h1, List.getElem?_append_left (by omega)]
    constructor
    · intro m
      obtain ⟨j, hj⟩ := List.mem_iff_getElem?.mp m
      have jl := (List.getElem?_eq_some_iff.mp hj).1
      have e1 := gu (k := u.length + j) (by omega) (by omega)
      rw [show u.length + j - u.length = j by omega, hj] at e1
      have := get_inj nd e1 (List.getElem?_eq_getElem xl)
      omega
    · rintro ⟨h1, h2⟩
      have e1 := gu (k := x.toNat) (by omega) (by omega)
      rw [List.getElem?_eq_getElem xl] at e1
      exact List.mem_of_getElem? e1.symm
  have el : ((rng (u.length : Int) ((u.length : Int) + part.length)).length : Int) = part.length := by rw [rng_len]; omega
  obtain ⟨r1, r2⟩ := rng_first (a := (u.length : Int)) (b := (u.length : Int) + part.length) (by omega)
  unfold m_part_of mb_part_of
  simp only [DL.bind_assoc, bind_okN, lt_eqN, th]
  rw [guard_ok (Nat.le_of_lt (sizeB (by rw [enumL_len]; omega))), bind_okN]
  simp only [or2_ok, r1, r2, some_ok, op2_ok, bind_okN, el, sl]
  have d1 : decide (((part.length : Nat) : Int) = ((part.length : Nat) : Int)) = true := decide_eq_true rfl
  have d2 : decide (((part.length : Nat) : Int) < 2) = false := decide_eq_false (by omega)
  have d3 : decide ((u.length : Int) + part.length - 1 - (u.length : Int) = ((part.length : Nat) : Int) - 1) = true := decide_eq_true (by omega)
  simp only [d1, d2, d3, decide_true, Bool.not_true, Bool.false_eq_true, if_false, bind_okN, bindF_nx, fin0_rt]
  rw [show (u.length : Int) + part.length - 1 + 1 = ((u.length + part.length : Nat) : Int) by omega, cut_mid]
  have : List.take (u.length + part.length - u.length) (List.drop u.length (u ++ part ++ t)) = part := by
    rw [List.append_assoc, List.drop_left, show u.length + part.length - u.length = part.length by omega, List.take_left]
  rw [this]
theorem lies_ok (g : Gr n w) {part : List Int} {v : Int} (beh : ∀ (i : Nat) (x y : Int), part[i]? = some x → part[i + 1]? = some y → St n w (x, y) ∧ bhf w (x, y) = (y, v)) : m_lies_over (w, v, part) = .ok true := by
  refine Ok.eq ?_
  unfold m_lies_over mb_lies_over
  refine Ok.f0 (Ok.bF (Pn := fun _ => True) (Ok.forR (fun _ _ => True) trivial ?_ fun _ _ => trivial) fun _ _ => Ok.rt rfl)
  rintro i ⟨x, y⟩ _ ex _
  have hc : cut part (some (1 : Int)) none = part.drop 1 := cut_from part 1
  rw [hc, List.getElem?_zip_eq_some, List.getElem?_drop, Nat.add_comm] at ex
  obtain ⟨hs, hb⟩ := beh i x y ex.1 ex.2
  refine Ok.bF (Pn := fun _ => True) (Ok.bind1 (beh_ok g hs) (Ok.iteF ?_ (Ok.nx trivial))) fun _ _ => Ok.nx trivial
  rw [hb]
  simp
theorem ixOf_mid {s0 : Int} : ∀ {u p : List Int}, (u ++ s0 :: p).Nodup → ixOf s0 (u ++ s0 :: p) = some u.length
  | [], p, _ => by rw [List.nil_append, ixOf, if_pos rfl]; rfl
  | a :: u, p, nd => by
    obtain ⟨h1, h2⟩ := List.nodup_cons.mp nd
    rw [List.cons_append, ixOf, if_neg (fun e => h1 (by rw [e]; simp)), ixOf_mid h2]
    rfl
theorem round_ok {u part t : List Int} {s0 sk v : Int} (nd : (u ++ part ++ t).Nodup) (hl : (u ++ part ++ t).length ≤ 90000) (two : 2 ≤ part.length) (h0 : part[0]? = some s0) (hk : part[part.length - 1]? = some sk) :
    m_round_behind (u ++ part ++ t, v, part) = .ok (u ++ [s0] ++ [v] ++ sk :: t) := by
  obtain ⟨m, em, _, _⟩ := round_split (u := u) (t := t) (v := v) two h0 hk
  have e0 : u ++ part ++ t = u ++ s0 :: (m ++ sk :: t) := by rw [em]; simp
  have ix : ixOf s0 (u ++ part ++ t) = some u.length := by rw [e0] at nd ⊢; exact ixOf_mid nd
  have ml : part.length = m.length + 2 := by rw [em]; simp
  have ll : (u ++ part ++ t).length = u.length + part.length + t.length := by rw [List.length_append, List.length_append]
  have c1 : cut (u ++ part ++ t) none (some (((u.length : Nat) : Int) + 1)) = u ++ [s0] := by
    rw [show ((u.length : Nat) : Int) + 1 = ((u.length + 1 : Nat) : Int) by omega, cut_to, e0]
    rw [show u ++ s0 :: (m ++ sk :: t) = (u ++ [s0]) ++ (m ++ sk :: t) by simp]
    exact List.take_left' (by simp)
  have c2 : cut (u ++ part ++ t) (some (((u.length : Nat) : Int) + ((part.length : Nat) : Int) - 1)) none = sk :: t := by
    rw [show ((u.length : Nat) : Int) + ((part.length : Nat) : Int) - 1 = ((u.length + 1 + m.length : Nat) : Int) by omega, cut_from, e0]
    rw [show u ++ s0 :: (m ++ sk :: t) = (u ++ s0 :: m) ++ sk :: t by simp]
    exact List.drop_left' (by simp; omega)
  have a0 : atI part (0 : Int) = some s0 := atI_nat (Int.le_refl _) h0
  unfold m_round_behind mb_round_behind
  simp only [DL.bind_assoc, a0, some_ok, bind_okN, ix, lt_eqN, c1, c2]
  rw [guard_ok ⟨by simp, Nat.le_of_lt (sizeB (by simp; omega))⟩, bind_okN, guard_ok ⟨by simp, Nat.le_of_lt (sizeB (by simp; omega))⟩, bind_okN, fin0_rt]
theorem grown_ok (g : Gr n w) (hn : n ≤ 40) (h : Gro n w pre rs ps) : m_grown (w, pre) = .ok (eP2 (eR (eR D.int)) (eR (eR D.int)) (rs, ps)) := by
  have gl := g.len
  obtain ⟨_, _, _, I0, l1, l2⟩ := h.all
  have pl : pre.length ≤ n := nodup_small I0.pnd I0.prg
  refine Ok.eq ?_
  unfold m_grown mb_grown
  simp only [DL.bind_assoc, bind_okN, lt_eqN]
  have c2 : cut pre none (some (2 : Int)) = pre.take 2 := cut_to pre 2
  rw [c2]
  refine Ok.f0 (Ok.bF (Pn := fun s => s = (rs, ps)) (Ok.grdB ⟨rng62 (by decide) (by decide), rng62 (by omega) (by omega)⟩ (Ok.forR (fun i s => i + 2 ≤ pre.length ∧ s = (rs.take (i + 1), ps.take i)) ⟨by omega, ?_⟩ ?_ ?_)) fun s e => Ok.rt (by rw [e]))
  · have := h.first
    have t1 : rs.take (0 + 1) = rs.take 0 ++ rs[0]?.toList := List.take_succ ..
    rw [t1, this]
    rfl
  · rintro i x s ex ⟨hi, rfl⟩
    obtain ⟨ex, xl⟩ := rng_get ex
    obtain ⟨row, part, v, row', e1, e2, e3, e4, G⟩ := h.at i (by omega)
    obtain ⟨u, t, s0, sk, rfl, h0, hk, rfl⟩ := G.ex
    have a1 : atI pre x = some v := atI_nat (by omega) (by rw [show x.toNat = i + 2 by omega]; exact e3)
    have tk : rs.take (i + 1) = rs.take i ++ [u ++ part ++ t] := by rw [List.take_succ, e1]; rfl
    have il := (List.getElem?_eq_some_iff.mp e1).1
    have a2 : atI (rs.take (i + 1)) (-(1 : Int)) = some (u ++ part ++ t) := by
      unfold atI ixN
      have ln : (rs.take (i + 1)).length = i + 1 := by rw [List.length_take]; omega
      rw [ln, if_neg (by omega), if_pos (by omega)]
      show (rs.take (i + 1))[_]? = _
      rw [show (-1 + ((i + 1 : Nat) : Int)).toNat = i by omega, List.getElem?_take, if_pos (by omega)]
      exact e1
    have a3 := N_at G.vr.1 (show v < w.length by have := G.vr.2; omega)
    have sm := g.toRw0.small G.vr.1 G.vr.2
    have cx : cut pre none (some x) = pre.take (i + 2) := by
      have := cut_to pre (i + 2)
      rw [show ((i + 2 : Nat) : Int) = x by omega] at this
      exact this
    have rl : (u ++ part ++ t).length ≤ n := nodup_small G.I.nd fun q hq => G.I.prg q (G.I.sub q hq)
    have eF : List.map (fun (x661 : Int) => x661) (List.filter (fun (x661 : Int) => (hasL x661 (cut pre none (some x)))) (N w v)) = (N w v).filter fun q => hasL q (pre.take (i + 2)) := by rw [cx, List.map_id']
    have fm : ∀ q, q ∈ (N w v).filter (fun q => hasL q (pre.take (i + 2))) ↔ q ∈ part := fun q => by
      rw [List.mem_filter, hasL_iff, G.mem]
    have pnd : part.Nodup := List.Sublist.nodup ((List.sublist_append_right u part).trans (List.sublist_append_left _ t)) G.I.nd
    have fl : ((N w v).filter fun q => hasL q (pre.take (i + 2))).length = part.length := nodup_len ((g.nd v G.vr.1 G.vr.2).filter _) pnd fm
    have po := part_ok G.I.nd (by omega) G.two fl fun q _ => fm q
    have lo := lies_ok g G.beh
    have ro := round_ok (v := v) G.I.nd (by omega) G.two h0 hk
    have asr : asRI (eR D.int part) = some part := by
      show asIs (part.map D.int) = some part
      clear fl fm po lo ro pnd sm rl
      induction part with
      | nil => rfl
      | cons a p ih =>
        have : ∀ l : List Int, asIs (l.map D.int) = some l := fun l => by
          induction l with
          | nil => rfl
          | cons b l ih2 => rw [List.map_cons, asIs, ih2]; rfl
        exact this _
    refine Ok.somB a1 (Ok.somB a2 (Ok.somB a3 (Ok.grdB (Nat.le_of_lt (sizeB (by omega))) ?_)))
    rw [eF]
    refine Ok.bind1 po (Ok.ltI ?_)
    refine Ok.bF (Pn := fun _ => True) (Ok.bind1 (a := false) ?_ (Ok.iteF rfl (Ok.nx trivial))) fun _ _ => ?_
    · simp only [or2_ok, DL.isNon, asr, some_ok, bind_okN, lo]
      rfl
    · rw [asr]
      have pl2 : (ps.take i).length ≤ 100000 := by rw [List.length_take]; omega
      have rl2 : (rs.take (i + 1)).length ≤ 100000 := by rw [List.length_take]; omega
      refine Ok.somB rfl (Ok.grdB (sizeB pl2) (Ok.somB a2 (Ok.somB rfl (Ok.bind1 ro (Ok.grdB (sizeB rl2) (Ok.nx ⟨by omega, ?_⟩))))))
      have t1 : rs.take (i + 1 + 1) = rs.take (i + 1) ++ [u ++ [s0] ++ [v] ++ sk :: t] := by rw [List.take_succ, e4]; rfl
      have t2 : ps.take (i + 1) = ps.take i ++ [part] := by rw [List.take_succ, e2]; rfl
      rw [t1, t2]
  · rintro s ⟨_, rfl⟩
    rw [rng_len, show (((pre.length : Nat) : Int) - 2).toNat = pre.length - 2 by omega, List.take_of_length_le (by omega), List.take_of_length_le (by omega)]
end

--#split
/-! ### .. by other names -/
section
variable {n : Nat} {R web : List (List Int)} {nm : List Int}
theorem Ren.st (h : Ren n R nm web) (gm : Nms n nm) {x y : Int} (hs : St n R (x, y)) : St n web (nmf nm x, nmf nm y) := by
  have r := gm.rg hs.1 hs.2.1
  exact ⟨r.1, r.2, (h.mem hs.1 hs.2.1).mpr ⟨y, hs.2.2, rfl⟩⟩
theorem Ren.nxf (h : Ren n R nm web) {p a b : Int} (p0 : 0 ≤ p) (p1 : p < n) (k : Nx (N R p) a b) : Nx (N web (nmf nm p)) (nmf nm a) (nmf nm b) := (h.nx p p0 p1 _ _).mpr ⟨a, b, k, rfl, rfl⟩
theorem Ren.bhf (h : Ren n R nm web) (g : Gr n R) (gw : Gr n web) (gm : Nms n nm) {x y : Int} (hs : St n R (x, y)) : W.bhf web (nmf nm x, nmf nm y) = (nmf nm y, nmf nm (W.bhf R (x, y)).2) := by
  have t := hs.two g
  have r := gm.rg t.1 t.2.1
  obtain ⟨_, _, _, _, h5⟩ := prev_ok t.2.2.2
  exact Prod.ext rfl (prev_eq (gw.nd _ r.1 r.2) (h.nxf t.1 t.2.1 h5))
theorem Ren.of (h : Ren n R nm web) (gw : Gr n web) (gm : Nms n nm) {s : Int × Int} (hs : St n web s) : ∃ x y, St n R (x, y) ∧ s = (nmf nm x, nmf nm y) := by
  obtain ⟨a, b⟩ := s
  obtain ⟨a0, a1, hb⟩ := hs
  obtain ⟨x, x0, x1, rfl⟩ := gm.sur (a := a) a0 a1
  obtain ⟨y, hy, rfl⟩ := (h.mem x0 x1).mp hb
  exact ⟨x, y, ⟨x0, x1, hy⟩, rfl⟩
theorem Ren.thr (h : Ren n R nm web) (g : Gr n R) (gw : Gr n web) (gm : Nms n nm) (T : Thr n R) : Thr n web := by
  intro s hs
  obtain ⟨x, y, hR, rfl⟩ := h.of gw gm hs
  clear hs
  have hs := hR
  have e1 := h.bhf g gw gm hs
  have h2 := (bh_perm g).st _ hs
  have e2 := h.bhf g gw gm (x := (W.bhf R (x, y)).1) (y := (W.bhf R (x, y)).2) h2
  have h3 := (bh_perm g).st _ h2
  have e3 := h.bhf g gw gm (x := (W.bhf R (W.bhf R (x, y))).1) (y := (W.bhf R (W.bhf R (x, y))).2) h3
  have t := T _ hs
  show W.bhf web (W.bhf web (W.bhf web (nmf nm x, nmf nm y))) = _
  rw [e1]
  have f1 : (W.bhf R (x, y)).1 = y := rfl
  rw [f1] at e2
  rw [e2]
  have f2 : (W.bhf R (W.bhf R (x, y))).1 = (W.bhf R (x, y)).2 := rfl
  rw [f2] at e3
  have e4 : (y, (W.bhf R (x, y)).2) = W.bhf R (x, y) := rfl
  rw [e4, e3]
  have t : W.bhf R (W.bhf R (W.bhf R (x, y))) = (x, y) := t
  have t1 := congrArg Prod.fst t
  have t2 := congrArg Prod.snd t
  have f3 : (W.bhf R (W.bhf R (W.bhf R (x, y)))).1 = (W.bhf R (W.bhf R (x, y))).2 := rfl
  rw [f3] at t1
  have e5 : ((W.bhf R (x, y)).2, (W.bhf R (W.bhf R (x, y))).2) = W.bhf R (W.bhf R (x, y)) := rfl
  rw [e5, t2]
  have t1 : (W.bhf R (W.bhf R (x, y))).2 = x := t1
  rw [t1]
/-- the order by names -/
def nmo (nm : List Int) (m : Nat) : List Int := (List.range m).map fun i : Nat => nmf nm (i : Int)
theorem nmo_succ (m : Nat) : nmo nm (m + 1) = nmo nm m ++ [nmf nm (m : Int)] := by
  rw [nmo, List.range_succ, List.map_append]
  rfl
theorem nmo_all (gm : Nms n nm) : nmo nm n = nm := by
  refine List.ext_getElem? fun i => ?_
  have l := gm.len
  rw [nmo, List.getElem?_map]
  by_cases hi : i < n
  · rw [List.getElem?_range hi]
    have := nmf_at (nm := nm) (x := (i : Int)) (by omega) (by omega)
    rw [Int.toNat_natCast] at this
    exact this.symm
  · rw [List.getElem?_eq_none (by rw [List.length_range]; omega), List.getElem?_eq_none (by omega)]
    rfl
theorem gro_of (gm : Nms n nm) {m : Nat} {rows told parts : List (List Int)} (G : Grw m rows told parts) : m ≤ n →
    (∀ (j : Nat) part, parts[j]? = some part → (∀ (i : Nat) (x y : Int), part[i]? = some x → part[i + 1]? = some y → St n web (nmf nm x, nmf nm y) ∧ bhf web (nmf nm x, nmf nm y) = (nmf nm y, nmf nm ((j + 2 : Nat) : Int))) ∧ (∀ q, q ∈ part.map (nmf nm) ↔ q ∈ N web (nmf nm ((j + 2 : Nat) : Int)) ∧ q ∈ nmo nm (j + 2))) →
    Gro n web (nmo nm m) (told.map (List.map (nmf nm))) (parts.map (List.map (nmf nm))) := by
  induction G with
  | base =>
    intro hm _
    have r0 := gm.rg (x := 0) (by omega) (by omega)
    have r1 := gm.rg (x := 1) (by omega) (by omega)
    exact .base (fun e => by have := gm.inj (x := 0) (y := 1) (by omega) (by omega) (by omega) (by omega) e; omega) r0 r1
  | @step m rows told parts u part t rows' s0 sk h hp h0 hk P ih =>
    intro hm hyp
    obtain ⟨_, _, _, I, l1, l2⟩ := h.all
    have ih := ih (by omega) fun j pj ej => hyp j pj (by rw [List.getElem?_append_left (List.getElem?_eq_some_iff.mp ej).1]; exact ej)
    have own := hyp parts.length part (by rw [List.getElem?_append_right (Nat.le_refl _), Nat.sub_self]; rfl)
    rw [show parts.length + 2 = m by omega] at own
    rw [nmo_succ, List.map_append, List.map_append, List.map_append]
    rw [List.map_append] at ih
    simp only [List.map_cons, List.map_nil] at ih ⊢
    rw [List.map_append, List.map_append] at ih
    rw [List.map_append, List.map_append, List.map_append, List.map_append, List.map_append]
    simp only [List.map_cons, List.map_nil]
    have mg : ∀ i, (part.map (nmf nm))[i]? = (part[i]?).map (nmf nm) := fun i => List.getElem?_map ..
    refine .step ih (by rw [List.length_map]; exact hp) (by rw [mg, h0]; rfl) (by rw [List.length_map, mg, hk]; rfl) own.2 (fun i x y hx hy => ?_) (fun z => ?_) (gm.rg (by omega) (by omega))
    · rw [mg] at hx hy
      obtain ⟨x', hx', rfl⟩ := Option.map_eq_some_iff.mp hx
      obtain ⟨y', hy', rfl⟩ := Option.map_eq_some_iff.mp hy
      exact own.1 i x' y' hx' hy'
    · obtain ⟨i, hi, e⟩ := List.mem_map.mp z
      have hi := List.mem_range.mp hi
      have := gm.inj (by omega) (by omega) (by omega) (by omega) e
      omega
theorem gro_web (gm : Nms n nm) (h : Ren n R nm web) {told parts : List (List Int)} (G : Grw n R told parts) (gw : Gr n web) : Gro n web nm (told.map (List.map (nmf nm))) (parts.map (List.map (nmf nm))) := by
  obtain ⟨_, _, _, I, l1, l2⟩ := G.all
  have key := G.parts
  have := gro_of (web := web) gm G (Nat.le_refl _) fun j part ej => by
    have jl := (List.getElem?_eq_some_iff.mp ej).1
    obtain ⟨k1, k2⟩ := key j part ej
    refine ⟨fun i x y hx hy => ?_, fun q => ?_⟩
    · obtain ⟨a, b⟩ := k1 i x y hx hy
      have t := a.two I.g
      have r := gm.rg t.1 t.2.1
      exact ⟨h.st gm a, Prod.ext rfl (prev_eq (gw.nd _ r.1 r.2) (h.nxf t.1 t.2.1 b))⟩
    · have jr : ((j + 2 : Nat) : Int) < n := by omega
      rw [List.mem_map, h.mem (by omega) jr]
      constructor
      · rintro ⟨x, hx, rfl⟩
        obtain ⟨a, b⟩ := (k2 x).mp hx
        have rx := I.g.rg _ (by omega) jr x a
        refine ⟨⟨x, a, rfl⟩, List.mem_map.mpr ⟨x.toNat, List.mem_range.mpr (by omega), ?_⟩⟩
        show nmf nm ((x.toNat : Nat) : Int) = _
        rw [show ((x.toNat : Nat) : Int) = x by omega]
      · rintro ⟨⟨y, hy, rfl⟩, hm⟩
        obtain ⟨i, hi, e⟩ := List.mem_map.mp hm
        have hi := List.mem_range.mp hi
        have ry := I.g.rg _ (by omega) jr y hy
        have := gm.inj (x := (i : Int)) (y := y) (by omega) (by omega) ry.1 ry.2.1 e
        exact ⟨y, (k2 y).mpr ⟨hy, by omega⟩, rfl⟩
  rw [nmo_all gm] at this
  exact this
/-- what stands in the rounds and the parts -/
theorem Grw.small {m : Nat} {rows told parts : List (List Int)} (G : Grw m rows told parts) : (∀ r ∈ told, r.length ≤ m ∧ ∀ x ∈ r, 0 ≤ x ∧ x < (m : Int)) ∧ ∀ r ∈ parts, r.length ≤ m ∧ ∀ x ∈ r, 0 ≤ x ∧ x < (m : Int) := by
  induction G with
  | base =>
    refine ⟨fun r hr => ?_, fun r hr => absurd hr List.not_mem_nil⟩
    rw [List.mem_singleton.mp hr]
    refine ⟨by decide, fun x hx => ?_⟩
    simp only [List.mem_cons, List.not_mem_nil, or_false] at hx
    omega
  | @step m rows told parts u part t rows' s0 sk h hp h0 hk P ih =>
    obtain ⟨i1, i2⟩ := ih
    have S := h.stp hp h0 hk P
    obtain ⟨_, row, er, I, _, _⟩ := (Grw.step h hp h0 hk P).all
    have er := (List.append_inj' er rfl).2
    injection er with er _
    refine ⟨fun r hr => ?_, fun r hr => ?_⟩
    · rcases List.mem_append.mp hr with k | k
      · obtain ⟨a, b⟩ := i1 r k
        exact ⟨by omega, fun x hx => by have := b x hx; omega⟩
      · rw [List.mem_singleton.mp k, er]
        exact ⟨nodup_small I.r.nd I.r.rg, I.r.rg⟩
    · rcases List.mem_append.mp hr with k | k
      · obtain ⟨a, b⟩ := i2 r k
        exact ⟨by omega, fun x hx => by have := b x hx; omega⟩
      · rw [List.mem_singleton.mp k]
        have := nodup_small S.pnd S.prg
        exact ⟨by omega, fun x hx => by have := S.prg x hx; omega⟩
end

--#split
/-! ### what is wanted of webs, bases and orders -/
section
variable {n : Nat} {w : List (List Int)}
/-- a three-cornered web -/
structure Cor (n : Nat) (w : List (List Int)) : Prop where
  g : Gr n w
  few : n ≤ 40
  two : 2 ≤ n
  t : Thr n w
  d : (stR w).length + 12 = 6 * n
variable (C : Cor n w)
include C
theorem Cor.flat : m_is_flat w = .ok true := by
  have c3 := thr_count C.g C.t
  have ti := tiW_len C.g
  have d := C.d
  rw [flat_eq C.g C.few, srtT_len, C.g.len]
  refine congrArg R.ok (decide_eq_true ?_)
  omega
theorem Cor.wflat : m_want_flat w = .ok () := by
  unfold m_want_flat mb_want_flat
  simp only [C.flat, bind_okN, Bool.not_true, Bool.false_eq_true, if_false, bindF_nx, finN_nx]
theorem Cor.other : m_other_faces w = .ok [] := by
  have I := fcI_take C.g (stS w).length (Nat.le_refl _)
  rw [List.take_length] at I
  have ls : (stS w).length = (stR w).length := (srtP_perm _).length_eq
  have few : (fcR w).length ≤ (stS w).length := I.few
  have hl := stR_len C.g.toRw0
  have hl2 : n * n ≤ 1600 := Nat.le_trans (Nat.mul_le_mul C.few C.few) (by decide)
  unfold m_other_faces mb_other_faces
  simp only [DL.bind_assoc, faces_eq C.g C.few, bind_okN]
  rw [guard_ok (Nat.le_of_lt (sizeB (by rw [srtT_len]; omega))), bind_okN, fin0_rt, List.map_id']
  refine congrArg R.ok (List.filter_eq_nil_iff.mpr fun f hf => ?_)
  have := (thr_faces C.g).mp C.t f (srtT_mem.mp hf)
  simp
  omega
theorem Cor.corn : m_want_cornered w = .ok () := by
  unfold m_want_cornered mb_want_cornered
  simp only [C.wflat, C.other, bind_okN, lt_eqN, decide_true, Bool.not_true, Bool.false_eq_true, if_false, bindF_nx, finN_nx]
theorem Cor.place {x : Int} : m_is_place (w, x) = .ok (decide (0 ≤ x) && decide (x < (n : Int))) := by
  unfold m_is_place mb_is_place
  have e : m_is_whole x = .ok true := rfl
  simp only [e, and2_ok, bind_okN, if_true, fin0_rt, C.g.len]
theorem Cor.base {a b c : Int} (ha : 0 ≤ a ∧ a < n) (hb : 0 ≤ b ∧ b < n) (hc : 0 ≤ c ∧ c < n) : m_is_base (w, (a, b, c)) = .ok (hasL c (N w a) && decide ((bhf w (a, c)).2 = b)) := by
  have gl := C.g.len
  have cp := comp_eq (m := fun x : Int => m_is_place (w, x)) (f := fun x => decide (0 ≤ x) && decide (x < (n : Int))) (xs := [a, b, c]) fun x _ => C.place
  have al : List.all (List.map (fun x : Int => decide (0 ≤ x) && decide (x < (n : Int))) [a, b, c]) id = true := by
    simp [ha, hb, hc]
  unfold m_is_base mb_is_base
  simp only [or2_ok, bind_okN, DL.bind_assoc, isTup, Bool.not_true, Bool.false_eq_true, if_false, decide_true]
  rw [guard_ok (show [a, b, c].length ≤ sizeLine from Nat.le_of_lt (sizeB (by simp))), bind_okN, cp, bind_okN]
  simp only [al, Bool.not_true, bind_okN, Bool.false_eq_true, if_false, bindF_nx, N_at ha.1 (show a < w.length by omega), some_ok, and2_ok]
  by_cases h : hasL c (N w a) = true
  · have hs : St n w (a, c) := ⟨ha.1, ha.2, hasL_iff.mp h⟩
    have eq : decide (bhf w (a, c) = (c, b)) = decide ((bhf w (a, c)).2 = b) := decide_eq_decide.mpr ⟨fun z => by rw [z], fun z => Prod.ext rfl z⟩
    simp only [h, if_true, beh_ok C.g hs, bind_okN, eq, fin0_rt, Bool.true_and]
  · have h : hasL c (N w a) = false := by simpa using h
    simp only [h, Bool.false_eq_true, if_false, bind_okN, fin0_rt, Bool.false_and]
/-- a base -/
def Bas (n : Nat) (w : List (List Int)) (a b c : Int) : Prop := St n w (a, c) ∧ bhf w (a, c) = (c, b)
theorem Cor.wbase {a b c : Int} (h : Bas n w a b c) : m_want_base (w, (a, b, c)) = .ok () := by
  have t := h.1.two C.g
  have t2 := ((bh_perm C.g).st _ h.1).two C.g
  rw [h.2] at t2
  have e := C.base (a := a) (b := b) (c := c) ⟨h.1.1, h.1.2.1⟩ ⟨t2.1, t2.2.1⟩ ⟨t.1, t.2.1⟩
  rw [hasL_iff.mpr h.1.2.2, h.2] at e
  unfold m_want_base mb_want_base
  simp only [C.corn, e, bind_okN, decide_true, Bool.and_true, Bool.not_true, Bool.false_eq_true, if_false, bindF_nx, finN_nx]
theorem Cor.rowall {order : List Int} (nd : order.Nodup) (rg : ∀ x ∈ order, 0 ≤ x ∧ x < (n : Int)) (hl : order.length = n) : m_is_row_of_all (w, order) = .ok true := by
  have gl := C.g.len
  have few := C.few
  have cp := comp_eq (m := fun x : Int => m_is_place (w, x)) (f := fun x => decide (0 ≤ x) && decide (x < (n : Int))) (xs := order) fun x _ => C.place
  have al : List.all (List.map (fun x : Int => decide (0 ≤ x) && decide (x < (n : Int))) order) id = true := by
    rw [List.all_map, List.all_eq_true]
    intro x hx
    have := rg x hx
    simp [this]
  unfold m_is_row_of_all mb_is_row_of_all
  simp only [or2_ok, bind_okN, DL.bind_assoc, isTup, Bool.not_true, Bool.false_eq_true, if_false, gl, hl, decide_true]
  rw [guard_ok (Nat.le_of_lt (sizeB (show n ≤ 100000 by omega))), bind_okN, cp, bind_okN]
  simp only [al, Bool.not_true, bind_okN, Bool.false_eq_true, if_false, bindF_nx, nub_of nd, hl, guard_ok (show n ≤ 1000 by omega), decide_true, fin0_rt]
/-- an order of a base, with its rounds and stretches -/
structure Ord (n : Nat) (w : List (List Int)) (a b c : Int) (order : List Int) (rs ps : List (List Int)) : Prop where
  gro : Gro n w order rs ps
  len : order.length = n
  fst : order.take 2 = [a, b]
  lst : order.getLast? = some c
theorem Cor.order {a b c : Int} {order : List Int} {rs ps : List (List Int)} (O : Ord n w a b c order rs ps) : m_is_order_of (w, (a, b, c), order) = .ok true := by
  obtain ⟨_, _, _, I, _, _⟩ := O.gro.all
  have r := C.rowall I.pnd I.prg O.len
  have g := grown_ok C.g C.few O.gro
  have c1 : cut order none (some (2 : Int)) = [a, b] := (cut_to order 2).trans O.fst
  have c2 : cut [a, b, c] none (some (2 : Int)) = [a, b] := cut_to [a, b, c] 2
  have two := C.two
  have a1 : atI order (-(1 : Int)) = some c := by
    have l := O.lst
    rw [List.getLast?_eq_getElem?] at l
    unfold atI ixN
    rw [if_neg (by omega), if_pos (by have := O.len; omega)]
    show order[_]? = _
    rw [show (-1 + (order.length : Int)).toNat = order.length - 1 by have := O.len; omega]
    exact l
  unfold m_is_order_of mb_is_order_of
  simp only [r, or2_ok, bind_okN, DL.bind_assoc, Bool.not_true, Bool.false_eq_true, if_false, c1, c2, decide_true, a1, some_ok, bindF_nx, g, DL.isNon, Bool.not_false, fin0_rt]
theorem Cor.isorder {a b c : Int} {order : List Int} {rs ps : List (List Int)} (h : Bas n w a b c) (O : Ord n w a b c order rs ps) : m_is_order (w, (a, b, c), order) = .ok true := by
  unfold m_is_order mb_is_order
  simp only [C.wbase h, C.order O, bind_okN, fin0_rt]
theorem Cor.worder {a b c : Int} {order : List Int} {rs ps : List (List Int)} (h : Bas n w a b c) (O : Ord n w a b c order rs ps) : m_want_order (w, (a, b, c), order) = .ok () := by
  unfold m_want_order mb_want_order
  simp only [C.wbase h, C.order O, bind_okN, Bool.not_true, Bool.false_eq_true, if_false, bindF_nx, finN_nx]
omit C
theorem as2_eq (rs ps : List (List Int)) : as2TT (eP2 (eR (eR D.int)) (eR (eR D.int)) (rs, ps)) = some (rs, ps) := by
  have i1 : ∀ l : List Int, asIs (l.map D.int) = some l := fun l => by
    induction l with
    | nil => rfl
    | cons b l ih2 => rw [List.map_cons, asIs, ih2]; rfl
  have i2 : ∀ l : List (List Int), asTIs (l.map (eR D.int)) = some l := fun l => by
    induction l with
    | nil => rfl
    | cons b l ih2 =>
      rw [List.map_cons, asTIs, ih2]
      have : asTI (eR D.int b) = some b := i1 b
      rw [this]
  have i3 : ∀ l : List (List Int), asTTI (eR (eR D.int) l) = some l := fun l => i2 l
  show (match asTTI (eR (eR D.int) rs), asTTI (eR (eR D.int) ps) with
    | some a, some b => some (a, b)
    | _, _ => none) = _
  rw [i3, i3]
include C
theorem Cor.rounds {a b c : Int} {order : List Int} {rs ps : List (List Int)} (h : Bas n w a b c) (O : Ord n w a b c order rs ps) : m_rounds (w, (a, b, c), order) = .ok rs := by
  unfold m_rounds mb_rounds
  simp only [C.worder h O, grown_ok C.g C.few O.gro, as2_eq, some_ok, bind_okN, DL.bind_assoc, fin0_rt]
theorem Cor.stretches {a b c : Int} {order : List Int} {rs ps : List (List Int)} (h : Bas n w a b c) (O : Ord n w a b c order rs ps) : m_stretches (w, (a, b, c), order) = .ok ps := by
  unfold m_stretches mb_stretches m_stretches_of mb_stretches_of
  simp only [C.worder h O, grown_ok C.g C.few O.gro, as2_eq, some_ok, bind_okN, DL.bind_assoc, fin0_rt]
end
/-- the web drawn, its base, its order -/
theorem drawn_ord {n : Nat} {R web : List (List Int)} {nm : List Int} {told parts told0 : List (List Int)} (gm : Nms n nm) (h : Ren n R nm web) (G : Grw n R told parts) (n3 : 3 ≤ n) (n40 : n ≤ 40) (e : told = told0 ++ [[0, (n : Int) - 1, 1]]) :
    Cor n web ∧ Bas n web (nmf nm 0) (nmf nm 1) (nmf nm ((n : Int) - 1)) ∧ Ord n web (nmf nm 0) (nmf nm 1) (nmf nm ((n : Int) - 1)) nm (told.map (List.map (nmf nm))) (parts.map (List.map (nmf nm))) := by
  obtain ⟨_, _, _, I, l1, l2⟩ := G.all
  have W := h.isWeb I.g I.c (by omega) gm
  obtain ⟨T, b1, b2⟩ := G.thr e
  have dg := G.deg _ _ e
  have dg : (stR R).length + 2 * 3 + 6 = 6 * n := dg
  have dw := h.stR I.g W.gr gm
  have t := b1.two I.g
  have r := gm.rg t.1 t.2.1
  have nl := gm.len
  have at_ : ∀ i : Nat, i < n → nm[i]? = some (nmf nm (i : Int)) := fun i hi => by
    have := nmf_at (nm := nm) (x := (i : Int)) (by omega) (by omega)
    rw [Int.toNat_natCast] at this
    exact this
  refine ⟨⟨W.gr, n40, by omega, h.thr I.g W.gr gm T, by omega⟩, ⟨h.st gm b1, Prod.ext rfl (prev_eq (W.gr.nd _ r.1 r.2) (h.nxf t.1 t.2.1 b2))⟩, gro_web gm h G W.gr, by omega, ?_, ?_⟩
  · have e0 := at_ 0 (by omega)
    have e1 := at_ 1 (by omega)
    rw [List.take_succ, List.take_succ, List.take_zero, e0, e1]
    rfl
  · rw [List.getLast?_eq_getElem?, show nm.length - 1 = n - 1 by omega, at_ (n - 1) (by omega)]
    congr 2
    omega

--#split
theorem named_ok {nm : List Int} {some_ : List (List Int)} (hl : some_.length ≤ 1000) (h : ∀ r ∈ some_, r.length ≤ 1000 ∧ ∀ x ∈ r, 0 ≤ x ∧ x < (nm.length : Int)) : m_law_named (nm, some_) = .ok (some_.map (List.map (nmf nm))) := by
  have inner : ∀ r ∈ some_, compR (compF (fun (x850 : Int) (s849 : Unit) => R.ok ()) (fun (z855 : Unit) => true) (fun (x850 : Int) (s849 : Unit) => ((R.some (atI nm x850)).bind fun (y854 : Int) => R.ok (y854, ()))) Prod.fst Prod.snd) r [] () = .ok (r.map (nmf nm), ()) := fun r hr => comp_eq (m := fun x : Int => R.some (atI nm x)) fun x hx => by
    have := (h r hr).2 x hx
    show R.some (atI nm x) = _
    rw [atI_nat this.1 (nmf_at this.1 this.2)]
    rfl
  have outer := comp_eq (m := fun r : List Int => (R.guard (r.length ≤ sizeLine)).bind fun _ => (compR (compF (fun (x850 : Int) (s849 : Unit) => R.ok ()) (fun (z855 : Unit) => true) (fun (x850 : Int) (s849 : Unit) => ((R.some (atI nm x850)).bind fun (y854 : Int) => R.ok (y854, ()))) Prod.fst Prod.snd) r [] ()).bind fun y => R.ok y.1) (f := List.map (nmf nm)) (xs := some_) fun r hr => by
    show (R.guard (r.length ≤ sizeLine)).bind _ = _
    rw [guard_ok (Nat.le_of_lt (sizeB (by have := (h r hr).1; omega))), bind_okN, inner r hr]
    rfl
  unfold m_law_named mb_law_named
  simp only [DL.bind_assoc, bind_okN] at outer ⊢
  rw [guard_ok (Nat.le_of_lt (sizeB (by omega))), bind_okN, outer]
  rfl
theorem is_ok {l : List (List Int)} (hl : l.length ≤ 1000) (h : ∀ r ∈ l, r.length ≤ 1000) : m_law_is (l, l) = .ok true := by
  refine Ok.eq ?_
  unfold m_law_is mb_law_is
  have al : List.all (List.map (fun (x766 : (List Int)) => (isTup ((eT D.int) x766))) (List.filter (fun (x766 : (List Int)) => true) l)) id = true := by
    rw [List.all_map, List.all_eq_true]
    intro x _
    rfl
  refine Ok.f0 (Ok.bF (Pn := fun _ => True) (Ok.bind1 (a := false) ?_ (Ok.iteF rfl (Ok.nx trivial))) fun _ _ => Ok.bF (Pn := fun _ => True) (Ok.forC (fun _ => True) trivial fun r hr _ _ => ?_) fun _ _ => Ok.rt rfl)
  · simp only [or2_ok, bind_okN, DL.bind_assoc, isTup, Bool.not_true, Bool.false_eq_true, if_false, decide_true]
    rw [guard_ok (Nat.le_of_lt (sizeB (by omega))), bind_okN, show (List.map (fun (_ : List Int) => true) (List.filter (fun _ => true) l)).all id = true from al]
    rfl
  · simp only [bind_okN, DL.bind_assoc]
    refine Ok.bF (Pn := fun _ => True) (Ok.grdB (Nat.le_of_lt (sizeB (by have := h r hr; omega))) (Ok.iteF ?_ (Ok.nx trivial))) fun _ _ => Ok.nx trivial
    have : List.filter (fun (x783 : Int) => ((!(isInt (D.int x783))) || (isBool (D.int x783)))) r = [] := List.filter_eq_nil_iff.mpr fun x _ => by simp [isInt, isBool]
    rw [this]
    rfl
theorem law_true (ns : List Int) (hl : ns.length ≤ 63) : m_law ns = .ok true := by
  refine Ok.eq ?_
  unfold m_law mb_law
  refine Ok.f0 (Ok.bF (Pn := fun _ => True) (Ok.grdB (rng62 (by omega) (by omega)) ?_) fun _ _ => Ok.rt rfl)
  refine Ok.forC (fun _ => True) trivial fun x hx s _ => ?_
  have hx0 := (rng_mem.mp hx).1
  simp only [DL.bind_assoc, bind_okN]
  refine (pot ns hx0).bind fun l p0 => Ok.ltI ((digit p0 (by decide) (small8000 (by decide))).bind ?_)
  rintro ⟨d, l2⟩ ⟨d0, d1, hl2⟩
  have d0 : 0 ≤ d := d0
  have d1 : d < 2 := d1
  obtain ⟨c, hc, c0, c1⟩ : ∃ c, atI [(7 : Int), 38] d = some c ∧ 0 < c ∧ c < 39 := by
    have : d = 0 ∨ d = 1 := by omega
    rcases this with rfl | rfl
    · exact ⟨7, rfl, by decide, by decide⟩
    · exact ⟨38, rfl, by decide, by decide⟩
  refine Ok.somB hc ((digit hl2 c0 (small8000 (by omega))).bind ?_)
  rintro ⟨e, l3⟩ ⟨e0, e1, hl3⟩
  have e0 : 0 ≤ e := e0
  have e1 : e < c := e1
  obtain ⟨n, hn⟩ : ∃ n : Nat, 3 + e = n := ⟨(3 + e).toNat, by omega⟩
  refine Ok.ltI ?_
  simp only [hn]
  refine (rows_ok hl3 (show 3 ≤ n by omega) (by omega)).bind fun r hr => ?_
  obtain ⟨hp4, G, told1, et⟩ := hr
  obtain ⟨told0, row, er, I, l1, l2'⟩ := G.all
  refine (names_ok hp4 (show (0 : Int) ≤ (n : Int) by omega) (by omega)).bind fun nm hnm => Ok.ltI ?_
  have gm := hnm.1
  have ne := Con.ne I.g (by omega) I.c
  refine (law_web_ok I.g ne (by omega) gm).bind fun w hw => Ok.ltI ?_
  obtain ⟨C, B, O⟩ := drawn_ord gm hw G (by omega) (by omega) et
  obtain ⟨sm1, sm2⟩ := G.small
  have nl := gm.len
  have a0 : atI nm.1 (0 : Int) = some (nmf nm.1 0) := atI_nat (by omega) (nmf_at (by omega) (by omega))
  have a1 : atI nm.1 (1 : Int) = some (nmf nm.1 1) := atI_nat (by omega) (nmf_at (by omega) (by omega))
  have a2 : atI nm.1 (-(1 : Int)) = some (nmf nm.1 ((n : Int) - 1)) := by
    have := nmf_at (nm := nm.1) (x := (n : Int) - 1) (by omega) (by omega)
    unfold atI ixN
    rw [if_neg (by omega), if_pos (by omega)]
    show nm.1[_]? = _
    rw [show (-1 + (nm.1.length : Int)).toNat = ((n : Int) - 1).toNat by omega]
    exact this
  have f1 := named_ok (nm := nm.1) (some_ := r.1.2.1) (by omega) fun q hq => ⟨by have := (sm1 q hq).1; omega, fun x hx => by have := (sm1 q hq).2 x hx; omega⟩
  have f2 := named_ok (nm := nm.1) (some_ := r.1.2.2) (by omega) fun q hq => ⟨by have := (sm2 q hq).1; omega, fun x hx => by have := (sm2 q hq).2 x hx; omega⟩
  have g1 := is_ok (l := r.1.2.1.map (List.map (nmf nm.1))) (by rw [List.length_map]; omega) fun q hq => by
    obtain ⟨q', hq', rfl⟩ := List.mem_map.mp hq
    rw [List.length_map]
    have := (sm1 q' hq').1
    omega
  have g2 := is_ok (l := r.1.2.2.map (List.map (nmf nm.1))) (by rw [List.length_map]; omega) fun q hq => by
    obtain ⟨q', hq', rfl⟩ := List.mem_map.mp hq
    rw [List.length_map]
    have := (sm2 q' hq').1
    omega
  refine Ok.somB a0 (Ok.somB a1 (Ok.somB a2 (Ok.ltI (Ok.ltI ?_))))
  refine Ok.bF (Pn := fun _ => True) (Ok.bind1 (C.isorder B O) (Ok.iteF rfl (Ok.nx trivial))) fun _ _ => ?_
  refine Ok.bF (Pn := fun _ => True) (Ok.grdB (rng62 (by decide) (by decide)) (Ok.forC (fun _ => True) trivial fun _ _ _ _ => ?_)) fun _ _ => Ok.nx trivial
  refine Ok.bF (Pn := fun _ => True) (Ok.bind1 (C.rounds B O) (Ok.bind1 f1 (Ok.bind1 g1 (Ok.iteF rfl (Ok.nx trivial))))) fun _ _ => ?_
  exact Ok.bF (Pn := fun _ => True) (Ok.bind1 (C.stretches B O) (Ok.bind1 f2 (Ok.bind1 g2 (Ok.iteF rfl (Ok.nx trivial))))) fun _ _ => Ok.nx trivial


def e_law_pot : He.DefD := ⟨("_law_pot", none), "_law_pot", "_law_pot", defArgs s_law_pot, defBody s_law_pot, defScope s_law_pot, [], []⟩
def e_law_digit : He.DefD := ⟨("_law_digit", none), "_law_digit", "_law_digit", defArgs s_law_digit, defBody s_law_digit, defScope s_law_digit, [], []⟩
def e_law_put_over : He.DefD := ⟨("_law_put_over", none), "_law_put_over", "_law_put_over", defArgs s_law_put_over, defBody s_law_put_over, defScope s_law_put_over, [], []⟩
def e_law_rows : He.DefD := ⟨("_law_rows", none), "_law_rows", "_law_rows", defArgs s_law_rows, defBody s_law_rows, defScope s_law_rows, [], []⟩
def e_law_names : He.DefD := ⟨("_law_names", none), "_law_names", "_law_names", defArgs s_law_names, defBody s_law_names, defScope s_law_names, [], []⟩
def e_law_web : He.DefD := ⟨("_law_web", none), "_law_web", "_law_web", defArgs s_law_web, defBody s_law_web, defScope s_law_web, [], []⟩
def e_steps : He.DefD := ⟨("steps", none), "steps", "steps", defArgs s_steps, defBody s_steps, defScope s_steps, [], []⟩
def e_behind : He.DefD := ⟨("behind", none), "behind", "behind", defArgs s_behind, defBody s_behind, defScope s_behind, [], []⟩
def e_steps_round : He.DefD := ⟨("steps_round", none), "steps_round", "steps_round", defArgs s_steps_round, defBody s_steps_round, defScope s_steps_round, [], []⟩
def e_told_round : He.DefD := ⟨("told_round", none), "told_round", "told_round", defArgs s_told_round, defBody s_told_round, defScope s_told_round, [], []⟩
def e_faces : He.DefD := ⟨("faces", none), "faces", "faces", defArgs s_faces, defBody s_faces, defScope s_faces, [], []⟩
def e_ties : He.DefD := ⟨("ties", none), "ties", "ties", defArgs s_ties, defBody s_ties, defScope s_ties, [], []⟩
def e_is_flat : He.DefD := ⟨("is_flat", none), "is_flat", "is_flat", defArgs s_is_flat, defBody s_is_flat, defScope s_is_flat, [], []⟩
def e_want_flat : He.DefD := ⟨("want_flat", none), "want_flat", "want_flat", defArgs s_want_flat, defBody s_want_flat, defScope s_want_flat, [], []⟩
def e_other_faces : He.DefD := ⟨("other_faces", none), "other_faces", "other_faces", defArgs s_other_faces, defBody s_other_faces, defScope s_other_faces, [], []⟩
def e_want_cornered : He.DefD := ⟨("want_cornered", none), "want_cornered", "want_cornered", defArgs s_want_cornered, defBody s_want_cornered, defScope s_want_cornered, [], []⟩
def e_is_whole : He.DefD := ⟨("is_whole", none), "is_whole", "is_whole", defArgs s_is_whole, defBody s_is_whole, defScope s_is_whole, [], []⟩
def e_is_place : He.DefD := ⟨("is_place", none), "is_place", "is_place", defArgs s_is_place, defBody s_is_place, defScope s_is_place, [], []⟩
def e_is_base : He.DefD := ⟨("is_base", none), "is_base", "is_base", defArgs s_is_base, defBody s_is_base, defScope s_is_base, [], []⟩
def e_want_base : He.DefD := ⟨("want_base", none), "want_base", "want_base", defArgs s_want_base, defBody s_want_base, defScope s_want_base, [], []⟩
def e_is_row_of_all : He.DefD := ⟨("is_row_of_all", none), "is_row_of_all", "is_row_of_all", defArgs s_is_row_of_all, defBody s_is_row_of_all, defScope s_is_row_of_all, [], []⟩
def e_part_of : He.DefD := ⟨("part_of", none), "part_of", "part_of", defArgs s_part_of, defBody s_part_of, defScope s_part_of, [], []⟩
def e_lies_over : He.DefD := ⟨("lies_over", none), "lies_over", "lies_over", defArgs s_lies_over, defBody s_lies_over, defScope s_lies_over, [], []⟩
def e_round_behind : He.DefD := ⟨("round_behind", none), "round_behind", "round_behind", defArgs s_round_behind, defBody s_round_behind, defScope s_round_behind, [], []⟩
def e_grown : He.DefD := ⟨("grown", none), "grown", "grown", defArgs s_grown, defBody s_grown, defScope s_grown, [], []⟩
def e_is_order_of : He.DefD := ⟨("is_order_of", none), "is_order_of", "is_order_of", defArgs s_is_order_of, defBody s_is_order_of, defScope s_is_order_of, [], []⟩
def e_is_order : He.DefD := ⟨("is_order", none), "is_order", "is_order", defArgs s_is_order, defBody s_is_order, defScope s_is_order, [], []⟩
def e_law_is : He.DefD := ⟨("_law_is", none), "_law_is", "_law_is", defArgs s_law_is, defBody s_law_is, defScope s_law_is, [], []⟩
def e_want_order : He.DefD := ⟨("want_order", none), "want_order", "want_order", defArgs s_want_order, defBody s_want_order, defScope s_want_order, [], []⟩
def e_rounds : He.DefD := ⟨("rounds", none), "rounds", "rounds", defArgs s_rounds, defBody s_rounds, defScope s_rounds, [], []⟩
def e_law_named : He.DefD := ⟨("_law_named", none), "_law_named", "_law_named", defArgs s_law_named, defBody s_law_named, defScope s_law_named, [], []⟩
def e_stretches_of : He.DefD := ⟨("stretches_of", none), "stretches_of", "stretches_of", defArgs s_stretches_of, defBody s_stretches_of, defScope s_stretches_of, [], []⟩
def e_stretches : He.DefD := ⟨("stretches", none), "stretches", "stretches", defArgs s_stretches, defBody s_stretches, defScope s_stretches, [], []⟩
def e_law : He.DefD := ⟨("law", none), "law", "law", defArgs s_law, defBody s_law, defScope s_law, [], []⟩
def fnL : List He.DefD := [e_law_pot, e_law_digit, e_law_put_over, e_law_rows, e_law_names, e_law_web, e_steps, e_behind, e_steps_round, e_told_round, e_faces, e_ties, e_is_flat, e_want_flat, e_other_faces, e_want_cornered, e_is_whole, e_is_place, e_is_base, e_want_base, e_is_row_of_all, e_part_of, e_lies_over, e_round_behind, e_grown, e_is_order_of, e_is_order, e_law_is, e_want_order, e_rounds, e_law_named, e_stretches_of, e_stretches, e_law]
def faL : List He.Fa := [.glo "_law_pot", .glo "_law_digit", .glo "_law_put_over", .glo "_law_rows", .glo "_law_names", .glo "_law_web", .glo "steps", .glo "behind", .glo "steps_round", .glo "told_round", .glo "faces", .glo "ties", .glo "is_flat", .glo "want_flat", .glo "other_faces", .glo "want_cornered", .glo "is_whole", .glo "is_place", .glo "is_base", .glo "want_base", .glo "is_row_of_all", .glo "part_of", .glo "lies_over", .glo "round_behind", .glo "grown", .glo "is_order_of", .glo "is_order", .glo "_law_is", .glo "want_order", .glo "rounds", .glo "_law_named", .glo "stretches_of", .glo "stretches", .glo "law", .free "abs", .free "all", .free "bool", .free "dict", .free "divmod", .free "enumerate", .free "int", .free "isinstance", .free "len", .free "max", .free "min", .free "range", .free "set", .free "sorted", .free "tuple", .free "zip", .int "CORNERS" 3]
abbrev Rw : PySem.W.OpenRow := PySem.W.OpenLaw.row PySem.Challenge.rw_restdraw_k54_whole_rounds_and_stretches
abbrev hkL : PySem.W.Hook := He.hookD 4 faL fnL
def obL (s : PySem.W.SharedT) : He.AlD := He.obsDG 4 faL fnL (HandSHeadRun.getT s)
theorem ob_eqL (s : PySem.W.SharedT) : obL s = hkL.obs s.abs := He.obsDG_eq (HandSHeadRun.getT_eq s)
theorem runL (w : World) : HandSHeadRun.RunEq Rw (PySem.W.view Rw.prog [45]) hkL obL 3000 ((["DrawError", "NotFlat", "NotCornered", "NoBase", "NoOrder", "is_whole", "ties", "steps", "behind", "steps_round", "told_round", "faces", "is_flat", "want_flat", "CORNERS", "is_place", "other_faces", "is_base", "want_cornered", "want_base"] : List PySem.Str) ++ (["is_row_of_all", "part_of", "lies_over", "round_behind", "grown", "is_order_of", "is_order", "want_order", "rounds", "stretches", "stretches_of", "_law_pot", "_law_digit", "_law_put_over", "_law_rows", "_law_names", "_law_web", "_law_named", "_law_is"] : List PySem.Str)) w := by
  intro os
  kernel_rfl
theorem factsL {P : Program} {w : World} {K : PySem.W.Frag} {h : Heap} {mg : Str → Option Value} {f : Addr} (X : K.In h) (G : h.Ns mainGlobals mg) (hfa : mg ("law" : Str) = some (.ref f)) (c : He.SaysD faL fnL K) :
    ∃ fd : FuncData, (∀ (s : Shared) (v : Value), BindsTo s fd ⟨[v], []⟩ [("_law_script", v)]) ∧ ∀ base : Heap, K.In base → base.Ns mainGlobals mg → FnG P w K mg base CX0 10 f fd ["_law_script"] (spM K i_law m_law l_law o_law) := by
  obtain ⟨d0, F0⟩ := c.def_ 0 (d := e_law_pot) rfl
  obtain ⟨d1, F1⟩ := c.def_ 1 (d := e_law_digit) rfl
  obtain ⟨d2, F2⟩ := c.def_ 2 (d := e_law_put_over) rfl
  obtain ⟨d3, F3⟩ := c.def_ 3 (d := e_law_rows) rfl
  obtain ⟨d4, F4⟩ := c.def_ 4 (d := e_law_names) rfl
  obtain ⟨d5, F5⟩ := c.def_ 5 (d := e_law_web) rfl
  obtain ⟨d6, F6⟩ := c.def_ 6 (d := e_steps) rfl
  obtain ⟨d7, F7⟩ := c.def_ 7 (d := e_behind) rfl
  obtain ⟨d8, F8⟩ := c.def_ 8 (d := e_steps_round) rfl
  obtain ⟨d9, F9⟩ := c.def_ 9 (d := e_told_round) rfl
  obtain ⟨d10, F10⟩ := c.def_ 10 (d := e_faces) rfl
  obtain ⟨d11, F11⟩ := c.def_ 11 (d := e_ties) rfl
  obtain ⟨d12, F12⟩ := c.def_ 12 (d := e_is_flat) rfl
  obtain ⟨d13, F13⟩ := c.def_ 13 (d := e_want_flat) rfl
  obtain ⟨d14, F14⟩ := c.def_ 14 (d := e_other_faces) rfl
  obtain ⟨d15, F15⟩ := c.def_ 15 (d := e_want_cornered) rfl
  obtain ⟨d16, F16⟩ := c.def_ 16 (d := e_is_whole) rfl
  obtain ⟨d17, F17⟩ := c.def_ 17 (d := e_is_place) rfl
  obtain ⟨d18, F18⟩ := c.def_ 18 (d := e_is_base) rfl
  obtain ⟨d19, F19⟩ := c.def_ 19 (d := e_want_base) rfl
  obtain ⟨d20, F20⟩ := c.def_ 20 (d := e_is_row_of_all) rfl
  obtain ⟨d21, F21⟩ := c.def_ 21 (d := e_part_of) rfl
  obtain ⟨d22, F22⟩ := c.def_ 22 (d := e_lies_over) rfl
  obtain ⟨d23, F23⟩ := c.def_ 23 (d := e_round_behind) rfl
  obtain ⟨d24, F24⟩ := c.def_ 24 (d := e_grown) rfl
  obtain ⟨d25, F25⟩ := c.def_ 25 (d := e_is_order_of) rfl
  obtain ⟨d26, F26⟩ := c.def_ 26 (d := e_is_order) rfl
  obtain ⟨d27, F27⟩ := c.def_ 27 (d := e_law_is) rfl
  obtain ⟨d28, F28⟩ := c.def_ 28 (d := e_want_order) rfl
  obtain ⟨d29, F29⟩ := c.def_ 29 (d := e_rounds) rfl
  obtain ⟨d30, F30⟩ := c.def_ 30 (d := e_law_named) rfl
  obtain ⟨d31, F31⟩ := c.def_ 31 (d := e_stretches_of) rfl
  obtain ⟨d32, F32⟩ := c.def_ 32 (d := e_stretches) rfl
  obtain ⟨d33, F33⟩ := c.def_ 33 (d := e_law) rfl
  have e := hfa.symm.trans (He.glo_ok X G (c.fact 33 (f := .glo "law") rfl))
  cases e
  have b := FunD.bindsA (ps := ["_law_script"]) F33 fun _ _ _ _ _ _ us hl => match us, hl with | [_], _ => rfl
  let T : Top K mg := {
    law_pot := ⟨_, d0, F0, He.glo_ok X G (c.fact 0 (f := .glo "_law_pot") rfl), FunD.bindsN F0 fun _ _ _ _ _ _ us hl => match us, hl with | [_, _], _ => rfl⟩
    law_digit := ⟨_, d1, F1, He.glo_ok X G (c.fact 1 (f := .glo "_law_digit") rfl), FunD.bindsN F1 fun _ _ _ _ _ _ us hl => match us, hl with | [_, _], _ => rfl⟩
    law_put_over := ⟨_, d2, F2, He.glo_ok X G (c.fact 2 (f := .glo "_law_put_over") rfl), FunD.bindsN F2 fun _ _ _ _ _ _ us hl => match us, hl with | [_, _, _, _], _ => rfl⟩
    law_rows := ⟨_, d3, F3, He.glo_ok X G (c.fact 3 (f := .glo "_law_rows") rfl), FunD.bindsN F3 fun _ _ _ _ _ _ us hl => match us, hl with | [_, _], _ => rfl⟩
    law_names := ⟨_, d4, F4, He.glo_ok X G (c.fact 4 (f := .glo "_law_names") rfl), FunD.bindsN F4 fun _ _ _ _ _ _ us hl => match us, hl with | [_, _], _ => rfl⟩
    law_web := ⟨_, d5, F5, He.glo_ok X G (c.fact 5 (f := .glo "_law_web") rfl), FunD.bindsN F5 fun _ _ _ _ _ _ us hl => match us, hl with | [_, _], _ => rfl⟩
    steps := ⟨_, d6, F6, He.glo_ok X G (c.fact 6 (f := .glo "steps") rfl), FunD.bindsN F6 fun _ _ _ _ _ _ us hl => match us, hl with | [_], _ => rfl⟩
    behind := ⟨_, d7, F7, He.glo_ok X G (c.fact 7 (f := .glo "behind") rfl), FunD.bindsN F7 fun _ _ _ _ _ _ us hl => match us, hl with | [_, _], _ => rfl⟩
    steps_round := ⟨_, d8, F8, He.glo_ok X G (c.fact 8 (f := .glo "steps_round") rfl), FunD.bindsN F8 fun _ _ _ _ _ _ us hl => match us, hl with | [_, _], _ => rfl⟩
    told_round := ⟨_, d9, F9, He.glo_ok X G (c.fact 9 (f := .glo "told_round") rfl), FunD.bindsN F9 fun _ _ _ _ _ _ us hl => match us, hl with | [_], _ => rfl⟩
    faces := ⟨_, d10, F10, He.glo_ok X G (c.fact 10 (f := .glo "faces") rfl), FunD.bindsN F10 fun _ _ _ _ _ _ us hl => match us, hl with | [_], _ => rfl⟩
    ties := ⟨_, d11, F11, He.glo_ok X G (c.fact 11 (f := .glo "ties") rfl), FunD.bindsN F11 fun _ _ _ _ _ _ us hl => match us, hl with | [_], _ => rfl⟩
    is_flat := ⟨_, d12, F12, He.glo_ok X G (c.fact 12 (f := .glo "is_flat") rfl), FunD.bindsN F12 fun _ _ _ _ _ _ us hl => match us, hl with | [_], _ => rfl⟩
    want_flat := ⟨_, d13, F13, He.glo_ok X G (c.fact 13 (f := .glo "want_flat") rfl), FunD.bindsN F13 fun _ _ _ _ _ _ us hl => match us, hl with | [_], _ => rfl⟩
    other_faces := ⟨_, d14, F14, He.glo_ok X G (c.fact 14 (f := .glo "other_faces") rfl), FunD.bindsN F14 fun _ _ _ _ _ _ us hl => match us, hl with | [_], _ => rfl⟩
    want_cornered := ⟨_, d15, F15, He.glo_ok X G (c.fact 15 (f := .glo "want_cornered") rfl), FunD.bindsN F15 fun _ _ _ _ _ _ us hl => match us, hl with | [_], _ => rfl⟩
    is_whole := ⟨_, d16, F16, He.glo_ok X G (c.fact 16 (f := .glo "is_whole") rfl), FunD.bindsN F16 fun _ _ _ _ _ _ us hl => match us, hl with | [_], _ => rfl⟩
    is_place := ⟨_, d17, F17, He.glo_ok X G (c.fact 17 (f := .glo "is_place") rfl), FunD.bindsN F17 fun _ _ _ _ _ _ us hl => match us, hl with | [_, _], _ => rfl⟩
    is_base := ⟨_, d18, F18, He.glo_ok X G (c.fact 18 (f := .glo "is_base") rfl), FunD.bindsN F18 fun _ _ _ _ _ _ us hl => match us, hl with | [_, _], _ => rfl⟩
    want_base := ⟨_, d19, F19, He.glo_ok X G (c.fact 19 (f := .glo "want_base") rfl), FunD.bindsN F19 fun _ _ _ _ _ _ us hl => match us, hl with | [_, _], _ => rfl⟩
    is_row_of_all := ⟨_, d20, F20, He.glo_ok X G (c.fact 20 (f := .glo "is_row_of_all") rfl), FunD.bindsN F20 fun _ _ _ _ _ _ us hl => match us, hl with | [_, _], _ => rfl⟩
    part_of := ⟨_, d21, F21, He.glo_ok X G (c.fact 21 (f := .glo "part_of") rfl), FunD.bindsN F21 fun _ _ _ _ _ _ us hl => match us, hl with | [_, _], _ => rfl⟩
    lies_over := ⟨_, d22, F22, He.glo_ok X G (c.fact 22 (f := .glo "lies_over") rfl), FunD.bindsN F22 fun _ _ _ _ _ _ us hl => match us, hl with | [_, _, _], _ => rfl⟩
    round_behind := ⟨_, d23, F23, He.glo_ok X G (c.fact 23 (f := .glo "round_behind") rfl), FunD.bindsN F23 fun _ _ _ _ _ _ us hl => match us, hl with | [_, _, _], _ => rfl⟩
    grown := ⟨_, d24, F24, He.glo_ok X G (c.fact 24 (f := .glo "grown") rfl), FunD.bindsN F24 fun _ _ _ _ _ _ us hl => match us, hl with | [_, _], _ => rfl⟩
    is_order_of := ⟨_, d25, F25, He.glo_ok X G (c.fact 25 (f := .glo "is_order_of") rfl), FunD.bindsN F25 fun _ _ _ _ _ _ us hl => match us, hl with | [_, _, _], _ => rfl⟩
    is_order := ⟨_, d26, F26, He.glo_ok X G (c.fact 26 (f := .glo "is_order") rfl), FunD.bindsN F26 fun _ _ _ _ _ _ us hl => match us, hl with | [_, _, _], _ => rfl⟩
    law_is := ⟨_, d27, F27, He.glo_ok X G (c.fact 27 (f := .glo "_law_is") rfl), FunD.bindsN F27 fun _ _ _ _ _ _ us hl => match us, hl with | [_, _], _ => rfl⟩
    want_order := ⟨_, d28, F28, He.glo_ok X G (c.fact 28 (f := .glo "want_order") rfl), FunD.bindsN F28 fun _ _ _ _ _ _ us hl => match us, hl with | [_, _, _], _ => rfl⟩
    rounds := ⟨_, d29, F29, He.glo_ok X G (c.fact 29 (f := .glo "rounds") rfl), FunD.bindsN F29 fun _ _ _ _ _ _ us hl => match us, hl with | [_, _, _], _ => rfl⟩
    law_named := ⟨_, d30, F30, He.glo_ok X G (c.fact 30 (f := .glo "_law_named") rfl), FunD.bindsN F30 fun _ _ _ _ _ _ us hl => match us, hl with | [_, _], _ => rfl⟩
    stretches_of := ⟨_, d31, F31, He.glo_ok X G (c.fact 31 (f := .glo "stretches_of") rfl), FunD.bindsN F31 fun _ _ _ _ _ _ us hl => match us, hl with | [_, _], _ => rfl⟩
    stretches := ⟨_, d32, F32, He.glo_ok X G (c.fact 32 (f := .glo "stretches") rfl), FunD.bindsN F32 fun _ _ _ _ _ _ us hl => match us, hl with | [_, _, _], _ => rfl⟩
    law := ⟨_, d33, F33, He.glo_ok X G (c.fact 33 (f := .glo "law") rfl), FunD.bindsN F33 fun _ _ _ _ _ _ us hl => match us, hl with | [_], _ => rfl⟩
    z_abs := He.free_ok X G (c.fact 34 (f := .free "abs") rfl)
    z_all := He.free_ok X G (c.fact 35 (f := .free "all") rfl)
    z_bool := He.free_ok X G (c.fact 36 (f := .free "bool") rfl)
    z_dict := He.free_ok X G (c.fact 37 (f := .free "dict") rfl)
    z_divmod := He.free_ok X G (c.fact 38 (f := .free "divmod") rfl)
    z_enumerate := He.free_ok X G (c.fact 39 (f := .free "enumerate") rfl)
    z_int := He.free_ok X G (c.fact 40 (f := .free "int") rfl)
    z_isinstance := He.free_ok X G (c.fact 41 (f := .free "isinstance") rfl)
    z_len := He.free_ok X G (c.fact 42 (f := .free "len") rfl)
    z_max := He.free_ok X G (c.fact 43 (f := .free "max") rfl)
    z_min := He.free_ok X G (c.fact 44 (f := .free "min") rfl)
    z_range := He.free_ok X G (c.fact 45 (f := .free "range") rfl)
    z_set := He.free_ok X G (c.fact 46 (f := .free "set") rfl)
    z_sorted := He.free_ok X G (c.fact 47 (f := .free "sorted") rfl)
    z_tuple := He.free_ok X G (c.fact 48 (f := .free "tuple") rfl)
    z_zip := He.free_ok X G (c.fact 49 (f := .free "zip") rfl)
    g_CORNERS := He.int_ok X G (c.fact 50 (f := .int "CORNERS" 3) rfl)
  }
  exact ⟨d33, fun s v => b s [v] rfl, fun base _ _ => ok_law T⟩

end W
open PySem PySem.W PySem.Calls PyProof.Rows
set_option maxHeartbeats 8000000 in
theorem PySem.Challenge.cw_restdraw_k54_whole_rounds_and_stretches_holds : PySem.Challenge.rw_restdraw_k54_whole_rounds_and_stretches.Holds := by
  w_on; o_law
  refine HandSHeadRun.head_any (r := W.Rw) (q := view W.Rw.prog [45]) (H := W.hkL) (ob := W.obL) (M := 3000) (loose := ((["DrawError", "NotFlat", "NotCornered", "NoBase", "NoOrder", "is_whole", "ties", "steps", "behind", "steps_round", "told_round", "faces", "is_flat", "want_flat", "CORNERS", "is_place", "other_faces", "is_base", "want_cornered", "want_base"] : List PySem.Str) ++ (["is_row_of_all", "part_of", "lies_over", "round_behind", "grown", "is_order_of", "is_order", "want_order", "rounds", "stretches", "stretches_of", "_law_pot", "_law_digit", "_law_put_over", "_law_rows", "_law_names", "_law_web", "_law_named", "_law_is"] : List PySem.Str))) (d := HandSHeadRun.topDef W.Rw.prog 45) (kwd := []) W.ob_eqL
    (by kernel_rfl) (fun s => by kernel_rfl) W.runL (by kernel_rfl) (by kernel_rfl) (by kernel_rfl) (by rfl) (by first | assumption | decide +kernel) (by decide +kernel) ⟨rfl, rfl, rfl, rfl, rfl, by decide +kernel⟩ ?hw ?hc
  case hw => w_witness2
  case hc =>
    refine DL.walk_ofG (l := PySem.Challenge.rw_restdraw_k54_whole_rounds_and_stretches) (n := 63) (k := 10) (x := "_law_script") (CX := L2.CX0) rfl (by decide) (by kernel_rfl) ⟨⟨rfl, by decide, by decide⟩, rfl⟩ ?F (fun _ _ _ _ z => z)
    intro w mg fa h Y G hmg0
    obtain ⟨K, KX, c⟩ := Y
    have hmg : mg ("law" : PySem.Str) = some (.ref fa) := by
      have e : (HandSHeadRun.topDef W.Rw.prog 45).name = ("law" : PySem.Str) := by kernel_rfl
      rw [← e]
      exact hmg0
    obtain ⟨fd, hb, hF⟩ := W.factsL (P := (PySem.Challenge.rw_restdraw_k54_whole_rounds_and_stretches).prog) (w := w) KX G hmg c
    exact ⟨K, fd, _, KX, hb, fun H a ns hl _ hS => DL.law_sp hS (W.law_true ns hl), hF⟩
