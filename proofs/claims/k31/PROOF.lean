import PyProof.Rows.All
import Wide.All
import OpenK.AllK
import Wide.FinOn
import HandS.ForMost
import HandS.Wide
import HandS.WideBits
import HandS.Defaults
import HandS.Ends
import HandS.HeadEnd
import HandS.IsInst
import HandS.Words
import HandS.WordsExc
import HandS.Comp
import HandS.Deep
import HandS.NoneIn
import HandS.More
import HandS.SetFor
import HandS.Strs
import HandS.Iter
import PyProof.EnumMake
import PyProof.Draws
import PyProof.TupleIter
import PyProof.ReprRoads
import PyProof.ReprText
import PyProof.ReprLen
import HandS.Conv
import HandS.Dict
import HandS.SortInts
import HandS.TupAny
import HandS.Style
import HandS.TupSets
import KE.DatumOrd
import KE.KDictCopyH
import KE.KDictPairs
import KE.SortKeyHeap
import PyProof.Rows.SetFrom
import HandS.Zip
import HandS.Rev
import HandS.HeadHook1
import HandS.HeadHook2
import HandS.ExcCtx
import HandS.ExcInit
import HandS.ExcField
import KE.KExcIs
import HandS.Text
import HandS.Replace
import HandS.Flt
import KE.KDictDisplayH
import KE.KDictZip
import KE.GoesEnum
import KE.KDictWalk
import KE.KTupSum
import KE.KEqDict
import KE.DataMinMax
import KE.KDictList
import HandS.WordsDict
import HandS.Head0
import HandS.Head1
import HandS.Head2
import PySem.Challenge.RW_restdraw_k31_solved
set_option Elab.async false
set_option linter.all false
set_option autoImplicit false
set_option exponentiation.threshold 100000
set_option maxRecDepth 100000
set_option maxHeartbeats 4000000
namespace DL
open PySem PySem.Spec L2 PyProof.Rows
structure RoomG (k : Nat) (A : Around) : Prop where
  r : Room k A
  gd : A.guards = some []
theorem RoomG.mono {j k : Nat} {A : Around} (h : RoomG k A) (l : j ≤ k) : RoomG j A := ⟨h.r.mono l, h.gd⟩
theorem RoomG.deeper {k : Nat} {A : Around} (h : RoomG (k + 1) A) (env : PySem.Env) : RoomG k (A.deeper env) := ⟨h.r.deeper env, h.gd⟩
structure FnG (P : Program) (w : World) (K : PySem.W.Frag) (mg : Str → Option Value) (bs : Heap) (CX : CXT) (k : Nat) (fa : Addr) (fd : FuncData) (ps : List Str) (sp : Sp) : Prop where
  many : ∀ xs G Z W, sp xs G Z W → xs.length = ps.length
  go : ∀ (A : Around) (out : List PySem.Env) (t : Shared) (G : Hp) (ar : Args) (us : List Value) (xs : List V) (Z : VK) (W : XK), RoomG k A → Env0 P w K mg bs A out t G → BindsTo t fd ar (ps.zip us) → Vals xs us →
    sp xs G Z W → codeAny (model P w) A (.call (.ref fa) ar) (CR CX out P w G t Z W) t
section
variable {P : Program} {w : World} {K : PySem.W.Frag} {mg : Str → Option Value} {bs : Heap} {CX : CXT} {k : Nat} {fa : Addr} {fd : FuncData} {ps : List Str} {sp : Sp}
theorem fn_ofG {x qual : Str} {params : Arguments} {body : List Stmt} {scope : Scope} {N : List Str} (F : FunD K x qual params body scope [] [] fa fd) (S : FnScope N ps scope) (many : ∀ xs G Z W, sp xs G Z W → xs.length = ps.length)
    (hb : ∀ (cv : Value) (A : Around) (out : List PySem.Env) (t : Shared) (G : Hp) (xs : List V) (Z : VK) (W : XK), RoomG k (A.deeper (envOfC qual scope t.heap.objs.size fa cv)) → sp xs G Z W →
      ∃ r, PSs (cxOf CX P w K mg bs N qual scope fa cv A out t G W) body r ∧ r { nx := fun _ G' => Z .non G', rt := Z } (start N xs) G) :
    FnG P w K mg bs CX (k + 1) fa fd ps sp := by
  obtain ⟨oc, od, dV, kV, doc, pm, an, cv, ct, osl, e, lk, cin, _, _⟩ := F.ex
  subst e
  refine ⟨many, ?_⟩
  intro A out t G ar us xs Z W room env bind rel pr
  have sizes := many _ _ _ _ pr
  have KI : K.In t.heap := env.mod.kin.keeps fun b o z => (env.bs b o z).1
  have free : t.heap.NoLimit := env.mod.nolimit.keeps fun b o z => (env.bs b o z).1
  refine codeAny_call_function room.r.depth (KI _ _ lk) rfl S.co S.gen rfl (PySem.W.codeRec_of KI cin) (bind _ _ _ _ ?_)
  have kinds : ∀ q ∈ ps.zip us, scope.names.lookup q.1 = some .local ∨ (scope.names.lookup q.1 = some .cell ∧ ((cellsFrom (t.heap.objs.size + 1) scope.names []).lookup q.1).isSome = true) := by
    rintro ⟨n, v⟩ hq
    exact (S.par n (List.of_mem_zip hq).1).elim Or.inl fun z => Or.inr ⟨z, PySem.W.cellsFrom_some _ _ _ (.inl z)⟩
  refine wpAny_newFunctionEnv_cells S.kind kinds ?_
  intro ev hev t1 x1
  subst hev
  refine ⟨free.keeps x1.toInCall.keep, codeAny_func ?_⟩
  obtain ⟨r, hrun, hst⟩ := hb cv A out t G xs Z W (room.deeper _) pr
  have I0 : Inv (cxOf CX P w K mg bs N qual scope fa cv A out t G W) [] (start N xs) G t1 := inv_start S room.r.hd env sizes rel x1
  refine wpAny_mono (hrun.run [] t1 (start N xs) G _ I0 hst) ?_ (fun e t' z => z)
  intro fl t' z
  have done : ∀ {τ : L2.St} {G' : Hp} {v : V} {u : Value}, Inv (cxOf CX P w K mg bs N qual scope fa cv A out t G W) [] τ G' t' → RelV v u → Z v G' → CE out P w G t Z u t' := by
    intro τ G' v u J rv q
    exact ⟨v, G', J.os, J.bare, J.base, J.hok, rv, q⟩
  match fl, z with
  | .ret u, ⟨v, τ, G', J, rv, q⟩ => exact done J rv q
  | .next, ⟨τ, G', J, q⟩ => exact done (v := .non) (u := .none) J rfl q
  | .brk, ⟨_, _, _, q⟩ => exact q.elim
  | .cont, ⟨_, _, _, q⟩ => exact q.elim
end
section
variable {X : Cx} {CX : CXT} {k : Nat} {f : Addr} {fd : FuncData} {ps : List Str} {sp : Sp} {W : XK} {x : Str} {p pos : Pos} {e : Expr} {es : List Expr} {t : TA}
theorem go_fn {pins : List (Addr × Obj)} {σ : L2.St} {G : Hp} {s : Shared} {Q : VK} {us : List Value} {xs : List V} (F : FnG X.prog X.w X.K X.mg X.base CX k f fd ps sp) (room : RoomG k X.A) (hb : Binds X.K fd ps []) (pass : Passes CX X W)
    (I : Inv X pins σ G s) (r : Vals xs us) (pr : sp xs G Q W) : wpAny (model X.prog X.w) X.A (call (.ref f) us) (EP X pins σ Q) X.xe s := by
  have n : (us ++ []).length = ps.length := by
    rw [List.append_nil, ← r.length]
    exact F.many _ _ _ _ pr
  have b := hb s us I.kIn n
  rw [List.append_nil] at b
  refine wpAny_call (codeAny_mono (F.go X.A X.stack s G ⟨us, []⟩ us xs Q W room I.env0 b r pr) ?_)
  intro res s' z
  match res, z with
  | .error e, z => exact pass pins σ G s e s' I z
  | .ok (.ret u), z => exact I.after z
  | .ok .next, z => exact z.elim
  | .ok .brk, z => exact z.elim
  | .ok .cont, z => exact z.elim
theorem pe_callG (F : FnG X.prog X.w X.K X.mg X.base CX k f fd ps sp) (room : RoomG k X.A) (hg : Gl X x) (hm : X.mg x = some (.ref f)) (hk : PySem.W.keepIn X.K (.ref f) = true) (hb : Binds X.K fd ps []) (pass : Passes CX X W) (ha : PA X (e :: es) t)
    (hdb : (x == ("__debug__" : Str)) = false := by decide) (he : starEach (e :: es) X.env = (false, eval e X.env) :: starEach es X.env := by rfl) (hpl : (backTo pos (starEach es X.env)).any (·.1) = false := by rfl) :
    PE X (.Call (.Name x p) (e :: es) [] pos) (tCall sp [] W t) :=
  ⟨fun pins s σ G Q I h => wpAny_Call_Name_kw (ld_glob I hg hm (PySem.W.callWith_K (h₀ := X.base) I.ok.mod.kin hk (thn (ha.run pos pins s σ G _ I h) fun us s1 z => by
    obtain ⟨xs, G1, I1, r, q⟩ := z
    refine ⟨I1.kIn, go_fn F room hb pass I1 r ?_⟩
    rw [List.append_nil] at q
    exact q) he hpl) hdb)⟩
end
theorem law_callG {P : Program} {w : World} {K : PySem.W.Frag} {mg mb : Str → Option Value} {CX : CXT} {k : Nat} {fa a : Addr} {fd : FuncData} {x : Str} {sp : Sp} {t : Shared} {us : List Value} {ns : List Int}
    (KI : K.In t.heap) (n1 : t.heap.Ns mainGlobals mg) (n2 : t.heap.Ns builtinsNs mb) (n3 : ∀ x : Str, x ≠ "__name__" → mb x = bootBuiltins x) (n4 : t.heap.NoLimit) (n5 : t.gens = #[])
    (ob : t.heap.get? a = some { cls := .type "list", data := .seq us.toArray }) (are : IntsAre us ns) (few : ns.length ≤ sizeLine) (room : RoomG k callerA)
    (F : ∀ bs : Heap, K.In bs → bs.Ns mainGlobals mg → FnG P w K mg bs CX k fa fd [x] sp) (bind : ∀ (s : Shared) (u : Value), BindsTo s fd ⟨[u], []⟩ [(x, u)])
    (pr : ∀ G : Hp, Only G → SqL K G a (ns.map V.int) → sp [.ref a] G (fun v _ => v = .bl true) fun _ _ _ => False)
    (noX : ∀ G e t', CX [] G t (fun _ _ _ => False) e t' → False) :
    codeAny (model P w) callerA (.call (.ref fa) ⟨[.ref a], []⟩) (fun r t' => r = .ok (.ret (.bool true)) ∧ OldK t.heap t'.heap ∧ t'.os = t.os ∧ AllBare t'.gens) t := by
  have rel := vals_ints are
  have main : ∀ G : Hp, Only G → SqL K G a (ns.map V.int) → HOk P w G t.heap → (∀ b, G b ≠ none → b = a) → (G a ≠ none → K.lookup a = none) →
      codeAny (model P w) callerA (.call (.ref fa) ⟨[.ref a], []⟩) (fun r t' => r = .ok (.ret (.bool true)) ∧ OldK t.heap t'.heap ∧ t'.os = t.os ∧ AllBare t'.gens) t := by
    intro G only sq ok isA notK
    have alone : ∀ {b : Addr}, b ≠ a → G b = none := fun {b} z => Classical.byContradiction fun y => z (isA b y)
    have hid : ∀ {b : Addr} {o : Obj}, t.heap.get? b = some o → G b = none → (hidT t.heap G).get? b = some o := fun z y => hidT_get z y
    have noD : ∀ {b : Addr} {o : Obj} {es : Array DictEntry} {ep : Nat}, t.heap.get? b = some o → o.data = .dict es ep → G b = none := by
      intro b o es ep z d
      by_cases hba : b = a
      · subst hba
        rw [ob] at z
        injection z with z
        subst z
        exact nomatch (show Data.seq us.toArray _ = Data.dict es ep from d)
      · exact alone hba
    have nss : ∀ {b : Addr} {m : Str → Option Value}, t.heap.Ns b m → (hidT t.heap G).Ns b m := by
      rintro b m ⟨o, es, ep, z, d, r⟩
      exact ⟨o, es, ep, hid z (noD z d), d, r⟩
    have KB : K.In (hidT t.heap G) := by
      intro b o z
      refine hid (KI b o z) ?_
      by_cases hba : b = a
      · subst hba
        by_cases y : G b = none
        · exact y
        · rw [notK y] at z
          cases z
      · exact alone hba
    obtain ⟨mc, l1, l2⟩ := n4
    have en : Env0 P w K mg (hidT t.heap G) callerA [] t G :=
      ⟨rfl, ⟨KB, nss n1, ⟨mb, nss n2, n3⟩, ⟨mc, nss l1, l2⟩⟩, fun b o z => of_hidT z, Nat.le_of_eq (hidT_size _ _), trivial, fun b z => absurd (show b ∈ ([] : List Addr) from z) List.not_mem_nil, ok, .of_eq n5⟩
    refine codeAny_mono ((F _ KB (nss n1)).go callerA [] t G ⟨[.ref a], []⟩ [.ref a] [.ref a] _ _ room en (bind t (.ref a)) (.cons rfl .nil) (pr G only sq)) ?_
    intro r t' z
    match r, z with
    | .error e, z => exact (noX G e t' z).elim
    | .ok .next, z => exact z.elim
    | .ok .brk, z => exact z.elim
    | .ok .cont, z => exact z.elim
    | .ok (.ret u), ⟨v, G', os, bare, un, ok', rv, q⟩ =>
      have q : v = .bl true := q
      subst q
      have rv : u = Value.bool true := rv
      subst rv
      refine ⟨rfl, OldK.of_keep ?_, os, bare⟩
      intro b o z
      by_cases y : G b = none
      · exact un.keep b o z y (fun m => absurd (show b ∈ ([] : List Addr) from m) List.not_mem_nil) (by simp)
      · rcases only b with y' | ⟨ob', xs, y'⟩
        · exact absurd y' y
        · obtain ⟨e2, _⟩ := ok' b _ (un.frzs b ob' _ y')
          obtain ⟨e1, _⟩ := ok b _ y'
          rw [z] at e1
          injection e1 with e1
          subst e1
          exact e2
  by_cases hk : ∃ o, K.lookup a = some o
  · obtain ⟨o, hk⟩ := hk
    have z := KI a o hk
    rw [ob] at z
    injection z with z
    subst z
    refine main (fun _ => none) (fun _ => Or.inl rfl) (Or.inr ⟨_, us.toArray, _, hk, rfl, rfl, rfl, ?_, by simpa using rel⟩) ?_ (fun b z => (z rfl).elim) (fun z => (z rfl).elim)
    · rw [List.size_toArray, are.length]
      exact few
    · intro b u z
      exact nomatch (show (none : Option HO) = some u from z)
  · have hk : K.lookup a = none := by
      cases z : K.lookup a with
      | none => rfl
      | some o => exact (hk ⟨o, z⟩).elim
    have at_ : ∀ {b : Addr} {u : HO}, (if b = a then some (HO.frz { cls := .type "list", data := .seq us.toArray } (.lst (ns.map V.int))) else none) = some u → b = a ∧ u = HO.frz { cls := .type "list", data := .seq us.toArray } (.lst (ns.map V.int)) := by
      intro b u z
      split at z
      · injection z with z
        exact ⟨by assumption, z.symm⟩
      · cases z
    refine main (fun b => if b = a then some (.frz { cls := .type "list", data := .seq us.toArray } (.lst (ns.map V.int))) else none) ?_ (Or.inl (Or.inr ⟨_, if_pos rfl⟩)) ?_ ?_ (fun _ => hk)
    · intro b
      by_cases hb : b = a
      · exact Or.inr ⟨_, _, if_pos hb⟩
      · exact Or.inl (if_neg hb)
    · intro b u z
      obtain ⟨rfl, rfl⟩ := at_ z
      exact ⟨ob, by rw [List.length_map]; exact few, us, _, rel, ob⟩
    · intro b z
      by_cases hb : b = a
      · exact hb
      · exact absurd (if_neg hb) z
theorem walk_ofG {l : PySem.W.OpenLaw} {n k : Nat} {q : Program} {loose : List Str} {XP : (Str → Option Value) → Heap → Prop} {YP : World → Heap → Prop} {d : DefRec} {CX : CXT} {x : Str}
    (most : l.most = some n) (few : n ≤ sizeLine) (nodf : d.params.defaults = []) (room : RoomG k callerA)
    (F : ∀ (w : World) (mg : Str → Option Value) (fa : Addr) (h : Heap), YP w h → h.Ns mainGlobals mg → mg d.name = some (.ref fa) →
      ∃ (K : PySem.W.Frag) (fd : FuncData) (sp : Sp), K.In h ∧ (∀ (s : Shared) (u : Value), BindsTo s fd ⟨[u], []⟩ [(x, u)]) ∧
        (∀ (G : Hp) (a : Addr) (ns : List Int), ns.length ≤ n → Only G → SqL K G a (ns.map V.int) → sp [.ref a] G (fun v _ => v = .bl true) fun _ _ _ => False) ∧
        ∀ bs : Heap, K.In bs → bs.Ns mainGlobals mg → FnG l.prog w K mg bs CX k fa fd [x] sp)
    (noX : ∀ (G : Hp) (t : Shared) (e : Value) (t' : Shared), CX [] G t (fun _ _ _ => False) e t' → False) :
    PySem.W.WalkO q loose XP YP l.row.toRowW d [] (fun f us => PySem.call f us) := by
  refine Att.attach_call most nodf ?_
  intro w s0 s1 mg mb fa o pm cd doc a us ns G Y ho hd hcd hmg hob hi hl hg
  obtain ⟨K, fd, sp, KI, bind, pr, hF⟩ := F w mg fa _ Y G.T.g hmg
  exact law_callG KI G.T.g G.T.b G.T.builtins G.T.nolimit hg hob hi (Nat.le_trans hl few) room hF bind (fun H only sq => pr H a ns hl only sq) fun H e s' => noX H s1 e s'
end DL
namespace DL
open PySem PySem.Spec L2
inductive D where
  | none
  | bool (b : Bool)
  | int (i : Int)
  | str (s : Str)
  | list (xs : List D)
  | tuple (xs : List D)
  | dict (kvs : List (D × D))
  | scr (ns : List Int)
  | row (ds : List D)
  | key (ks : List Int)
  | exn (c f : Str) (ds : List D)
  | ddk (kvs : List (D × D))
structure Exn where
  cls : Str
  fn : Str
  ds : List D
def Exn.d (e : Exn) : D := .exn e.cls e.fn e.ds
inductive R (α : Type) where
  | ok (a : α)
  | err (e : Exn)
  | bad
namespace R
def bind {α β : Type} : R α → (α → R β) → R β
  | .ok a, f => f a
  | .err e, _ => .err e
  | .bad, _ => .bad
def post {α : Type} (m : R α) (φ : α → Prop) (ψ : Exn → Prop) : Prop := match m with
  | .ok a => φ a
  | .err e => ψ e
  | .bad => False
theorem post_bind {α β : Type} {m : R α} {f : α → R β} {φ : β → Prop} {ψ : Exn → Prop} : (m.bind f).post φ ψ ↔ m.post (fun a => (f a).post φ ψ) ψ := by
  cases m <;> exact Iff.rfl
theorem post_mono {α : Type} {m : R α} {φ φ' : α → Prop} {ψ : Exn → Prop} (h : m.post φ ψ) (k : ∀ a, φ a → φ' a) : m.post φ' ψ := by
  cases m with
  | ok a => exact k a h
  | err e => exact h
  | bad => exact h
def guard (c : Prop) [Decidable c] : R Unit := if c then .ok () else .bad
theorem post_guard {c : Prop} [Decidable c] {φ : Unit → Prop} {ψ : Exn → Prop} (h : (guard c).post φ ψ) : c ∧ φ () := by
  unfold guard at h
  by_cases hc : c
  · rw [if_pos hc] at h
    exact ⟨hc, h⟩
  · rw [if_neg hc] at h
    exact h.elim
def some {α : Type} : Option α → R α
  | .some a => .ok a
  | .none => .bad
theorem post_some {α : Type} {o : Option α} {φ : α → Prop} {ψ : Exn → Prop} (h : (some o).post φ ψ) : ∃ a, o = .some a ∧ φ a := by
  cases o with
  | none => exact h.elim
  | some a => exact ⟨a, rfl, h⟩
end R
def Ex (H H' : Hp) : Prop := ∀ a o, H a = some o → H' a = some o
theorem Ex.refl (H : Hp) : Ex H H := fun _ _ h => h
theorem Ex.trans {H H1 H2 : Hp} (a : Ex H H1) (b : Ex H1 H2) : Ex H H2 := fun x o h => b x o (a x o h)
theorem Ex.new {H : Hp} {p : Addr} {o : HO} (h : H p = none) : Ex H (upd H p o) := fun a u e => by
  rw [upd_ne (ne_of_none e h)]
  exact e
theorem Ex.upd {H H' : Hp} (e : Ex H H') (p : Addr) (o : HO) : Ex (upd H p o) (upd H' p o) := fun a u h => by
  by_cases ha : a = p
  · subst ha
    rw [upd_same] at h ⊢
    exact h
  · rw [upd_ne ha] at h ⊢
    exact e a u h
theorem Ex.rd {H H' : Hp} {a : Addr} {u : HO} (e : Ex H H') (h : Rd H a u) : Rd H' a u := by
  rcases h with h | ⟨o, h⟩
  · exact Or.inl (e a _ h)
  · exact Or.inr ⟨o, e a _ h⟩
theorem Ex.l {K : PySem.W.Frag} {H H' : Hp} {a : Addr} {xs : List V} (e : Ex H H') (h : SqL K H a xs) : SqL K H' a xs := by
  rcases h with h | h
  · exact Or.inl (e.rd h)
  · exact Or.inr h
theorem Ex.t {K : PySem.W.Frag} {H H' : Hp} {a : Addr} {xs : List V} (e : Ex H H') (h : SqT K H a xs) : SqT K H' a xs := by
  rcases h with h | h
  · exact Or.inl (e.rd h)
  · exact Or.inr h
theorem Ex.back {H H' : Hp} {p : Addr} (e : Ex H H') (h : H' p = none) : H p = none := by
  cases h1 : H p with
  | none => rfl
  | some o =>
    rw [e p o h1] at h
    cases h
def ClsNm (K : PySem.W.Frag) (c : Str) (C : Addr) : Prop := ∃ cd, PySem.W.clsIn K C = some cd ∧ cd.name = c
def exq (a C : Addr) (d : Option Addr) : HO := .ext fun h => ∃ oe, h.get? a = some oe ∧ oe.cls = .ref C ∧ oe.dict = d ∧ ∃ vs, oe.data = .fields vs
mutual
inductive Rp (K : PySem.W.Frag) (G : Hp) : V → D → Prop
  | non : Rp K G .non .none
  | bl (b : Bool) : Rp K G (.bl b) (.bool b)
  | int (i : Int) : Rp K G (.int i) (.int i)
  | str (x : Str) : Rp K G (.str x) (.str x)
  | lst {a : Addr} {xs : List V} {ds : List D} : Rd G a (.lst xs) → RpAll K G xs ds → Rp K G (.ref a) (.list ds)
  | tup {a : Addr} {xs : List V} {ds : List D} : SqT K G a xs → RpAll K G xs ds → Rp K G (.ref a) (.tuple ds)
  | scr {a : Addr} {ns : List Int} : SqL K G a (ns.map V.int) → Rp K G (.ref a) (.scr ns)
  | row {a : Addr} {ob : Obj} {xs : List V} {ds : List D} : G a = some (.frz ob (.tup xs)) → ob.dict = none → RpAll K G xs ds → Rp K G (.ref a) (.row ds)
  | key {a : Addr} {ks : List Int} : G a = some (.tup (ks.map V.int)) → Rp K G (.ref a) (.key ks)
  | dK {a : Addr} {kvs : List (Key × V)} {ds : List (D × D)} : G a = some (.dK kvs) → RpK K G kvs ds → Rp K G (.ref a) (.dict ds)
  | dT {a : Addr} {kvs : List (List Key × V)} {ds : List (D × D)} : G a = some (.dT kvs) → RpT K G kvs ds → Rp K G (.ref a) (.dict ds)
  | ddk {a : Addr} {o : Obj} {kvs : List (Key × V)} {ds : List (D × D)} : G a = some (.frz o (.dK kvs)) → RpK K G kvs ds → Rp K G (.ref a) (.ddk ds)
  | ddt {a : Addr} {o : Obj} {kvs : List (List Key × V)} {ds : List (D × D)} : G a = some (.frz o (.dT kvs)) → RpT K G kvs ds → Rp K G (.ref a) (.ddk ((D.none, D.none) :: ds))
  | exn0 {a C : Addr} {c f : Str} : G a = some (exq a C none) → ClsNm K c C → Rp K G (.ref a) (.exn c f [])
  | exn1 {a C dx : Addr} {c f : Str} {y : V} {e : D} : G a = some (exq a C (some dx)) → ClsNm K c C → G dx = some (.xd [(f, y)]) → Rp K G y e → Rp K G (.ref a) (.exn c f [e])
  | any {v : V} : v ≠ .non → Rp K G v (.ddk [(.bool true, .none)])
inductive RpAll (K : PySem.W.Frag) (G : Hp) : List V → List D → Prop
  | nil : RpAll K G [] []
  | cons {v : V} {vs : List V} {d : D} {ds : List D} : Rp K G v d → RpAll K G vs ds → RpAll K G (v :: vs) (d :: ds)
inductive RpK (K : PySem.W.Frag) (G : Hp) : List (Key × V) → List (D × D) → Prop
  | nil : RpK K G [] []
  | cons {k : Key} {v : V} {r : List (Key × V)} {d : D} {ds : List (D × D)} : Rp K G v d → RpK K G r ds → RpK K G ((k, v) :: r) ((match k with | .inl i => D.int i | .inr x => D.str x, d) :: ds)
inductive RpT (K : PySem.W.Frag) (G : Hp) : List (List Key × V) → List (D × D) → Prop
  | nil : RpT K G [] []
  | cons {k : List Key} {v : V} {r : List (List Key × V)} {d : D} {ds : List (D × D)} : Rp K G v d → RpT K G r ds → RpT K G ((k, v) :: r) ((D.tuple (k.map fun k => match k with | .inl i => D.int i | .inr x => D.str x), d) :: ds)
end
mutual
theorem Rp.ex {K : PySem.W.Frag} {G G' : Hp} (e : Ex G G') : ∀ {v : V} {d : D}, Rp K G v d → Rp K G' v d
  | _, _, .non => .non
  | _, _, .bl b => .bl b
  | _, _, .int i => .int i
  | _, _, .str x => .str x
  | _, _, .lst h r => .lst (e.rd h) (RpAll.ex e r)
  | _, _, .tup h r => .tup (e.t h) (RpAll.ex e r)
  | _, _, .scr h => .scr (e.l h)
  | _, _, .row h d r => .row (e _ _ h) d (RpAll.ex e r)
  | _, _, .key h => .key (e _ _ h)
  | _, _, .dK h r => .dK (e _ _ h) (RpK.ex e r)
  | _, _, .dT h r => .dT (e _ _ h) (RpT.ex e r)
  | _, _, .ddk h r => .ddk (e _ _ h) (RpK.ex e r)
  | _, _, .ddt h r => .ddt (e _ _ h) (RpT.ex e r)
  | _, _, .exn0 h n => .exn0 (e _ _ h) n
  | _, _, .exn1 h n g r => .exn1 (e _ _ h) n (e _ _ g) (Rp.ex e r)
  | _, _, .any z => .any z
theorem RpAll.ex {K : PySem.W.Frag} {G G' : Hp} (e : Ex G G') : ∀ {v : List V} {d : List D}, RpAll K G v d → RpAll K G' v d
  | _, _, .nil => .nil
  | _, _, .cons h r => .cons (Rp.ex e h) (RpAll.ex e r)
theorem RpK.ex {K : PySem.W.Frag} {G G' : Hp} (e : Ex G G') : ∀ {v : List (Key × V)} {d : List (D × D)}, RpK K G v d → RpK K G' v d
  | _, _, .nil => .nil
  | _, _, .cons h r => .cons (Rp.ex e h) (RpK.ex e r)
theorem RpT.ex {K : PySem.W.Frag} {G G' : Hp} (e : Ex G G') : ∀ {v : List (List Key × V)} {d : List (D × D)}, RpT K G v d → RpT K G' v d
  | _, _, .nil => .nil
  | _, _, .cons h r => .cons (Rp.ex e h) (RpT.ex e r)
end
section
variable {K : PySem.W.Frag} {G : Hp}
theorem Rp.int_inv {v : V} {i : Int} (h : Rp K G v (.int i)) : v = .int i := by
  cases h
  rfl
theorem Rp.bl_inv {v : V} {b : Bool} (h : Rp K G v (.bool b)) : v = .bl b := by
  cases h
  rfl
theorem Rp.str_inv {v : V} {b : Str} (h : Rp K G v (.str b)) : v = .str b := by
  cases h
  rfl
theorem Rp.non_inv {v : V} (h : Rp K G v .none) : v = .non := by
  cases h
  rfl
theorem Rp.lst_inv {v : V} {ds : List D} (h : Rp K G v (.list ds)) : ∃ a xs, v = .ref a ∧ Rd G a (.lst xs) ∧ RpAll K G xs ds := by
  cases h with
  | lst h r => exact ⟨_, _, rfl, h, r⟩
theorem Rp.tup_inv {v : V} {ds : List D} (h : Rp K G v (.tuple ds)) : ∃ a xs, v = .ref a ∧ SqT K G a xs ∧ RpAll K G xs ds := by
  cases h with
  | tup h r => exact ⟨_, _, rfl, h, r⟩
theorem RpAll.len : ∀ {vs : List V} {ds : List D}, RpAll K G vs ds → vs.length = ds.length
  | _, _, .nil => rfl
  | _, _, .cons _ r => by rw [List.length_cons, List.length_cons, RpAll.len r]
theorem RpAll.get : ∀ {vs : List V} {ds : List D} {i : Nat} {d : D}, RpAll K G vs ds → ds[i]? = some d → ∃ v, vs[i]? = some v ∧ Rp K G v d
  | _, _, _, _, .nil, e => by simp at e
  | _, _, 0, _, .cons h _, e => by
    simp at e
    subst e
    exact ⟨_, rfl, h⟩
  | _, _, i + 1, _, .cons _ r, e => by
    obtain ⟨v, h1, h2⟩ := RpAll.get (i := i) r (by simpa using e)
    exact ⟨v, by simpa using h1, h2⟩
theorem RpAll.getV : ∀ {vs : List V} {ds : List D} {i : Nat} {v : V}, RpAll K G vs ds → vs[i]? = some v → ∃ d, ds[i]? = some d ∧ Rp K G v d
  | _, _, _, _, .nil, e => by simp at e
  | _, _, 0, _, .cons h _, e => by
    simp at e
    subst e
    exact ⟨_, rfl, h⟩
  | _, _, i + 1, _, .cons _ r, e => by
    obtain ⟨v, h1, h2⟩ := RpAll.getV (i := i) r (by simpa using e)
    exact ⟨v, by simpa using h1, h2⟩
theorem RpAll.append : ∀ {vs ws : List V} {ds es : List D}, RpAll K G vs ds → RpAll K G ws es → RpAll K G (vs ++ ws) (ds ++ es)
  | _, _, _, _, .nil, s => s
  | _, _, _, _, .cons h r, s => .cons h (RpAll.append r s)
theorem RpAll.take : ∀ {vs : List V} {ds : List D} (n : Nat), RpAll K G vs ds → RpAll K G (vs.take n) (ds.take n)
  | _, _, 0, _ => by
    rw [List.take_zero, List.take_zero]
    exact .nil
  | _, _, _ + 1, .nil => .nil
  | _, _, n + 1, .cons h r => .cons h (RpAll.take n r)
theorem RpAll.drop : ∀ {vs : List V} {ds : List D} (n : Nat), RpAll K G vs ds → RpAll K G (vs.drop n) (ds.drop n)
  | _, _, 0, r => r
  | _, _, _ + 1, .nil => .nil
  | _, _, n + 1, .cons _ r => RpAll.drop n r
theorem RpAll.ints : ∀ {vs : List V} {ns : List Int}, RpAll K G vs (ns.map D.int) → vs = ns.map V.int
  | _, [], .nil => rfl
  | _, n :: ns, .cons h r => by
    rw [List.map_cons, ← RpAll.ints r, Rp.int_inv h]
theorem RpAll.of_ints : ∀ (ns : List Int), RpAll K G (ns.map V.int) (ns.map D.int)
  | [] => .nil
  | n :: ns => .cons (.int n) (RpAll.of_ints ns)
theorem RpAll.bools : ∀ {vs : List V} {ns : List Bool}, RpAll K G vs (ns.map D.bool) → vs = ns.map V.bl
  | _, [], .nil => rfl
  | _, n :: ns, .cons h r => by
    rw [List.map_cons, ← RpAll.bools r, Rp.bl_inv h]
end
inductive OT where
  | dat (d : D)
  | lst (os : List OT)
  | dk (kvs : List (Key × D))
  | dt (kvs : List (List Key × D))
  | tp (os : List OT)
  | dko (ks : List Key) (os : List OT)
  | obj (c : Str) (fs : List Str) (os : List OT)
def keyD : Key → D
  | .inl i => .int i
  | .inr x => .str x
inductive RpE {κ : Type} (K : PySem.W.Frag) (G : Hp) : List (κ × V) → List (κ × D) → Prop
  | nil : RpE K G [] []
  | cons {k : κ} {v : V} {d : D} {r : List (κ × V)} {ds : List (κ × D)} : Rp K G v d → RpE K G r ds → RpE K G ((k, v) :: r) ((k, d) :: ds)
theorem RpE.ex {κ : Type} {K : PySem.W.Frag} {G G' : Hp} (e : Ex G G') {kvs : List (κ × V)} {ds : List (κ × D)} (h : RpE K G kvs ds) : RpE K G' kvs ds := by
  induction h with
  | nil => exact .nil
  | cons h _ ih => exact .cons (h.ex e) ih
theorem RpE.k {K : PySem.W.Frag} {G : Hp} {kvs : List (Key × V)} {ds : List (Key × D)} (h : RpE K G kvs ds) : RpK K G kvs (ds.map fun p => (keyD p.1, p.2)) := by
  induction h with
  | nil => exact .nil
  | @cons k v d r ds h _ ih => cases k <;> exact .cons h ih
theorem RpE.t {K : PySem.W.Frag} {G : Hp} {kvs : List (List Key × V)} {ds : List (List Key × D)} (h : RpE K G kvs ds) : RpT K G kvs (ds.map fun p => (D.tuple (p.1.map keyD), p.2)) := by
  induction h with
  | nil => exact .nil
  | @cons k v d r ds h _ ih =>
    have e : k.map keyD = k.map fun k => match k with | .inl i => D.int i | .inr x => D.str x := List.map_congr_left fun x _ => by cases x <;> rfl
    rw [List.map_cons]
    show RpT K G _ ((D.tuple (k.map keyD), d) :: _)
    rw [e]
    exact .cons h ih
mutual
inductive Own (K : PySem.W.Frag) (G H : Hp) : V → OT → List Addr → Prop
  | dat {v : V} {d : D} : Rp K G v d → Own K G H v (.dat d) []
  | lst {a : Addr} {vs : List V} {os : List OT} {A : List Addr} : H a = some (.lst vs) → OwnAll K G H vs os A → Own K G H (.ref a) (.lst os) (a :: A)
  | dk {a : Addr} {kvs : List (Key × V)} {ds : List (Key × D)} : H a = some (.dK kvs) → RpE K G kvs ds → Own K G H (.ref a) (.dk ds) [a]
  | dt {a : Addr} {kvs : List (List Key × V)} {ds : List (List Key × D)} : H a = some (.dT kvs) → RpE K G kvs ds → Own K G H (.ref a) (.dt ds) [a]
  | tp {a : Addr} {vs : List V} {os : List OT} {A : List Addr} : SqT K G a vs → OwnAll K G H vs os A → Own K G H (.ref a) (.tp os) A
  | dko {a : Addr} {kvs : List (Key × V)} {ks : List Key} {os : List OT} {A : List Addr} : H a = some (.dK kvs) → kvs.map (·.1) = ks → OwnAll K G H (kvs.map (·.2)) os A → Own K G H (.ref a) (.dko ks os) (a :: A)
  | obj {a C dx : Addr} {c : Str} {kvs : List (Str × V)} {fs : List Str} {os : List OT} {A : List Addr} : H a = some (.ins C dx kvs) → H dx = some (.own a) → ClsNm K c C → kvs.map (·.1) = fs → OwnAll K G H (kvs.map (·.2)) os A → Own K G H (.ref a) (.obj c fs os) (a :: dx :: A)
inductive OwnAll (K : PySem.W.Frag) (G H : Hp) : List V → List OT → List Addr → Prop
  | nil : OwnAll K G H [] [] []
  | cons {v : V} {vs : List V} {o : OT} {os : List OT} {A A' : List Addr} : Own K G H v o A → OwnAll K G H vs os A' → OwnAll K G H (v :: vs) (o :: os) (A ++ A')
end
mutual
theorem Own.ex {K : PySem.W.Frag} {G G' H H' : Hp} (e : Ex G G') : ∀ {v : V} {o : OT} {A : List Addr}, Own K G H v o A → (∀ a ∈ A, ∀ u, H a = some u → H' a = some u) → Own K G' H' v o A
  | _, _, _, .dat h, _ => .dat (h.ex e)
  | _, _, _, .lst h r, k => .lst (k _ (List.mem_cons_self) _ h) (OwnAll.ex e r fun a m => k a (List.mem_cons_of_mem _ m))
  | _, _, _, .dk h r, k => .dk (k _ (List.mem_cons_self) _ h) (r.ex e)
  | _, _, _, .dt h r, k => .dt (k _ (List.mem_cons_self) _ h) (r.ex e)
  | _, _, _, .tp h r, k => .tp (e.t h) (OwnAll.ex e r k)
  | _, _, _, .dko h hk r, k => .dko (k _ (List.mem_cons_self) _ h) hk (OwnAll.ex e r fun a m => k a (List.mem_cons_of_mem _ m))
  | _, _, _, .obj h g n hk r, k => .obj (k _ List.mem_cons_self _ h) (k _ (List.mem_cons_of_mem _ List.mem_cons_self) _ g) n hk (OwnAll.ex e r fun a m => k a (List.mem_cons_of_mem _ (List.mem_cons_of_mem _ m)))
theorem OwnAll.ex {K : PySem.W.Frag} {G G' H H' : Hp} (e : Ex G G') : ∀ {v : List V} {o : List OT} {A : List Addr}, OwnAll K G H v o A → (∀ a ∈ A, ∀ u, H a = some u → H' a = some u) → OwnAll K G' H' v o A
  | _, _, _, .nil, _ => .nil
  | _, _, _, .cons h r, k => .cons (Own.ex e h fun a m => k a (List.mem_append_left _ m)) (OwnAll.ex e r fun a m => k a (List.mem_append_right _ m))
end
mutual
def OT.toD : OT → D
  | .dat d => d
  | .lst os => .list (OT.toDs os)
  | .dk kvs => .dict (kvs.map fun p => (keyD p.1, p.2))
  | .dt kvs => .dict (kvs.map fun p => (D.tuple (p.1.map keyD), p.2))
  | .tp os => .tuple (OT.toDs os)
  | .dko ks os => .dict ((ks.map keyD).zip (OT.toDs os))
  | .obj _ _ _ => .ddk [(.bool true, .none)]
def OT.toDs : List OT → List D
  | [] => []
  | o :: os => o.toD :: OT.toDs os
end
mutual
theorem Own.there {K : PySem.W.Frag} {G H : Hp} : ∀ {v : V} {o : OT} {A : List Addr}, Own K G H v o A → ∀ a ∈ A, ∃ u, H a = some u
  | _, _, _, .dat _, _, m => nomatch m
  | _, _, _, .lst h r, a, m => by
    rcases List.mem_cons.mp m with rfl | m
    · exact ⟨_, h⟩
    · exact OwnAll.there r a m
  | _, _, _, .dk h r, a, m => by
    rw [List.mem_singleton.mp m]
    exact ⟨_, h⟩
  | _, _, _, .dt h r, a, m => by
    rw [List.mem_singleton.mp m]
    exact ⟨_, h⟩
  | _, _, _, .tp _ r, a, m => OwnAll.there r a m
  | _, _, _, .dko h _ r, a, m => by
    rcases List.mem_cons.mp m with rfl | m
    · exact ⟨_, h⟩
    · exact OwnAll.there r a m
  | _, _, _, .obj h g _ _ r, a, m => by
    rcases List.mem_cons.mp m with rfl | m
    · exact ⟨_, h⟩
    · rcases List.mem_cons.mp m with rfl | m
      · exact ⟨_, g⟩
      · exact OwnAll.there r a m
theorem OwnAll.there {K : PySem.W.Frag} {G H : Hp} : ∀ {v : List V} {o : List OT} {A : List Addr}, OwnAll K G H v o A → ∀ a ∈ A, ∃ u, H a = some u
  | _, _, _, .nil, _, m => nomatch m
  | _, _, _, .cons h r, a, m => by
    rcases List.mem_append.mp m with m | m
    · exact Own.there h a m
    · exact OwnAll.there r a m
end
theorem rpk_zip {K : PySem.W.Frag} {G : Hp} : ∀ {kvs : List (Key × V)} {ks : List Key} {ds : List D}, kvs.map (·.1) = ks → RpAll K G (kvs.map (·.2)) ds → RpK K G kvs ((ks.map keyD).zip ds)
  | [], _, _, rfl, h => by
    cases h
    exact .nil
  | (k, v) :: kvs, _, _, rfl, h => by
    cases h with
    | cons h r =>
      have := rpk_zip (kvs := kvs) rfl r
      cases k <;> exact .cons h this
mutual
theorem Own.rp {K : PySem.W.Frag} {G G' H : Hp} (e : Ex G G') : ∀ {v : V} {o : OT} {A : List Addr}, Own K G H v o A → (∀ a ∈ A, ∀ u, H a = some u → G' a = some u) → Rp K G' v o.toD
  | _, _, _, .dat h, _ => by
    rw [OT.toD]
    exact h.ex e
  | _, _, _, .lst h r, k => by
    rw [OT.toD]
    exact .lst (Or.inl (k _ (List.mem_cons_self) _ h)) (OwnAll.rp e r fun a m => k a (List.mem_cons_of_mem _ m))
  | _, _, _, .dk h r, k => by
    rw [OT.toD]
    exact .dK (k _ (List.mem_cons_self) _ h) (r.ex e).k
  | _, _, _, .dt h r, k => by
    rw [OT.toD]
    exact .dT (k _ (List.mem_cons_self) _ h) (r.ex e).t
  | _, _, _, .tp h r, k => by
    rw [OT.toD]
    exact .tup (e.t h) (OwnAll.rp e r k)
  | _, _, _, .dko (kvs := kvs) h hk r, k => by
    rw [OT.toD]
    exact .dK (k _ (List.mem_cons_self) _ h) (rpk_zip hk (OwnAll.rp e r fun a m => k a (List.mem_cons_of_mem _ m)))
  | _, _, _, .obj _ _ _ _ _, _ => by
    rw [OT.toD]
    exact .any fun z => nomatch z
theorem OwnAll.rp {K : PySem.W.Frag} {G G' H : Hp} (e : Ex G G') : ∀ {v : List V} {o : List OT} {A : List Addr}, OwnAll K G H v o A → (∀ a ∈ A, ∀ u, H a = some u → G' a = some u) → RpAll K G' v (OT.toDs o)
  | _, _, _, .nil, _ => by
    rw [OT.toDs]
    exact .nil
  | _, _, _, .cons h r, k => by
    rw [OT.toDs]
    exact .cons (Own.rp e h fun a m => k a (List.mem_append_left _ m)) (OwnAll.rp e r fun a m => k a (List.mem_append_right _ m))
end
end DL
namespace DL
open PySem PySem.Spec L2
inductive Slot where
  | non
  | val (d : D)
  | own (l : Nat) (o : OT)
  | ali (j : Nat) (path : List Nat)
structure Base where
  H0 : Hp
  G0 : Hp
  Mo : Nat → List Addr
  m0 : Mo 0 = []
  pv : Nat → Option V
  rs : Exn → Prop
structure Anc (B : Base) (G H : Hp) : Prop where
  keep : ∀ a o, (∀ l, a ∉ B.Mo l) → B.H0 a = some o → H a = some o
  there : ∀ a l, a ∈ B.Mo l → H a ≠ none
  gsub : Ex B.G0 G
  gnew : ∀ a, B.H0 a ≠ none → B.G0 a = none → G a = none ∨ ∃ xs, H a = some (.tup xs)
  sub : Ex G H
theorem Anc.gnone {B : Base} {G H : Hp} (h : Anc B G H) {a : Addr} (e1 : B.H0 a ≠ none) (e2 : B.G0 a = none) (nt : ∀ xs, H a ≠ some (.tup xs)) : G a = none := (h.gnew a e1 e2).elim id fun ⟨xs, e⟩ => absurd e (nt xs)
theorem gnew_then {G H G1 H1 : Hp} {a : Addr} (g : G a = none ∨ ∃ xs, H a = some (.tup xs)) (s : Ex G H) (x : Ex G G1) (s1 : Ex G1 H1) (k : G a = none → G1 a = none ∨ ∃ xs, H1 a = some (.tup xs)) : G1 a = none ∨ ∃ xs, H1 a = some (.tup xs) := by
  cases e : G a with
  | none => exact k e
  | some u =>
    rcases g with g | ⟨xs, g⟩
    · rw [e] at g
      cases g
    · have := s a u e
      rw [g] at this
      cases this
      exact .inr ⟨xs, s1 a _ (x a _ e)⟩
theorem Anc.fresh {B : Base} {G H : Hp} (h : Anc B G H) {p : Addr} (hp : H p = none) : B.H0 p = none := by
  cases e : B.H0 p with
  | none => rfl
  | some o =>
    by_cases hm : ∃ l, p ∈ B.Mo l
    · obtain ⟨l, hm⟩ := hm
      exact absurd hp (h.there p l hm)
    · rw [h.keep p o (fun l m => hm ⟨l, m⟩) e] at hp
      cases hp
theorem Anc.new {B : Base} {G H : Hp} (h : Anc B G H) {p : Addr} (hp : H p = none) (o : HO) : Anc B (upd G p o) (upd H p o) := by
  have h0 := h.fresh hp
  refine ⟨fun a u hm e => ?_, fun a l hm => ?_, h.gsub.trans (Ex.new (h.sub.back hp)), fun a e1 e2 => ?_, h.sub.upd p o⟩
  · rw [upd_ne (ne_of_none (h.keep a u hm e) hp)]
    exact h.keep a u hm e
  · by_cases ha : a = p
    · subst ha
      rw [upd_same]
      exact fun z => nomatch z
    · rw [upd_ne ha]
      exact h.there a l hm
  · have ha : a ≠ p := fun z => by
      subst z
      exact e1 h0
    rw [upd_ne ha, upd_ne ha]
    exact h.gnew a e1 e2
theorem Anc.put {B : Base} {G H : Hp} (h : Anc B G H) {p : Addr} (hG : G p = none) (hp : (∃ l, p ∈ B.Mo l) ∨ B.H0 p = none) (o : HO) : Anc B G (upd H p o) := by
  refine ⟨fun a u hm e => ?_, fun a l hm => ?_, h.gsub, fun a e1 e2 => ?_, fun a u e => ?_⟩
  · have ha : a ≠ p := fun z => by
      subst z
      rcases hp with ⟨l, hp⟩ | hp
      · exact hm l hp
      · rw [hp] at e
        cases e
    rw [upd_ne ha]
    exact h.keep a u hm e
  · by_cases ha : a = p
    · subst ha
      rw [upd_same]
      exact fun z => nomatch z
    · rw [upd_ne ha]
      exact h.there a l hm
  · by_cases ha : a = p
    · exact .inl (by rw [ha]; exact hG)
    · rw [upd_ne ha]
      exact h.gnew a e1 e2
  · rw [upd_ne (ne_of_none e hG)]
    exact h.sub a u e
theorem Anc.frz {B : Base} {G H : Hp} (h : Anc B G H) {A : List Addr} (hA : ∀ a ∈ A, G a = none ∧ B.H0 a = none) : Anc B (fun a => if a ∈ A then H a else G a) H := by
  refine ⟨h.keep, h.there, fun a u e => ?_, fun a e1 e2 => ?_, fun a u e => ?_⟩
  · by_cases ha : a ∈ A
    · have z := (hA a ha).1.symm.trans (h.gsub a u e)
      cases z
    · show (if a ∈ A then H a else G a) = _
      rw [if_neg ha]
      exact h.gsub a u e
  · show (if a ∈ A then H a else G a) = none ∨ _
    by_cases ha : a ∈ A
    · exact absurd (hA a ha).2 e1
    · rw [if_neg ha]
      exact h.gnew a e1 e2
  · have e : (if a ∈ A then H a else G a) = some u := e
    by_cases ha : a ∈ A
    · rw [if_pos ha] at e
      exact e
    · rw [if_neg ha] at e
      exact h.sub a u e
mutual
theorem Own.nt {K : PySem.W.Frag} {G H : Hp} : ∀ {v : V} {o : OT} {A : List Addr}, Own K G H v o A → ∀ a ∈ A, ∀ xs, H a ≠ some (.tup xs)
  | _, _, _, .dat _, _, m => nomatch m
  | _, _, _, .lst h r, a, m => fun xs z => by
    rcases List.mem_cons.mp m with rfl | m
    · rw [h] at z
      cases z
    · exact OwnAll.nt r a m xs z
  | _, _, _, .dk h r, a, m => fun xs z => by
    rw [List.mem_singleton.mp m, h] at z
    cases z
  | _, _, _, .dt h r, a, m => fun xs z => by
    rw [List.mem_singleton.mp m, h] at z
    cases z
  | _, _, _, .tp _ r, a, m => OwnAll.nt r a m
  | _, _, _, .dko h _ r, a, m => fun xs z => by
    rcases List.mem_cons.mp m with rfl | m
    · rw [h] at z
      cases z
    · exact OwnAll.nt r a m xs z
  | _, _, _, .obj h g _ _ r, a, m => fun xs z => by
    rcases List.mem_cons.mp m with rfl | m
    · rw [h] at z
      cases z
    · rcases List.mem_cons.mp m with rfl | m
      · rw [g] at z
        cases z
      · exact OwnAll.nt r a m xs z
theorem OwnAll.nt {K : PySem.W.Frag} {G H : Hp} : ∀ {v : List V} {o : List OT} {A : List Addr}, OwnAll K G H v o A → ∀ a ∈ A, ∀ xs, H a ≠ some (.tup xs)
  | _, _, _, .nil, _, m => nomatch m
  | _, _, _, .cons h r, a, m => by
    rcases List.mem_append.mp m with m | m
    · exact Own.nt h a m
    · exact OwnAll.nt r a m
end
inductive Cell (K : PySem.W.Frag) (B : Base) (G H : Hp) : Option V → Slot → List Addr → Prop
  | non {x : Option V} : Cell K B G H x .non []
  | val {v : V} {d : D} : Rp K G v d → Cell K B G H (some v) (.val d) []
  | own {v : V} {l : Nat} {o : OT} {A : List Addr} : Own K G H v o A → (∀ a ∈ A, a ∈ B.Mo l ∨ B.H0 a = none) → (l = 0 ∨ B.pv l = some v) → Cell K B G H (some v) (.own l o) A
  | ali {x : Option V} {j : Nat} {p : List Nat} : Cell K B G H x (.ali j p) []
inductive Cells (K : PySem.W.Frag) (B : Base) (G H : Hp) : List (Option V) → List Slot → List Addr → Prop
  | nil : Cells K B G H [] [] []
  | cons {x : Option V} {s : Slot} {A : List Addr} {σ : St} {ρ : List Slot} {A' : List Addr} : Cell K B G H x s A → Cells K B G H σ ρ A' → Cells K B G H (x :: σ) (s :: ρ) (A ++ A')
section
variable {K : PySem.W.Frag} {B : Base} {G G' H H' : Hp}
theorem Cell.ex {x : Option V} {s : Slot} {A : List Addr} (h : Cell K B G H x s A) (e : Ex G G') (k : ∀ a ∈ A, ∀ u, H a = some u → H' a = some u) : Cell K B G' H' x s A := by
  cases h with
  | non => exact .non
  | val h => exact .val (h.ex e)
  | own h l z => exact .own (h.ex e k) l z
  | ali => exact .ali
theorem Cells.ex {σ : St} {ρ : List Slot} {A : List Addr} (h : Cells K B G H σ ρ A) (e : Ex G G') (k : ∀ a ∈ A, ∀ u, H a = some u → H' a = some u) : Cells K B G' H' σ ρ A := by
  induction h with
  | nil => exact .nil
  | cons c r ih => exact .cons (c.ex e fun a m => k a (List.mem_append_left _ m)) (ih fun a m => k a (List.mem_append_right _ m))
theorem Cell.there {x : Option V} {s : Slot} {A : List Addr} (h : Cell K B G H x s A) : ∀ a ∈ A, ∃ u, H a = some u := by
  cases h with
  | non => exact fun _ m => nomatch m
  | val h => exact fun _ m => nomatch m
  | own h l _ => exact h.there
  | ali => exact fun _ m => nomatch m
theorem Cell.nt {x : Option V} {s : Slot} {A : List Addr} (h : Cell K B G H x s A) : ∀ a ∈ A, ∀ xs, H a ≠ some (.tup xs) := by
  cases h with
  | non => exact fun _ m => nomatch m
  | val h => exact fun _ m => nomatch m
  | own h l _ => exact h.nt
  | ali => exact fun _ m => nomatch m
theorem Cells.nt {σ : St} {ρ : List Slot} {A : List Addr} (h : Cells K B G H σ ρ A) : ∀ a ∈ A, ∀ xs, H a ≠ some (.tup xs) := by
  induction h with
  | nil => exact fun _ m => nomatch m
  | cons c r ih =>
    intro a m
    rcases List.mem_append.mp m with m | m
    · exact c.nt a m
    · exact ih a m
theorem Cells.there {σ : St} {ρ : List Slot} {A : List Addr} (h : Cells K B G H σ ρ A) : ∀ a ∈ A, ∃ u, H a = some u := by
  induction h with
  | nil => exact fun _ m => nomatch m
  | cons c r ih =>
    intro a m
    rcases List.mem_append.mp m with m | m
    · exact c.there a m
    · exact ih a m
theorem Cells.len {σ : St} {ρ : List Slot} {A : List Addr} (h : Cells K B G H σ ρ A) : σ.length = ρ.length := by
  induction h with
  | nil => rfl
  | cons c r ih => rw [List.length_cons, List.length_cons, ih]
theorem Cells.get {σ : St} {ρ : List Slot} {A : List Addr} (h : Cells K B G H σ ρ A) : ∀ {i : Nat} {s : Slot}, ρ[i]? = some s → ∃ x A1, σ[i]? = some x ∧ Cell K B G H x s A1 ∧ A1.Sublist A := by
  induction h with
  | nil => exact fun e => nomatch e
  | cons c r ih =>
    intro i s e
    cases i with
    | zero =>
      simp at e
      subst e
      exact ⟨_, _, rfl, c, List.sublist_append_left _ _⟩
    | succ i =>
      obtain ⟨x, A1, h1, h2, h3⟩ := ih (i := i) (s := s) (by simpa using e)
      exact ⟨x, A1, by simpa using h1, h2, h3.trans (List.sublist_append_right _ _)⟩
theorem Cells.set {σ : St} {ρ : List Slot} {A : List Addr} (h : Cells K B G H σ ρ A) {x : Option V} {s : Slot} {A1 : List Addr} (c : Cell K B G H x s A1) : ∀ {i : Nat}, i < ρ.length → ∃ A' C, Cells K B G H (σ.set i x) (ρ.set i s) A' ∧ A'.Perm (A1 ++ C) ∧ C.Sublist A := by
  induction h with
  | nil => exact fun e => absurd e (Nat.not_lt_zero _)
  | @cons x0 s0 A0 σ ρ A' c0 r ih =>
    intro i hi
    cases i with
    | zero => exact ⟨A1 ++ A', A', .cons c r, List.Perm.refl _, List.sublist_append_right _ _⟩
    | succ i =>
      obtain ⟨A2, C, h1, h2, h3⟩ := ih (i := i) (by simpa using hi)
      refine ⟨A0 ++ A2, A0 ++ C, .cons c0 h1, ?_, h3.append_left _⟩
      have e1 : (A0 ++ A2).Perm (A0 ++ (A1 ++ C)) := h2.append_left _
      have e2 : (A0 ++ (A1 ++ C)).Perm (A1 ++ (A0 ++ C)) := by
        rw [← List.append_assoc, ← List.append_assoc]
        exact List.perm_append_comm.append_right C
      exact e1.trans e2
theorem Cells.swap2 {σ : St} {ρ : List Slot} {A : List Addr} {x y : Option V} {s t : Slot} (h : Cells K B G H (x :: y :: σ) (s :: t :: ρ) A) : ∃ A', Cells K B G H (y :: x :: σ) (t :: s :: ρ) A' ∧ A'.Perm A := by
  cases h with
  | cons c r =>
    cases r with
    | cons d r =>
      refine ⟨_, .cons d (.cons c r), ?_⟩
      rw [← List.append_assoc, ← List.append_assoc]
      exact List.perm_append_comm.append_right _
end
def forgot : List Slot → List Bool → List Slot
  | [], _ => []
  | s :: ρ, [] => s :: ρ
  | s :: ρ, b :: bs => (if b then s else .non) :: forgot ρ bs
theorem Cells.forgot {K : PySem.W.Frag} {B : Base} {G H : Hp} : ∀ {σ : St} {ρ : List Slot} {A : List Addr} (bs : List Bool), Cells K B G H σ ρ A → ∃ A', Cells K B G H σ (forgot ρ bs) A' ∧ A'.Sublist A
  | _, _, _, _, .nil => ⟨[], .nil, List.Sublist.refl _⟩
  | _, _, _, [], .cons c r => ⟨_, .cons c r, List.Sublist.refl _⟩
  | _, _, _, true :: bs, .cons c r => by
    obtain ⟨A', h1, h2⟩ := Cells.forgot bs r
    exact ⟨_, .cons c h1, h2.append_left _⟩
  | _, _, _, false :: bs, .cons c r => by
    obtain ⟨A', h1, h2⟩ := Cells.forgot bs r
    exact ⟨_, .cons (s := .non) .non h1, h2.trans (List.sublist_append_right _ _)⟩
theorem forgot_len : ∀ (ρ : List Slot) (bs : List Bool), (forgot ρ bs).length = ρ.length
  | [], _ => rfl
  | _ :: _, [] => rfl
  | _ :: ρ, b :: bs => by rw [forgot, List.length_cons, List.length_cons, forgot_len ρ bs]
theorem forgot_get : ∀ (ρ : List Slot) (bs : List Bool) (i : Nat) (s : Slot), (forgot ρ bs)[i]? = some s → s = .non ∨ ρ[i]? = some s
  | [], _, _, _, e => nomatch e
  | _ :: _, [], _, _, e => .inr e
  | s0 :: ρ, b :: bs, 0, s, e => by
    cases b with
    | true => exact .inr e
    | false =>
      simp [forgot] at e
      exact .inl e.symm
  | s0 :: ρ, b :: bs, i + 1, s, e => by
    have e : (forgot ρ bs)[i]? = some s := by simpa [forgot] using e
    rcases forgot_get ρ bs i s e with h | h
    · exact .inl h
    · exact .inr (by simpa using h)
def At (H : Hp) : V → List Nat → V → Prop
  | v, [], w => v = w
  | v, k :: ks, w => ∃ a vs u, v = .ref a ∧ H a = some (.lst vs) ∧ vs[k]? = some u ∧ At H u ks w
theorem At.ex {H H' : Hp} (e : Ex H H') : ∀ {p : List Nat} {v w : V}, At H v p w → At H' v p w
  | [], _, _, h => h
  | _ :: _, _, _, ⟨a, vs, u, h1, h2, h3, h4⟩ => ⟨a, vs, u, h1, e _ _ h2, h3, At.ex e h4⟩
structure En (K : PySem.W.Frag) (B : Base) (G H : Hp) (σ : St) (ρ : List Slot) (ex : List (V × Slot)) : Prop where
  anc : Anc B G H
  own : ∃ A, Cells K B G H (ex.map (fun p => some p.1) ++ σ) (ex.map (·.2) ++ ρ) A ∧ A.Nodup ∧ ∀ a ∈ A, G a = none
  len : σ.length = ρ.length
  ali : ∀ (i j : Nat) (p : List Nat), ρ[i]? = some (Slot.ali j p) → ∃ v w, σ[i]? = some (some v) ∧ σ[j]? = some (some w) ∧ At H w p v
def noAli (j : Nat) : List Slot → Bool
  | [] => true
  | .ali i _ :: r => i != j && noAli j r
  | _ :: r => noAli j r
theorem noAli_get {j : Nat} : ∀ {ρ : List Slot}, noAli j ρ = true → ∀ {i k : Nat} {p : List Nat}, ρ[i]? = some (.ali k p) → k ≠ j
  | [], _, _, _, _, e => nomatch e
  | s :: ρ, h, 0, k, p, e => by
    simp at e
    subst e
    simp [noAli] at h
    exact h.1
  | s :: ρ, h, i + 1, k, p, e => by
    have h' : noAli j ρ = true := by
      cases s <;> simp [noAli] at h
      · exact h
      · exact h
      · exact h
      · exact h.2
    exact noAli_get h' (i := i) (by simpa using e)
section
variable {K : PySem.W.Frag} {B : Base} {G G' H H' : Hp} {σ : St} {ρ : List Slot} {ex : List (V × Slot)}
theorem En.fresh (E : En K B G H σ ρ ex) {p : Addr} (hp : H p = none) : B.H0 p = none := E.anc.fresh hp
theorem En.sub (E : En K B G H σ ρ ex) : Ex G H := E.anc.sub
theorem En.get (E : En K B G H σ ρ ex) {i : Nat} {d : D} (h : ρ[i]? = some (.val d)) : ∃ v, σ[i]? = some (some v) ∧ Rp K G v d := by
  obtain ⟨A, c, _, _⟩ := E.own
  obtain ⟨x, A1, h1, h2, _⟩ := c.get (i := ex.length + i) (s := .val d) (by
    rw [List.getElem?_append_right (by simp), List.length_map]
    simpa using h)
  rw [List.getElem?_append_right (by simp), List.length_map] at h1
  cases h2 with
  | val r => exact ⟨_, by simpa using h1, r⟩
theorem En.top {v : V} {d : D} (E : En K B G H σ ρ ((v, .val d) :: ex)) : Rp K G v d := by
  obtain ⟨A, c, _, _⟩ := E.own
  cases c with
  | cons c r =>
    cases c with
    | val h => exact h
theorem En.pop {x : V × Slot} (E : En K B G H σ ρ (x :: ex)) : En K B G H σ ρ ex := by
  obtain ⟨A, c, n, f⟩ := E.own
  cases c with
  | cons c r => exact ⟨E.anc, ⟨_, r, (List.nodup_append.mp n).2.1, fun a m => f a (List.mem_append_right _ m)⟩, E.len, E.ali⟩
theorem En.push {v : V} {d : D} (E : En K B G H σ ρ ex) (h : Rp K G v d) : En K B G H σ ρ ((v, .val d) :: ex) := by
  obtain ⟨A, c, n, f⟩ := E.own
  exact ⟨E.anc, ⟨[] ++ A, .cons (.val h) c, n, f⟩, E.len, E.ali⟩
theorem En.swap {x y : V × Slot} (E : En K B G H σ ρ (x :: y :: ex)) : En K B G H σ ρ (y :: x :: ex) := by
  obtain ⟨A, c, n, f⟩ := E.own
  obtain ⟨A', c', p⟩ := c.swap2
  exact ⟨E.anc, ⟨A', c', p.nodup_iff.mpr n, fun a m => f a (p.mem_iff.mp m)⟩, E.len, E.ali⟩
theorem En.new (E : En K B G H σ ρ ex) {p : Addr} (hp : H p = none) (o : HO) : En K B (upd G p o) (upd H p o) σ ρ ex := by
  obtain ⟨A, c, n, f⟩ := E.own
  have hG := E.sub.back hp
  refine ⟨E.anc.new hp o, ⟨A, c.ex (Ex.new hG) fun a m u e => Ex.new hp a u e, n, fun a m => ?_⟩, E.len, fun i j q e => ?_⟩
  · obtain ⟨u, hu⟩ := c.there a m
    rw [upd_ne (ne_of_none hu hp)]
    exact f a m
  · obtain ⟨v, w, h1, h2, h3⟩ := E.ali i j q e
    exact ⟨v, w, h1, h2, h3.ex (Ex.new hp)⟩
theorem En.newL (E : En K B G H σ ρ ex) {p : Addr} (hp : H p = none) {vs : List V} {ds : List D} (r : RpAll K G vs ds) : En K B G (upd H p (.lst vs)) σ ρ ((.ref p, .own 0 (.lst (ds.map OT.dat))) :: ex) := by
  obtain ⟨A, c, n, f⟩ := E.own
  have hG := E.sub.back hp
  have h0 := E.fresh hp
  have ra : ∀ {vs : List V} {ds : List D}, RpAll K G vs ds → OwnAll K G (upd H p (.lst vs)) vs (ds.map OT.dat) [] := fun {vs ds} r => by
    have gen : ∀ (H' : Hp) {vs : List V} {ds : List D}, RpAll K G vs ds → OwnAll K G H' vs (ds.map OT.dat) [] := fun H' {vs ds} r => by
      induction ds generalizing vs with
      | nil =>
        cases r
        exact .nil
      | cons d ds ih =>
        cases r with
        | cons h r => exact .cons (A := []) (.dat h) (ih r)
    exact gen _ r
  have hn : p ∉ A := fun m => by
    obtain ⟨u, hu⟩ := c.there p m
    rw [hu] at hp
    cases hp
  refine ⟨E.anc.put hG (.inr h0) _, ⟨p :: ([] ++ A), .cons (A := [p]) (.own (.lst upd_same (ra r)) (fun a m => by
      rw [List.mem_singleton.mp m]
      exact .inr h0) (.inl rfl)) (c.ex (Ex.refl G) fun a m u e => by
      rw [upd_ne (ne_of_none e hp)]
      exact e), ?_, fun a m => ?_⟩, E.len, fun i j q e => ?_⟩
  · exact List.nodup_cons.mpr ⟨hn, n⟩
  · rcases List.mem_cons.mp m with rfl | m
    · exact hG
    · exact f a m
  · obtain ⟨v, w, h1, h2, h3⟩ := E.ali i j q e
    exact ⟨v, w, h1, h2, h3.ex (Ex.new hp)⟩
theorem En.frz {v : V} {o : OT} (E : En K B G H σ ρ ((v, .own 0 o) :: ex)) : ∃ G', Ex G G' ∧ En K B G' H σ ρ ((v, .val o.toD) :: ex) := by
  obtain ⟨A, c, n, f⟩ := E.own
  cases c with
  | @cons _ _ A1 _ _ A2 c r =>
    cases c with
    | own h l _ =>
      have n1 := List.nodup_append.mp n
      have hA : ∀ a ∈ A1, G a = none ∧ B.H0 a = none := fun a m => ⟨f a (List.mem_append_left _ m), (l a m).resolve_left (by rw [B.m0]; exact fun z => nomatch z)⟩
      have eG : Ex G fun a => if a ∈ A1 then H a else G a := fun a u e => by
        show (if a ∈ A1 then H a else G a) = _
        by_cases ha : a ∈ A1
        · rw [(hA a ha).1] at e
          cases e
        · rw [if_neg ha]
          exact e
      refine ⟨_, eG, E.anc.frz hA, ⟨[] ++ A2, .cons (.val (h.rp eG fun a m u e => by
          show (if a ∈ A1 then H a else G a) = _
          rw [if_pos m]
          exact e)) (r.ex eG fun _ _ _ e => e), n1.2.1, fun a m => ?_⟩, E.len, E.ali⟩
      have ha : a ∉ A1 := fun z => n1.2.2 a z a m rfl
      show (if a ∈ A1 then H a else G a) = _
      rw [if_neg ha]
      exact f a (List.mem_append_right _ m)
theorem En.set {v : V} {s : Slot} (E : En K B G H σ ρ [(v, s)]) {i : Nat} (hi : i < ρ.length) (hs : ∀ j p, s ≠ .ali j p) (ha : noAli i ρ = true) : En K B G H (σ.set i (some v)) (ρ.set i s) [] := by
  obtain ⟨A, c, n, f⟩ := E.own
  cases c with
  | @cons _ _ A1 _ _ A2 c r =>
    obtain ⟨A', C, h1, h2, h3⟩ := Cells.set r c hi
    have sub : (A1 ++ C).Sublist (A1 ++ A2) := h3.append_left A1
    refine ⟨E.anc, ⟨A', h1, h2.nodup_iff.mpr (sub.nodup n), fun a m => f a (sub.subset (h2.mem_iff.mp m))⟩, by rw [List.length_set, List.length_set]; exact E.len, fun k j p e => ?_⟩
    by_cases hk : i = k
    · subst hk
      rw [List.getElem?_set_self hi] at e
      cases e
      exact absurd rfl (hs j p)
    · rw [List.getElem?_set_ne hk] at e
      obtain ⟨v', w, q1, q2, q3⟩ := E.ali k j p e
      have hj := noAli_get ha e
      exact ⟨v', w, by rw [List.getElem?_set_ne hk]; exact q1, by rw [List.getElem?_set_ne (Ne.symm hj)]; exact q2, q3⟩
theorem En.forgot (E : En K B G H σ ρ []) (bs : List Bool) : En K B G H σ (forgot ρ bs) [] := by
  obtain ⟨A, c, n, f⟩ := E.own
  obtain ⟨A', h1, h2⟩ := Cells.forgot bs c
  refine ⟨E.anc, ⟨A', h1, h2.nodup n, fun a m => f a (h2.subset m)⟩, by rw [forgot_len]; exact E.len, fun i j p e => ?_⟩
  rcases forgot_get ρ bs i _ e with z | z
  · cases z
  · exact E.ali i j p z
end
section
variable {K : PySem.W.Frag} {B : Base} {G G' H H' : Hp}
theorem Cells.take1 {σ : L2.St} {ρ : List Slot} {A : List Addr} (h : Cells K B G H σ ρ A) : ∀ {i : Nat} {l : Nat} {o : OT}, ρ[i]? = some (.own l o) →
    ∃ v A1 A2, σ[i]? = some (some v) ∧ Own K G H v o A1 ∧ ((∀ a ∈ A1, a ∈ B.Mo l ∨ B.H0 a = none) ∧ (l = 0 ∨ B.pv l = some v)) ∧ Cells K B G H σ (ρ.set i .non) A2 ∧ A.Perm (A1 ++ A2) := by
  induction h with
  | nil => exact fun e => nomatch e
  | @cons x0 s0 A0 σ ρ A' c0 r ih =>
    intro i l o e
    cases i with
    | zero =>
      simp at e
      subst e
      cases c0 with
      | own hO hl hv => exact ⟨_, A0, [] ++ A', rfl, hO, ⟨hl, hv⟩, .cons (.non) r, List.Perm.refl _⟩
    | succ i =>
      obtain ⟨v, A1, A2, h1, h2, h3, h4, h5⟩ := ih (i := i) (l := l) (o := o) (by simpa using e)
      refine ⟨v, A1, A0 ++ A2, by simpa using h1, h2, h3, .cons c0 h4, ?_⟩
      have e1 : (A0 ++ A').Perm (A0 ++ (A1 ++ A2)) := h5.append_left _
      have e2 : (A0 ++ (A1 ++ A2)).Perm (A1 ++ (A0 ++ A2)) := by
        rw [← List.append_assoc, ← List.append_assoc]
        exact List.perm_append_comm.append_right A2
      exact e1.trans e2
theorem Cells.put1 {σ : L2.St} {ρ : List Slot} {A : List Addr} (h : Cells K B G H σ ρ A) : ∀ {i : Nat} {l : Nat} {o : OT} {v : V} {A1 : List Addr}, ρ[i]? = some .non → σ[i]? = some (some v) → Own K G H v o A1 → ((∀ a ∈ A1, a ∈ B.Mo l ∨ B.H0 a = none) ∧ (l = 0 ∨ B.pv l = some v)) →
    ∃ A2, Cells K B G H σ (ρ.set i (.own l o)) A2 ∧ A2.Perm (A1 ++ A) := by
  induction h with
  | nil => exact fun e => nomatch e
  | @cons x0 s0 A0 σ ρ A' c0 r ih =>
    intro i l o v A1 e e2 hO hl
    cases i with
    | zero =>
      simp at e
      subst e
      simp at e2
      subst e2
      cases c0
      exact ⟨A1 ++ A', .cons (.own hO hl.1 hl.2) r, by
        rw [List.nil_append]⟩
    | succ i =>
      obtain ⟨A2, h4, h5⟩ := ih (i := i) (l := l) (by simpa using e) (by simpa using e2) hO hl
      refine ⟨A0 ++ A2, .cons c0 h4, ?_⟩
      have e1 : (A0 ++ A2).Perm (A0 ++ (A1 ++ A')) := h5.append_left _
      have e2 : (A0 ++ (A1 ++ A')).Perm (A1 ++ (A0 ++ A')) := by
        rw [← List.append_assoc, ← List.append_assoc]
        exact List.perm_append_comm.append_right A'
      exact e1.trans e2
end
end DL
namespace DL
open PySem PySem.Spec L2
section
variable {X : Cx} {B : Base}
theorem PE_imp {e : Expr} {t t' : TE} (h : PE X e t) (k : ∀ σ H Q, t' σ H Q → t σ H Q) : PE X e t' := ⟨fun pins s σ H Q I q => h.run pins s σ H Q I (k σ H Q q)⟩
theorem PT_imp {e : Expr} {t t' : TT} (h : PT X e t) (k : ∀ σ H Q, t' σ H Q → t σ H Q) : PT X e t' := ⟨fun pins s σ H Q I q => h.run pins s σ H Q I (k σ H Q q)⟩
theorem PW_imp {e : Expr} {t t' : TT} (h : PW X e t) (k : ∀ σ H Q, t' σ H Q → t σ H Q) : PW X e t' := ⟨fun wh pins s σ H Q I q => h.run wh pins s σ H Q I (k σ H Q q)⟩
theorem PA_imp {e : List Expr} {t t' : TA} (h : PA X e t) (k : ∀ σ H Q, t' σ H Q → t σ H Q) : PA X e t' := ⟨fun pos pins s σ H Q I q => h.run pos pins s σ H Q I (k σ H Q q)⟩
theorem PS_imp {e : Stmt} {t t' : TS} (h : PS X e t) (k : ∀ D σ H, t' D σ H → t D σ H) : PS X e t' := ⟨fun pins s σ H D I q => h.run pins s σ H D I (k D σ H q)⟩
theorem PSs_imp {e : List Stmt} {t t' : TS} (h : PSs X e t) (k : ∀ D σ H, t' D σ H → t D σ H) : PSs X e t' := ⟨fun pins s σ H D I q => h.run pins s σ H D I (k D σ H q)⟩
end
def tJ (K : PySem.W.Frag) (B : Base) (ρ : List Slot) {β : Type} (m : R β) (sl : β → Slot) (ρ' : β → List Slot) : TE := fun σ H Q =>
  ∃ G, En K B G H σ ρ [] ∧ m.post (fun b => ∀ v G' H', Ex G G' → En K B G' H' σ (ρ' b) [(v, sl b)] → Q v H') B.rs
def JE (X : Cx) (B : Base) (ρ : List Slot) (e : Expr) {β : Type} (m : R β) (sl : β → Slot) (ρ' : β → List Slot) : Prop := PE X e (tJ X.K B ρ m sl ρ')
abbrev JP (X : Cx) (B : Base) (ρ : List Slot) (e : Expr) (d : D) : Prop := JE X B ρ e (.ok ()) (fun _ => .val d) (fun _ => ρ)
def tJT (K : PySem.W.Frag) (B : Base) (ρ : List Slot) {β : Type} (m : R β) (bn : β → Bool) (ρ' : β → List Slot) : TT := fun σ H Q =>
  ∃ G, En K B G H σ ρ [] ∧ m.post (fun b => ∀ G' H', Ex G G' → En K B G' H' σ (ρ' b) [] → Q (bn b) H') B.rs
def JT (X : Cx) (B : Base) (ρ : List Slot) (e : Expr) {β : Type} (m : R β) (bn : β → Bool) (ρ' : β → List Slot) : Prop := PT X e (tJT X.K B ρ m bn ρ')
def JW (X : Cx) (B : Base) (ρ : List Slot) (e : Expr) {β : Type} (m : R β) (bn : β → Bool) (ρ' : β → List Slot) : Prop := PW X e (tJT X.K B ρ m bn ρ')
abbrev TP0 (X : Cx) (B : Base) (ρ : List Slot) (e : Expr) (b : Bool) : Prop := JT X B ρ e (.ok ()) (fun _ => b) (fun _ => ρ)
inductive Ar where
  | val (d : D)
  | slot (i : Nat)
inductive ArOk (K : PySem.W.Frag) (G : Hp) (σ : L2.St) : List V → List Ar → Prop
  | nil : ArOk K G σ [] []
  | val {v : V} {d : D} {vs : List V} {as : List Ar} : Rp K G v d → ArOk K G σ vs as → ArOk K G σ (v :: vs) (.val d :: as)
  | slot {v : V} {i : Nat} {vs : List V} {as : List Ar} : σ[i]? = some (some v) → ArOk K G σ vs as → ArOk K G σ (v :: vs) (.slot i :: as)
theorem ArOk.ex {K : PySem.W.Frag} {G G' : Hp} {σ : L2.St} {vs : List V} {as : List Ar} (h : ArOk K G σ vs as) (e : Ex G G') : ArOk K G' σ vs as := by
  induction h with
  | nil => exact .nil
  | val h _ ih => exact .val (h.ex e) ih
  | slot h _ ih => exact .slot h ih
def tJA (K : PySem.W.Frag) (B : Base) (ρ : List Slot) {β : Type} (m : R β) (as : β → List Ar) (ρ' : β → List Slot) : TA := fun σ H Q =>
  ∃ G, En K B G H σ ρ [] ∧ m.post (fun b => ∀ vs G' H', Ex G G' → En K B G' H' σ (ρ' b) [] → ArOk K G' σ vs (as b) → Q vs H') B.rs
def JA (X : Cx) (B : Base) (ρ : List Slot) (es : List Expr) {β : Type} (m : R β) (as : β → List Ar) (ρ' : β → List Slot) : Prop := PA X es (tJA X.K B ρ m as ρ')
section
variable {X : Cx} {B : Base} {ρ : List Slot} {a b e : Expr} {pos : Pos}
theorem jp_of {t : TE} {d : D} (h : PE X e t) (k : ∀ σ G H Q, En X.K B G H σ ρ [] → (∀ v G' H', Ex G G' → En X.K B G' H' σ ρ [(v, .val d)] → Q v H') → t σ H Q) : JP X B ρ e d :=
  PE_imp h fun σ H Q ⟨G, E, q⟩ => k σ G H Q E q
theorem jp_var (i : Nat) {x : Str} {d : D} (h : ρ[i]? = some (.val d) := by rfl) (hN : X.N[i]? = some x := by rfl) (hv : Vis X.env.scope x := by first | exact Or.inl rfl | exact Or.inr (Or.inl rfl) | exact Or.inr (Or.inr rfl))
    (hd : (x == ("__debug__" : Str)) = false := by decide) (hcd : (x == ("__classdict__" : Str)) = false := by decide) : JP X B ρ (.Name x pos) d :=
  jp_of (pv i hN hv hd hcd) fun σ G H Q E q => by
    obtain ⟨v, h1, h2⟩ := E.get h
    exact ⟨v, h1, q v G H (Ex.refl G) (E.push h2)⟩
theorem jp_int {i : Int} {j : Nat} : JP X B ρ (.Constant (.int i) j pos) (.int i) := jp_of pe_int fun σ G H Q E q => q _ G H (Ex.refl G) (E.push (.int i))
theorem jp_bl {b : Bool} {j : Nat} : JP X B ρ (.Constant (.bool b) j pos) (.bool b) := jp_of pe_bl fun σ G H Q E q => q _ G H (Ex.refl G) (E.push (.bl b))
theorem jp_non {j : Nat} : JP X B ρ (.Constant .none j pos) .none := jp_of pe_non fun σ G H Q E q => q _ G H (Ex.refl G) (E.push .non)
theorem je_frz {β : Type} {m : R β} {o : β → OT} {ρ' : β → List Slot} (h : JE X B ρ e m (fun b => .own 0 (o b)) ρ') : JE X B ρ e m (fun b => .val (o b).toD) ρ' :=
  PE_imp h fun σ H Q ⟨G, E, q⟩ => ⟨G, E, R.post_mono q fun b k v G' H' x E' => by
    obtain ⟨G2, x2, E2⟩ := E'.frz
    exact k v G2 H' (x.trans x2) E2⟩
def OpD (K : PySem.W.Frag) (B : Base) (r : R2) (x y : D) {γ : Type} (mr : R γ) (s : γ → Slot) : Prop :=
  ∀ G H σ ρ vx vy Q, En K B G H σ ρ [] → Rp K G vx x → Rp K G vy y → mr.post (fun z => ∀ v G' H', Ex G G' → En K B G' H' σ ρ [(v, s z)] → Q v H') B.rs → r vx vy H Q
theorem od_val {K : PySem.W.Frag} {r : R2} {x y z : D} {c : Prop} [Decidable c] {w : V} (h : c → ∀ G H vx vy Q, Ex G H → Rp K G vx x → Rp K G vy y → Q w H → r vx vy H Q) (hw : ∀ G, Rp K G w z) : OpD K B r x y (R.guard c) (fun _ => .val z) :=
  fun G H σ ρ vx vy Q E hx hy q => by
    obtain ⟨hc, q⟩ := R.post_guard q
    exact h hc G H vx vy Q E.sub hx hy (q w G H (Ex.refl G) (E.push (hw G)))
theorem od_val0 {K : PySem.W.Frag} {r : R2} {x y z : D} {w : V} (h : ∀ G H vx vy Q, Ex G H → Rp K G vx x → Rp K G vy y → Q w H → r vx vy H Q) (hw : ∀ G, Rp K G w z) : OpD K B r x y (.ok ()) (fun _ => .val z) :=
  fun G H σ ρ vx vy Q E hx hy q => h G H vx vy Q E.sub hx hy (q w G H (Ex.refl G) (E.push (hw G)))
def op2 {α β γ : Type} (ma : R α) (mb : α → R β) (mr : α → β → R γ) : R (α × β × γ) := ma.bind fun x => (mb x).bind fun y => (mr x y).bind fun z => .ok (x, y, z)
theorem je_op2 {r : R2} (ht : ∀ ta tb, PE X a ta → PE X b tb → PE X e (tOp r ta tb)) {α β γ : Type} {ma : R α} {mb : α → R β} {xa : α → D} {xb : α → β → D} {ρa : α → List Slot} {ρb : α → β → List Slot} {mr : α → β → R γ} {s : α → β → γ → Slot}
    (ha : JE X B ρ a ma (fun x => .val (xa x)) ρa) (hb : ∀ x, JE X B (ρa x) b (mb x) (fun y => .val (xb x y)) (ρb x)) (hr : ∀ x y, OpD X.K B r (xa x) (xb x y) (mr x y) (s x y)) :
    JE X B ρ e (op2 ma mb mr) (fun p => s p.1 p.2.1 p.2.2) (fun p => ρb p.1 p.2.1) := by
  have hb' : PE X b (fun σ H Q => ∃ x, tJ X.K B (ρa x) (mb x) (fun y => .val (xb x y)) (ρb x) σ H Q) := ⟨fun pins s σ H Q I ⟨x, q⟩ => (hb x).run pins s σ H Q I q⟩
  refine PE_imp (ht _ _ ha hb') fun σ H Q ⟨G, E, q⟩ => ?_
  refine ⟨G, E, R.post_mono (R.post_bind.mp q) fun x q1 vx G1 H1 x1 E1 => ?_⟩
  refine ⟨x, G1, E1.pop, R.post_mono (R.post_bind.mp q1) fun y q2 vy G2 H2 x2 E2 => ?_⟩
  exact hr x y G2 H2 σ (ρb x y) vx vy Q E2.pop (E1.top.ex x2) E2.top (R.post_mono (R.post_bind.mp q2) fun z q3 v G3 H3 x3 E3 => q3 v G3 H3 (x1.trans (x2.trans x3)) E3)
theorem je_op {r : R2} (ht : ∀ ta tb, PE X a ta → PE X b tb → PE X e (tOp r ta tb)) {x y : D} {γ : Type} {mr : R γ} {s : γ → Slot} (ha : JP X B ρ a x) (hb : JP X B ρ b y) (hr : OpD X.K B r x y mr s) : JE X B ρ e mr s (fun _ => ρ) := by
  refine PE_imp (ht _ _ ha hb) fun σ H Q ⟨G, E, q⟩ => ?_
  refine ⟨G, E, fun vx G1 H1 x1 E1 => ?_⟩
  refine ⟨G1, E1.pop, fun vy G2 H2 x2 E2 => ?_⟩
  exact hr G2 H2 σ ρ vx vy Q E2.pop (E1.top.ex x2) E2.top (R.post_mono q fun z q v G3 H3 x3 E3 => q v G3 H3 (x1.trans (x2.trans x3)) E3)
def divOk (i j : Int) : Prop := j ≠ 0 ∧ Builtin.divisionGoesByPylong i j = false
instance {i j : Int} : Decidable (divOk i j) := by unfold divOk; infer_instance
def powOk (i j : Int) : Prop := 0 ≤ j ∧ j ≤ 1000000 ∧ i.natAbs < 2 ^ 64
instance {i j : Int} : Decidable (powOk i j) := by unfold powOk; infer_instance
instance {i j : Int} : Decidable (CPow i j) := by unfold CPow; infer_instance
instance {i j : Int} : Decidable (CMulX i j) := by unfold CMulX; infer_instance
theorem op_fdivZ : OpR X (binaryOp .FloorDiv) (rI divOk fun i j => .int (i.fdiv j)) := opI fun i j _ _ _ _ _ hc q => PyProof.Rows.floordiv_int hc.1 q (.inl hc.2)
section
variable {K : PySem.W.Frag} {i j : Int}
theorem od_I0 {g : Int → Int → V} {z : D} (hz : ∀ G, Rp K G (g i j) z) : OpD K B (rI0 g) (.int i) (.int j) (.ok ()) (fun _ => .val z) :=
  od_val0 (fun G H vx vy Q _ hx hy q => ⟨i, j, hx.int_inv, hy.int_inv, q⟩) hz
theorem od_I {C : Int → Int → Prop} [Decidable (C i j)] {g : Int → Int → V} {z : D} (hz : ∀ G, Rp K G (g i j) z) : OpD K B (rI C g) (.int i) (.int j) (R.guard (C i j)) (fun _ => .val z) :=
  od_val (fun c G H vx vy Q _ hx hy q => ⟨i, j, hx.int_inv, hy.int_inv, c, q⟩) hz
theorem od_add : OpD K B (rI0 fun i j => .int (i + j)) (.int i) (.int j) (.ok ()) (fun _ => .val (.int (i + j))) := od_I0 fun _ => .int _
theorem od_sub : OpD K B (rI0 fun i j => .int (i - j)) (.int i) (.int j) (.ok ()) (fun _ => .val (.int (i - j))) := od_I0 fun _ => .int _
theorem od_mul : OpD K B (rI CMulX fun i j => .int (i * j)) (.int i) (.int j) (R.guard (CMulX i j)) (fun _ => .val (.int (i * j))) := od_I fun _ => .int _
theorem od_fdiv : OpD K B (rI divOk fun i j => .int (i.fdiv j)) (.int i) (.int j) (R.guard (divOk i j)) (fun _ => .val (.int (i.fdiv j))) := od_I fun _ => .int _
theorem od_mod : OpD K B (rI (fun _ j => j ≠ 0) fun i j => .int (i.fmod j)) (.int i) (.int j) (R.guard (j ≠ 0)) (fun _ => .val (.int (i.fmod j))) := od_I (C := fun _ j => j ≠ 0) fun _ => .int _
theorem od_lt : OpD K B (rI0 fun i j => .bl (decide (i < j))) (.int i) (.int j) (.ok ()) (fun _ => .val (.bool (decide (i < j)))) := od_I0 fun _ => .bl _
theorem od_gt : OpD K B (rI0 fun i j => .bl (decide (j < i))) (.int i) (.int j) (.ok ()) (fun _ => .val (.bool (decide (j < i)))) := od_I0 fun _ => .bl _
theorem od_eqI : OpD K B rEq (.int i) (.int j) (.ok ()) (fun _ => .val (.bool (decide (i = j)))) := od_val0 (w := .bl (decide (i = j))) (fun G H vx vy Q _ hx hy q => by
  rw [hx.int_inv, hy.int_inv]
  refine ⟨rfl, ?_⟩
  rw [show decide (V.int i = V.int j) = decide (i = j) from decide_eq_decide.mpr ⟨fun h => V.int.inj h, fun h => by rw [h]⟩]
  exact q) fun _ => .bl _
theorem od_neI : OpD K B rNe (.int i) (.int j) (.ok ()) (fun _ => .val (.bool (!decide (i = j)))) := od_val0 (w := .bl (!decide (i = j))) (fun G H vx vy Q _ hx hy q => by
  rw [hx.int_inv, hy.int_inv]
  refine ⟨rfl, ?_⟩
  rw [show decide (V.int i = V.int j) = decide (i = j) from decide_eq_decide.mpr ⟨fun h => V.int.inj h, fun h => by rw [h]⟩]
  exact q) fun _ => .bl _
end
theorem jp_neg {i : Int} (ha : JP X B ρ a (.int i)) : JP X B ρ (.UnaryOp .USub a pos) (.int (-i)) :=
  jp_of (pe_un un_neg ha) fun σ G H Q E q => ⟨G, E, fun v G1 H1 x1 E1 => ⟨i, E1.top.int_inv, q _ G1 H1 x1 (E1.pop.push (.int _))⟩⟩
theorem jt_val {β : Type} {m : R β} {bn : β → Bool} {ρ' : β → List Slot} (h : JE X B ρ e m (fun b => .val (.bool (bn b))) ρ') (he : ∀ whole, isTrue e X.env whole = (do let v ← whole; standAt e.pos; holding [v] (truthy v)) := by intro _; rfl) : JT X B ρ e m bn ρ' :=
  PT_imp (pt_val h he) fun σ H Q ⟨G, E, q⟩ => ⟨G, E, R.post_mono q fun b k v G1 H1 x1 E1 => ⟨bn b, E1.top.bl_inv, k G1 H1 x1 E1.pop⟩⟩
theorem jt_not {β : Type} {m : R β} {bn : β → Bool} {ρ' : β → List Slot} (h : JT X B ρ a m bn ρ') : JT X B ρ (.UnaryOp .Not a pos) m (fun b => !bn b) ρ' :=
  PT_imp (pt_not h) fun σ H Q ⟨G, E, q⟩ => ⟨G, E, q⟩
theorem jt_w {β : Type} {m : R β} {bn : β → Bool} {ρ' : β → List Slot} (h : JW X B ρ e m bn ρ') : JT X B ρ e m bn ρ' := PW.pt h
variable {rest : List Expr}
theorem jw_or1 {β : Type} {m : R β} {bn : β → Bool} {ρ' : β → List Slot} (h : JT X B ρ a m bn ρ') : JW X B ρ (.BoolOp .Or [a] pos) m bn ρ' := pw_or1 h
theorem tw_or {x y : Bool} (ha : TP0 X B ρ a x) (hb : JW X B ρ (.BoolOp .Or (b :: rest) pos) (.ok ()) (fun _ => y) (fun _ => ρ)) : JW X B ρ (.BoolOp .Or (a :: b :: rest) pos) (.ok ()) (fun _ => x || y) (fun _ => ρ) :=
  PW_imp (pw_or ha hb) fun σ H Q ⟨G, E, q⟩ => ⟨G, E, fun G1 H1 x1 E1 => by
    cases x with
    | false => exact ⟨G1, E1, fun G2 H2 x2 E2 => q G2 H2 (x1.trans x2) E2⟩
    | true => exact q G1 H1 x1 E1⟩
def and2 {α : Type} (ma : R α) (xa : α → Bool) (mb : R Bool) : R Bool := ma.bind fun x => if xa x = true then mb else .ok false
def or2 {α : Type} (ma : R α) (xa : α → Bool) (mb : R Bool) : R Bool := ma.bind fun x => if xa x = true then .ok true else mb
theorem jw_or {α : Type} {ma : R α} {xa : α → Bool} {mb : R Bool} (ha : JT X B ρ a ma xa (fun _ => ρ)) (hb : JW X B ρ (.BoolOp .Or (b :: rest) pos) mb (fun y => y) (fun _ => ρ)) : JW X B ρ (.BoolOp .Or (a :: b :: rest) pos) (or2 ma xa mb) (fun y => y) (fun _ => ρ) :=
  PW_imp (pw_or ha hb) fun σ H Q ⟨G, E, q⟩ => ⟨G, E, R.post_mono (R.post_bind.mp q) fun x k G1 H1 x1 E1 => by
    cases hx : xa x with
    | false =>
      rw [if_neg (by rw [hx]; decide)] at k
      exact ⟨G1, E1, R.post_mono k fun b k G2 H2 x2 E2 => k G2 H2 (x1.trans x2) E2⟩
    | true =>
      rw [if_pos hx] at k
      exact k G1 H1 x1 E1⟩
theorem jt_map {β : Type} {m : R β} {bn : β → Bool} (h : JT X B ρ e m bn (fun _ => ρ)) : JT X B ρ e (m.bind fun b => .ok (bn b)) (fun y => y) (fun _ => ρ) :=
  PT_imp h fun σ H Q ⟨G, E, q⟩ => ⟨G, E, R.post_mono (R.post_bind.mp q) fun b k => k⟩
theorem jp_one {op : PySem.BoolOp} {β : Type} {m : R β} {sl : β → Slot} {ρ' : β → List Slot} (h : JE X B ρ a m sl ρ') : JE X B ρ (.BoolOp op [a] pos) m sl ρ' := pe_one h
theorem je_and {α : Type} {ma : R α} {xa : α → Bool} {mb : R Bool} (ha : JE X B ρ a ma (fun x => .val (.bool (xa x))) (fun _ => ρ)) (hb : JE X B ρ (.BoolOp .And (b :: rest) pos) mb (fun y => .val (.bool y)) (fun _ => ρ)) : JE X B ρ (.BoolOp .And (a :: b :: rest) pos) (and2 ma xa mb) (fun y => .val (.bool y)) (fun _ => ρ) :=
  PE_imp (pe_and ha hb) fun σ H Q ⟨G, E, q⟩ => ⟨G, E, R.post_mono (R.post_bind.mp q) fun x k v G1 H1 x1 E1 => ⟨xa x, E1.top.bl_inv, by
    cases hx : xa x with
    | true =>
      rw [if_pos hx] at k
      exact ⟨G1, E1.pop, R.post_mono k fun b k v G2 H2 x2 E2 => k v G2 H2 (x1.trans x2) E2⟩
    | false =>
      rw [if_neg (by rw [hx]; decide)] at k
      exact k _ G1 H1 x1 (E1.pop.push (.bl false))⟩⟩
theorem je_map {β γ : Type} {m : R β} {sl : β → Slot} {sl' : γ → Slot} {f : β → γ} (h : JE X B ρ e m sl (fun _ => ρ)) (k : ∀ b, sl b = sl' (f b)) : JE X B ρ e (m.bind fun b => .ok (f b)) sl' (fun _ => ρ) :=
  PE_imp h fun σ H Q ⟨G, E, q⟩ => ⟨G, E, R.post_mono (R.post_bind.mp q) fun b q1 v G' H' x E' => q1 v G' H' x (by rw [← k b]; exact E')⟩
end
end DL
namespace DL
open PySem PySem.Spec L2
def insAt : Nat → List Slot → List Ar → List Slot
  | _, _, [] => []
  | n, ρ, .val d :: as => .val d :: insAt (n + 1) ρ as
  | n, ρ, .slot i :: as => (match ρ[i]? with | some (.own _ o) => .own (n + 1) o | _ => .non) :: insAt (n + 1) (ρ.set i .non) as
def movedAt : List Slot → List Ar → List Slot
  | ρ, [] => ρ
  | ρ, .val _ :: as => movedAt ρ as
  | ρ, .slot i :: as => movedAt (ρ.set i .non) as
def relab : Slot → Option Slot → Slot
  | .own _ o, some (.own l _) => .own l o
  | _, _ => .non
def backAt (ρ0 : List Slot) : List Slot → List Ar → List Slot → List Slot
  | ρ, [], _ => ρ
  | ρ, _, [] => ρ
  | ρ, .val _ :: as, _ :: os => backAt ρ0 ρ as os
  | ρ, .slot i :: as, s :: os => backAt ρ0 (ρ.set i (relab s ρ0[i]?)) as os
def isOwn : Option Slot → Bool
  | some (.own _ _) => true
  | _ => false
def goodIn : List Slot → List Ar → Bool
  | _, [] => true
  | ρ, .val _ :: as => goodIn ρ as
  | ρ, .slot i :: as => isOwn ρ[i]? && goodIn (ρ.set i .non) as
def isOwnL (n : Nat) : Slot → Bool
  | .own l _ => l == n
  | _ => false
def goodOut : Nat → List Ar → List Slot → Bool
  | _, [], [] => true
  | n, .val _ :: as, _ :: os => goodOut (n + 1) as os
  | n, .slot _ :: as, s :: os => isOwnL (n + 1) s && goodOut (n + 1) as os
  | _, _, _ => false
def noSlots : List Ar → Bool
  | [] => true
  | .val _ :: as => noSlots as
  | .slot _ :: _ => false
def noAlis : List Slot → Bool
  | [] => true
  | .ali _ _ :: _ => false
  | _ :: r => noAlis r
theorem noAlis_get : ∀ {ρ : List Slot}, noAlis ρ = true → ∀ {i j : Nat} {p : List Nat}, ρ[i]? ≠ some (.ali j p)
  | [], _, _, _, _ => fun e => nomatch e
  | s :: ρ, h, 0, j, p => fun e => by
    simp at e
    subst e
    simp [noAlis] at h
  | s :: ρ, h, i + 1, j, p => fun e => by
    have h' : noAlis ρ = true := by
      cases s <;> simp [noAlis] at h <;> exact h
    exact noAlis_get h' (i := i) (j := j) (p := p) (by simpa using e)
section
variable {K : PySem.W.Frag} {B B' : Base} {G G' H H' : Hp}
theorem isOwn_inv {s : Option Slot} (h : isOwn s = true) : ∃ l o, s = some (.own l o) := by
  match s, h with
  | some (.own l o), _ => exact ⟨l, o, rfl⟩
theorem isOwnL_inv {n : Nat} {s : Slot} (h : isOwnL n s = true) : ∃ o, s = .own n o := by
  match s, h with
  | .own l o, h =>
    simp [isOwnL] at h
    subst h
    exact ⟨o, rfl⟩
theorem Cells.args {σ : L2.St} : ∀ {as : List Ar} {vs : List V} {ρ : List Slot} {A : List Addr} (n : Nat), Cells K B G H σ ρ A → ArOk K G σ vs as → goodIn ρ as = true →
    ∃ (As : List (List Addr)) (Ar' : List Addr), As.length = as.length ∧ (∀ B' : Base, (∀ k, B'.Mo (n + 1 + k) = As.getD k []) → (∀ k, B'.pv (n + 1 + k) = vs[k]?) → Cells K B' G H (vs.map some) (insAt n ρ as) As.flatten) ∧ Cells K B G H σ (movedAt ρ as) Ar' ∧ A.Perm (As.flatten ++ Ar') ∧
      ∀ (k i : Nat), as[k]? = some (.slot i) → ∃ l o, ρ[i]? = some (.own l o) ∧ (∀ a ∈ As.getD k [], a ∈ B.Mo l ∨ B.H0 a = none) ∧ ∀ v, σ[i]? = some (some v) → l = 0 ∨ B.pv l = some v
  | [], _, ρ, A, n, h, .nil, _ => ⟨[], A, rfl, fun _ _ _ => .nil, h, List.Perm.refl _, fun _ _ e => by simp at e⟩
  | .val d :: as, v :: vs, ρ, A, n, h, .val r q, g => by
    obtain ⟨As, A', h1, h2, h3, h4, h5⟩ := Cells.args (n + 1) h q (by simpa [goodIn] using g)
    refine ⟨[] :: As, A', by simp [h1], fun B' hB hP => ?_, h3, by simpa using h4, fun k i e => ?_⟩
    · exact .cons (A := []) (.val r) (h2 B' (fun k => by
        have := hB (k + 1)
        rw [show n + 1 + (k + 1) = n + 1 + 1 + k by omega] at this
        simpa using this) (fun k => by
        have := hP (k + 1)
        rw [show n + 1 + (k + 1) = n + 1 + 1 + k by omega] at this
        simpa using this))
    · cases k with
      | zero => simp at e
      | succ k =>
        obtain ⟨l, o, e1, e2⟩ := h5 k i (by simpa using e)
        exact ⟨l, o, e1, by simpa using e2.1, e2.2⟩
  | .slot j :: as, v :: vs, ρ, A, n, h, .slot e0 q, g => by
    simp [goodIn] at g
    obtain ⟨l, o, ho⟩ := isOwn_inv g.1
    obtain ⟨v', A1, A2, e1, hO, ⟨hl, hv⟩, c2, p⟩ := h.take1 ho
    have ev : v = v' := by
      have z := e0.symm.trans e1
      injection z with z
      injection z
    subst ev
    obtain ⟨As, A', h1, h2, h3, h4, h5⟩ := Cells.args (n + 1) c2 q g.2
    refine ⟨A1 :: As, A', by simp [h1], fun B' hB hP => ?_, h3, ?_, fun k i e => ?_⟩
    · have hins : insAt n ρ (.slot j :: as) = .own (n + 1) o :: insAt (n + 1) (ρ.set j .non) as := by
        show (match ρ[j]? with | some (.own _ o) => Slot.own (n + 1) o | _ => .non) :: _ = _
        rw [ho]
      rw [hins]
      refine .cons (A := A1) (.own hO (fun a m => .inl ?_) (.inr ?_)) (h2 B' (fun k => ?_) fun k => ?_)
      · have := hB 0
        simp at this
        rw [this]
        exact m
      · have := hP 0
        simpa using this
      · have := hB (k + 1)
        rw [show n + 1 + (k + 1) = n + 1 + 1 + k by omega] at this
        simpa using this
      · have := hP (k + 1)
        rw [show n + 1 + (k + 1) = n + 1 + 1 + k by omega] at this
        simpa using this
    · have := p.trans (h4.append_left A1)
      rw [← List.append_assoc] at this
      exact this
    · cases k with
      | zero =>
        simp at e
        subst e
        exact ⟨l, o, ho, by simpa using hl, fun w ew => by
          have z := e1.symm.trans ew
          injection z with z
          injection z with z
          rw [← z]
          exact hv⟩
      | succ k =>
        obtain ⟨l', o', q1, q2⟩ := h5 k i (by simpa using e)
        have hij : j ≠ i := fun z => by
          subst z
          by_cases hlt : j < ρ.length
          · rw [List.getElem?_set_self hlt] at q1
            cases q1
          · rw [List.getElem?_eq_none (by simpa using hlt)] at q1
            cases q1
        rw [List.getElem?_set_ne hij] at q1
        exact ⟨l', o', q1, by simpa using q2.1, q2.2⟩
theorem Cells.region {σ : L2.St} {ρ : List Slot} {A : List Addr} (h : Cells K B G H σ ρ A) : ∀ a ∈ A, (∃ l, a ∈ B.Mo l) ∨ B.H0 a = none := by
  induction h with
  | nil => exact fun _ m => nomatch m
  | cons c r ih =>
    intro a m
    rcases List.mem_append.mp m with m | m
    · cases c with
      | non => exact nomatch m
      | val _ => exact nomatch m
      | own _ hl _ => exact (hl a m).imp (fun z => ⟨_, z⟩) id
      | ali => exact nomatch m
    · exact ih a m
def slotsOf : List Ar → List Nat
  | [] => []
  | .val _ :: as => slotsOf as
  | .slot i :: as => i :: slotsOf as
theorem goodIn_nodup : ∀ {as : List Ar} {ρ : List Slot}, goodIn ρ as = true → (slotsOf as).Nodup ∧ ∀ i ∈ slotsOf as, isOwn ρ[i]? = true
  | [], _, _ => ⟨List.nodup_nil, fun _ m => nomatch m⟩
  | .val _ :: as, ρ, h => goodIn_nodup (as := as) (by simpa [goodIn] using h)
  | .slot j :: as, ρ, h => by
    simp [goodIn] at h
    obtain ⟨h1, h2⟩ := goodIn_nodup h.2
    have hj : ∀ i ∈ slotsOf as, i ≠ j := fun i m z => by
      subst z
      have := h2 i m
      by_cases hlt : i < ρ.length
      · rw [List.getElem?_set_self hlt] at this
        cases this
      · rw [List.getElem?_eq_none (by simpa using hlt)] at this
        cases this
    refine ⟨List.nodup_cons.mpr ⟨fun m => hj j m rfl, h1⟩, fun i m => ?_⟩
    rcases List.mem_cons.mp m with rfl | m
    · exact h.1
    · have := h2 i m
      rw [List.getElem?_set_ne (Ne.symm (hj i m))] at this
      exact this
theorem movedAt_len : ∀ (as : List Ar) (ρ : List Slot), (movedAt ρ as).length = ρ.length
  | [], _ => rfl
  | .val _ :: as, ρ => movedAt_len as ρ
  | .slot i :: as, ρ => by
    show (movedAt (ρ.set i .non) as).length = _
    rw [movedAt_len as, List.length_set]
theorem movedAt_get : ∀ {as : List Ar} {ρ : List Slot} {i : Nat}, i ∈ slotsOf as → i < ρ.length → (movedAt ρ as)[i]? = some .non
  | .val _ :: as, ρ, i, m, h => movedAt_get (as := as) (ρ := ρ) (by simpa [slotsOf] using m) h
  | .slot j :: as, ρ, i, m, h => by
    show (movedAt (ρ.set j .non) as)[i]? = _
    by_cases hi : i ∈ slotsOf as
    · exact movedAt_get hi (by simpa using h)
    · have e : i = j := by
        rcases List.mem_cons.mp m with e | m
        · exact e
        · exact absurd m hi
      subst e
      have keep : ∀ (as : List Ar) (ρ : List Slot), i ∉ slotsOf as → (movedAt ρ as)[i]? = ρ[i]? := by
        intro as
        induction as with
        | nil => intro ρ _; rfl
        | cons a as ih =>
          intro ρ hn
          cases a with
          | val d => exact ih ρ (by simpa [slotsOf] using hn)
          | slot k =>
            have hk : i ≠ k ∧ i ∉ slotsOf as := by simpa [slotsOf] using hn
            show (movedAt (ρ.set k .non) as)[i]? = _
            rw [ih _ hk.2, List.getElem?_set_ne (Ne.symm hk.1)]
      rw [keep as _ hi, List.getElem?_set_self h]
theorem Cells.back {σ : L2.St} {G0 : Hp} (ρ0 : List Slot) : ∀ {as : List Ar} {vs : List V} {os ρ : List Slot} {A A' : List Addr} (n : Nat), ArOk K G0 σ vs as → Cells K B' G' H' (vs.map some) os A' → Cells K B G' H' σ ρ A → goodOut n as os = true →
    (slotsOf as).Nodup → (∀ i ∈ slotsOf as, ρ[i]? = some .non) → (∀ (k i : Nat), as[k]? = some (.slot i) → ∃ l o, ρ0[i]? = some (.own l o) ∧ (∀ a, (a ∈ B'.Mo (n + 1 + k) ∨ B'.H0 a = none) → a ∈ B.Mo l ∨ B.H0 a = none) ∧ ∀ v, σ[i]? = some (some v) → l = 0 ∨ B.pv l = some v) →
    ∃ A2 C, Cells K B G' H' σ (backAt ρ0 ρ as os) A2 ∧ A2.Perm (C ++ A) ∧ C.Sublist A'
  | [], _, os, ρ, A, A', n, .nil, _, h, _, _, _, _ => ⟨A, [], by rw [backAt]; exact h, List.Perm.refl _, List.nil_sublist _⟩
  | .val d :: as, v :: vs, os, ρ, A, A', n, .val r q, c, h, g, nd, hn, hl => by
    cases c with
    | @cons _ s A1 _ os A2 c1 cr =>
      obtain ⟨A3, C, h1, h2, h3⟩ := Cells.back ρ0 (n + 1) q cr h (by simpa [goodOut] using g) (by simpa [slotsOf] using nd) (by simpa [slotsOf] using hn) (fun k i e => by
        obtain ⟨l, o, e1, e2⟩ := hl (k + 1) i (by simpa using e)
        rw [show n + 1 + (k + 1) = n + 1 + 1 + k by omega] at e2
        exact ⟨l, o, e1, e2⟩)
      exact ⟨A3, C, by rw [backAt]; exact h1, h2, h3.trans (List.sublist_append_right _ _)⟩
  | .slot j :: as, v :: vs, os, ρ, A, A', n, .slot e0 q, c, h, g, nd, hn, hl => by
    cases c with
    | @cons _ s A1 _ os A2 c1 cr =>
      have g' : isOwnL (n + 1) s = true ∧ goodOut (n + 1) as os = true := by simpa [goodOut] using g
      obtain ⟨o, rfl⟩ := isOwnL_inv g'.1
      cases c1 with
      | own hO hr _ =>
        obtain ⟨l, o0, e1, e2, e3⟩ := hl 0 j rfl
        have hj : ρ[j]? = some .non := hn j (by simp [slotsOf])
        obtain ⟨A4, c4, p4⟩ := h.put1 (l := l) hj e0 hO ⟨fun a m => e2 a (by simpa using hr a m), e3 _ e0⟩
        have nd' : j ∉ slotsOf as ∧ (slotsOf as).Nodup := by simpa [slotsOf] using nd
        obtain ⟨A3, C, h1, h2, h3⟩ := Cells.back ρ0 (n + 1) q cr c4 g'.2 nd'.2 (fun i m => by
          have hij : j ≠ i := fun z => nd'.1 (z ▸ m)
          rw [List.getElem?_set_ne hij]
          exact hn i (by simp [slotsOf, m])) (fun k i e => by
          obtain ⟨l, o, e1, e2⟩ := hl (k + 1) i (by simpa using e)
          rw [show n + 1 + (k + 1) = n + 1 + 1 + k by omega] at e2
          exact ⟨l, o, e1, e2⟩)
        refine ⟨A3, A1 ++ C, ?_, ?_, h3.append_left A1⟩
        · rw [backAt, e1]
          exact h1
        · have p5 := h2.trans (p4.append_left C)
          refine p5.trans ?_
          rw [← List.append_assoc]
          exact List.perm_append_comm.append_right A
theorem backAt_len (ρ0 : List Slot) : ∀ (as : List Ar) (os ρ : List Slot), (backAt ρ0 ρ as os).length = ρ.length
  | [], _, _ => by rw [backAt]
  | .val _ :: _, [], _ => by rw [backAt]; exact fun h => nomatch h
  | .slot _ :: _, [], _ => by rw [backAt]; exact fun h => nomatch h
  | .val _ :: as, _ :: os, ρ => by
    rw [backAt]
    exact backAt_len ρ0 as os ρ
  | .slot i :: as, s :: os, ρ => by
    rw [backAt, backAt_len ρ0 as os, List.length_set]
end
def baseOf (H G : Hp) (As : List (List Addr)) (vs : List V) (rs : Exn → Prop) : Base := ⟨H, G, fun l => match l with | 0 => [] | n + 1 => As.getD n [], rfl, fun l => match l with | 0 => none | n + 1 => vs[n]?, rs⟩
def spM (K : PySem.W.Frag) {α β : Type} (ins : α → List Slot) (m : α → R β) (sl : β → Slot) (outs : β → List Slot) : Sp := fun vs H Q _ =>
  ∃ (a : α) (G : Hp) (As : List (List Addr)), En K (baseOf H G As vs fun _ => False) G H (vs.map some) (ins a) [] ∧
    (m a).post (fun b => ∀ v G' H', En K (baseOf H G As vs fun _ => False) G' H' (vs.map some) (outs b) [(v, sl b)] → Q v H') fun _ => False
def resOk : Slot → Bool
  | .val _ => true
  | .own 0 _ => true
  | _ => false
def aliOk (ρ : List Slot) (as : List Ar) : Bool := noSlots as || noAlis ρ
theorem insAt_noAli : ∀ {as : List Ar} {n : Nat} {ρ : List Slot} {i j : Nat} {p : List Nat}, (insAt n ρ as)[i]? ≠ some (.ali j p)
  | [], n, ρ, i, j, p => fun e => nomatch e
  | .val d :: as, n, ρ, 0, j, p => fun e => by simp [insAt] at e
  | .val d :: as, n, ρ, i + 1, j, p => fun e => insAt_noAli (as := as) (n := n + 1) (ρ := ρ) (i := i) (j := j) (p := p) (by simpa [insAt] using e)
  | .slot k :: as, n, ρ, 0, j, p => fun e => by
    simp [insAt] at e
    split at e <;> cases e
  | .slot k :: as, n, ρ, i + 1, j, p => fun e => insAt_noAli (as := as) (n := n + 1) (ρ := ρ.set k .non) (i := i) (j := j) (p := p) (by simpa [insAt] using e)
theorem movedAt_noSlots : ∀ {as : List Ar} {ρ : List Slot}, noSlots as = true → movedAt ρ as = ρ
  | [], _, _ => rfl
  | .val _ :: as, ρ, h => movedAt_noSlots (as := as) h
theorem backAt_noSlots {ρ0 : List Slot} : ∀ {as : List Ar} {os ρ : List Slot}, noSlots as = true → backAt ρ0 ρ as os = ρ
  | [], _, _, _ => by rw [backAt]
  | .val _ :: as, [], _, _ => by rw [backAt]; exact fun h => nomatch h
  | .val _ :: as, _ :: os, ρ, h => by
    rw [backAt]
    exact backAt_noSlots (as := as) h
theorem backAt_noAlis {ρ0 : List Slot} : ∀ {as : List Ar} {os ρ : List Slot}, (∀ {i j : Nat} {p : List Nat}, ρ[i]? ≠ some (.ali j p)) → ∀ {i j : Nat} {p : List Nat}, (backAt ρ0 ρ as os)[i]? ≠ some (.ali j p)
  | [], _, _, h => by
    rw [backAt]
    exact h
  | .val _ :: _, [], _, h => by
    rw [backAt]
    exact h
    exact fun h => nomatch h
  | .slot _ :: _, [], _, h => by
    rw [backAt]
    exact h
    exact fun h => nomatch h
  | .val _ :: as, _ :: os, ρ, h => by
    rw [backAt]
    exact backAt_noAlis h
  | .slot k :: as, s :: os, ρ, h => by
    rw [backAt]
    refine backAt_noAlis fun {i j p} e => ?_
    by_cases hk : k = i
    · subst hk
      by_cases hlt : k < ρ.length
      · rw [List.getElem?_set_self hlt] at e
        have e : relab s ρ0[k]? = .ali j p := Option.some.inj e
        cases s <;> simp [relab] at e
        split at e <;> cases e
      · rw [List.getElem?_eq_none (by simpa using hlt)] at e
        cases e
    · rw [List.getElem?_set_ne hk] at e
      exact h e
theorem movedAt_noAlis : ∀ {as : List Ar} {ρ : List Slot}, (∀ {i j : Nat} {p : List Nat}, ρ[i]? ≠ some (.ali j p)) → ∀ {i j : Nat} {p : List Nat}, (movedAt ρ as)[i]? ≠ some (.ali j p)
  | [], _, h => h
  | .val _ :: as, ρ, h => movedAt_noAlis (as := as) h
  | .slot k :: as, ρ, h => movedAt_noAlis (as := as) (ρ := ρ.set k .non) fun {i j p} e => by
    by_cases hk : k = i
    · subst hk
      by_cases hlt : k < ρ.length
      · rw [List.getElem?_set_self hlt] at e
        cases e
      · rw [List.getElem?_eq_none (by simpa using hlt)] at e
        cases e
    · rw [List.getElem?_set_ne hk] at e
      exact h e
section
variable {K : PySem.W.Frag} {B : Base} {G H : Hp} {σ : L2.St} {ρ : List Slot} {as : List Ar} {vs : List V}
theorem call_en (En0 : En K B G H σ ρ []) (ok : ArOk K G σ vs as) (hi : goodIn ρ as = true) (hal : aliOk ρ as = true) :
    ∃ As, En K (baseOf H G As vs fun _ => False) G H (vs.map some) (insAt 0 ρ as) [] ∧ ∀ (os : List Slot) (s : Slot) (v : V) (G' H' : Hp), goodOut 0 as os = true → resOk s = true → En K (baseOf H G As vs fun _ => False) G' H' (vs.map some) os [(v, s)] →
      Ex G G' ∧ En K B G' H' σ (backAt ρ (movedAt ρ as) as os) [(v, s)] := by
  obtain ⟨A, c, nd, f⟩ := En0.own
  obtain ⟨As, Ar', h1, h2, h3, h4, h5⟩ := Cells.args (as := as) 0 (show Cells K B G H σ ρ A from c) ok hi
  have nd2 := List.nodup_append.mp (h4.nodup_iff.mp nd)
  have fA : ∀ x ∈ As.flatten, G x = none := fun x m => f x (h4.mem_iff.mpr (List.mem_append_left _ m))
  have fR : ∀ x ∈ Ar', G x = none := fun x m => f x (h4.mem_iff.mpr (List.mem_append_right _ m))
  have mo : ∀ k, (baseOf H G As vs fun _ => False).Mo (0 + 1 + k) = As.getD k [] := fun k => by
    show (match 0 + 1 + k with | 0 => [] | n + 1 => As.getD n []) = _
    rw [show 0 + 1 + k = k + 1 by omega]
  have moIn : ∀ l x, x ∈ (baseOf H G As vs fun _ => False).Mo l → x ∈ As.flatten := fun l x m => by
    cases l with
    | zero => exact nomatch m
    | succ n =>
      have m : x ∈ As.getD n [] := m
      rw [List.getD_eq_getElem?_getD] at m
      cases e : As[n]? with
      | none =>
        rw [e] at m
        exact nomatch m
      | some L =>
        rw [e] at m
        exact List.mem_flatten.mpr ⟨L, List.mem_of_getElem? e, m⟩
  have cA := h2 (baseOf H G As vs fun _ => False) mo fun k => by
    show (match 0 + 1 + k with | 0 => none | n + 1 => vs[n]?) = _
    rw [show 0 + 1 + k = k + 1 by omega]
  have thA : ∀ x ∈ As.flatten, ∃ u, H x = some u := cA.there
  have thR : ∀ x ∈ Ar', ∃ u, H x = some u := h3.there
  refine ⟨As, ⟨⟨fun x o _ e => e, fun x l mx => ?_, Ex.refl G, fun x _ e => .inl e, En0.sub⟩, ⟨_, by
      exact cA, nd2.1, fA⟩, ?_, fun i j p e => ?_⟩, ?_⟩
  · obtain ⟨u, hu⟩ := thA x (moIn l x mx)
    rw [hu]
    exact fun z => nomatch z
  · exact cA.len
  · exact absurd e insAt_noAli
  · intro os s v G' H' ho hres E'
    have hG : Ex G G' := E'.anc.gsub
    refine ⟨hG, ?_⟩
    obtain ⟨A', c', n', f'⟩ := E'.own
    cases c' with
    | @cons _ _ A1 _ _ A2 cv cr =>
      have n1 := List.nodup_append.mp n'
      have keepH : ∀ x o, x ∉ As.flatten → H x = some o → H' x = some o := fun x o hx e => E'.anc.keep x o (fun l z => hx (moIn l x z)) e
      have reg : ∀ x ∈ A1 ++ A2, x ∈ As.flatten ∨ H x = none := fun x mx => by
        have := Cells.region (Cells.cons cv cr) x mx
        rcases this with ⟨l, z⟩ | z
        · exact .inl (moIn l x z)
        · exact .inr z
      have cR : Cells K B G' H' σ (movedAt ρ as) Ar' := h3.ex hG fun x mx u e => keepH x u (fun z => nd2.2.2 x z x mx rfl) e
      obtain ⟨gn1, gn2⟩ := goodIn_nodup hi
      obtain ⟨A3, C, b1, b2, b3⟩ := Cells.back (B := B) ρ (n := 0) ok cr cR ho gn1 (fun i mi => movedAt_get mi (by
          have := gn2 i mi
          obtain ⟨l, o, e⟩ := isOwn_inv this
          exact (List.getElem?_eq_some_iff.mp e).1)) (fun k i e => by
          obtain ⟨l, o, e1, e2, e3⟩ := h5 k i e
          refine ⟨l, o, e1, fun x hx => ?_, e3⟩
          rcases hx with hx | hx
          · rw [mo] at hx
            exact e2 x hx
          · exact .inr (En0.fresh hx))
      have subC : (A1 ++ C).Sublist (A1 ++ A2) := b3.append_left A1
      have ndC : (A1 ++ C).Nodup := subC.nodup n'
      have dis : ∀ x ∈ A1 ++ A2, x ∉ Ar' := fun x mx mr => by
        rcases reg x mx with z | z
        · exact nd2.2.2 x z x mr rfl
        · obtain ⟨u, hu⟩ := thR x mr
          rw [hu] at z
          cases z
      have pA : (A1 ++ A3).Perm ((A1 ++ C) ++ Ar') := by
        rw [List.append_assoc]
        exact b2.append_left A1
      have cvB : Cell K B G' H' (some v) s A1 := by
        have cv2 : Cell K (baseOf H G As vs fun _ => False) G' H' (some v) s A1 := cv
        have hb := hres
        cases cv2 with
        | non => exact .non
        | val h => exact .val h
        | @own _ l o _ hO hl _ =>
          cases l with
          | succ n => cases hb
          | zero =>
            refine .own hO (fun x mx => .inr (En0.fresh ?_)) (.inl rfl)
            rcases hl x mx with z | z
            · exact nomatch z
            · exact z
        | ali => exact .ali
      have lenEq : (backAt ρ (movedAt ρ as) as os).length = ρ.length := by rw [backAt_len, movedAt_len]
      have anc : Anc B G' H' := by
        refine ⟨fun x o hx e => ?_, fun x l hx => ?_, En0.anc.gsub.trans hG, fun x e1 e2 => ?_, E'.anc.sub⟩
        · have e1 := En0.anc.keep x o hx e
          refine keepH x o (fun z => ?_) e1
          rcases Cells.region (show Cells K B G H σ ρ A from c) x (h4.mem_iff.mpr (List.mem_append_left _ z)) with ⟨l, y⟩ | y
          · exact hx l y
          · rw [y] at e
            cases e
        · have e1 := En0.anc.there x l hx
          by_cases hxA : x ∈ As.flatten
          · obtain ⟨L, hL, mL⟩ := List.mem_flatten.mp hxA
            obtain ⟨k, hk⟩ := List.getElem?_of_mem hL
            refine E'.anc.there x (k + 1) ?_
            show x ∈ As.getD k []
            rw [List.getD_eq_getElem?_getD, hk]
            exact mL
          · cases e : H x with
            | none => exact absurd e e1
            | some o =>
              rw [keepH x o hxA e]
              exact fun z => nomatch z
        · refine gnew_then (En0.anc.gnew x e1 e2) En0.anc.sub hG E'.anc.sub fun gx => E'.anc.gnew x ?_ gx
          intro z
          exact e1 (En0.fresh z)
      refine ⟨anc, ⟨A1 ++ A3, .cons cvB b1, pA.nodup_iff.mpr (List.nodup_append.mpr ⟨ndC, nd2.2.1, fun x mx y my e => dis x (subC.subset mx) (e ▸ my)⟩), fun x mx => ?_⟩, by rw [lenEq]; exact En0.len, fun i j p e => ?_⟩
      · rcases List.mem_append.mp (pA.mem_iff.mp mx) with mx | mx
        · exact f' x (subC.subset mx)
        · refine E'.anc.gnone ?_ (fR x mx) (cR.nt x mx)
          obtain ⟨u, hu⟩ := thR x mx
          show H x ≠ none
          rw [hu]
          exact fun z => nomatch z
      · cases hs : noSlots as with
        | false =>
          have hn : noAlis ρ = true := by
            unfold aliOk at hal
            rw [hs] at hal
            simpa using hal
          exact absurd e (backAt_noAlis (movedAt_noAlis (noAlis_get hn)))
        | true =>
          rw [backAt_noSlots hs, movedAt_noSlots hs] at e
          obtain ⟨v', w, q1, q2, q3⟩ := En0.ali i j p e
          refine ⟨v', w, q1, q2, q3.ex fun x o e => keepH x o (fun z => ?_) e⟩
          have hk : ∀ {as : List Ar} {As : List (List Addr)}, noSlots as = true → As.length = as.length → (∀ k : Nat, k < As.length → As.getD k [] = []) → As.flatten = [] := fun {as As} _ hl hk => by
            rw [List.flatten_eq_nil_iff]
            intro L hL
            obtain ⟨k, hk'⟩ := List.getElem?_of_mem hL
            have := hk k (List.getElem?_eq_some_iff.mp hk').1
            rw [List.getD_eq_getElem?_getD, hk'] at this
            exact this
          have vals : ∀ {as : List Ar} {vs : List V} {n : Nat} {ρ : List Slot} {A : List Addr} {B' : Base}, noSlots as = true → Cells K B' G H (vs.map some) (insAt n ρ as) A → A = [] := by
            intro as
            induction as with
            | nil =>
              intro vs n ρ A B' _ c
              cases vs with
              | nil =>
                cases c
                rfl
              | cons v vs => cases c
            | cons a as ih =>
              intro vs n ρ A B' hs c
              cases a with
              | slot i => cases hs
              | val d =>
                cases vs with
                | nil => cases c
                | cons v vs =>
                  cases c with
                  | cons c r =>
                    cases c
                    exact ih hs r
          have := vals hs cA
          rw [this] at z
          exact nomatch z
theorem call_sp {α β : Type} {ins : α → List Slot} {m : α → R β} {sl : β → Slot} {outs : β → List Slot} {Q : VK} {E : XK} (a : α) (En0 : En K B G H σ ρ []) (ok : ArOk K G σ vs as) (hi : goodIn ρ as = true) (hins : insAt 0 ρ as = ins a)
    (ho : ∀ b, goodOut 0 as (outs b) = true) (hal : aliOk ρ as = true) (hres : ∀ b, resOk (sl b) = true) (hr : ∀ e, ¬ B.rs e)
    (q : (m a).post (fun b => ∀ v G' H', Ex G G' → En K B G' H' σ (backAt ρ (movedAt ρ as) as (outs b)) [(v, sl b)] → Q v H') B.rs) : spM K ins m sl outs vs H Q E := by
  obtain ⟨As, c1, c2⟩ := call_en En0 ok hi hal
  refine ⟨a, G, As, by rw [← hins]; exact c1, ?_⟩
  cases hm : m a with
  | bad =>
    rw [hm] at q
    exact q.elim
  | err e =>
    rw [hm] at q
    exact (hr e q).elim
  | ok b =>
    rw [hm] at q
    intro v G' H' E'
    obtain ⟨hG, E2⟩ := c2 _ _ v G' H' (ho b) (hres b) E'
    exact q v G' H' hG E2
end
section
variable {X : Cx} {B : Base} {ρ : List Slot} {e : Expr} {es : List Expr} {pos : Pos}
theorem ja_nil : JA X B ρ [] (.ok ()) (fun _ => []) (fun _ => ρ) := PA_imp pa_nil fun σ H Q ⟨G, E, q⟩ => q [] G H (Ex.refl G) E .nil
theorem ja_p {d : D} {β : Type} {m : R β} {as : β → List Ar} {ρ' : β → List Slot} (h : JP X B ρ e d) (t : JA X B ρ es m as ρ') (hst : starEach (e :: es) X.env = (false, eval e X.env) :: starEach es X.env := by rfl) : JA X B ρ (e :: es) m (fun b => .val d :: as b) ρ' :=
  PA_imp (pa_cons h t hst) fun σ H Q ⟨G, E, q⟩ => ⟨G, E, fun v G1 H1 x1 E1 => ⟨G1, E1.pop, R.post_mono q fun b k vs G2 H2 x2 E2 ok => k _ G2 H2 (x1.trans x2) E2 (.val (E1.top.ex x2) ok)⟩⟩
theorem ja_e {α β : Type} {ma : R α} {xa : α → D} {ρa : α → List Slot} {mb : α → R β} {as : α → β → List Ar} {ρ' : α → β → List Slot} (h : JE X B ρ e ma (fun x => .val (xa x)) ρa) (t : ∀ x, JA X B (ρa x) es (mb x) (as x) (ρ' x)) (hst : starEach (e :: es) X.env = (false, eval e X.env) :: starEach es X.env := by rfl) :
    JA X B ρ (e :: es) (ma.bind fun x => (mb x).bind fun y => .ok (x, y)) (fun p => .val (xa p.1) :: as p.1 p.2) (fun p => ρ' p.1 p.2) := by
  have t' : PA X es (fun σ H Q => ∃ x, tJA X.K B (ρa x) (mb x) (as x) (ρ' x) σ H Q) := ⟨fun pos pins s σ H Q I ⟨x, q⟩ => (t x).run pos pins s σ H Q I q⟩
  exact PA_imp (pa_cons h t' hst) fun σ H Q ⟨G, E, q⟩ => ⟨G, E, R.post_mono (R.post_bind.mp q) fun x k v G1 H1 x1 E1 => ⟨x, G1, E1.pop, R.post_mono (R.post_bind.mp k) fun y k vs G2 H2 x2 E2 ok => k _ G2 H2 (x1.trans x2) E2 (.val (E1.top.ex x2) ok)⟩⟩
theorem ja_s (i : Nat) {x : Str} {β : Type} {m : R β} {as : β → List Ar} {ρ' : β → List Slot} (t : JA X B ρ es m as ρ') (h : isOwn ρ[i]? = true := by rfl) (hN : X.N[i]? = some x := by rfl) (hv : Vis X.env.scope x := by first | exact Or.inl rfl | exact Or.inr (Or.inl rfl) | exact Or.inr (Or.inr rfl))
    (hd : (x == ("__debug__" : Str)) = false := by decide) (hcd : (x == ("__classdict__" : Str)) = false := by decide) : JA X B ρ (.Name x pos :: es) m (fun b => .slot i :: as b) ρ' :=
  PA_imp (pa_cons (pv i hN hv hd hcd) t) fun σ H Q ⟨G, E, q⟩ => by
    obtain ⟨l, o, e⟩ := isOwn_inv h
    obtain ⟨A, c, _, _⟩ := E.own
    obtain ⟨v, _, _, e1, _⟩ := Cells.take1 (show Cells X.K B G H σ ρ A from c) e
    exact ⟨v, e1, G, E, R.post_mono q fun b k vs G2 H2 x2 E2 ok => k _ G2 H2 x2 E2 (.slot e1 ok)⟩
def arDs : List Ar → List D
  | [] => []
  | .val d :: as => d :: arDs as
  | .slot _ :: as => .none :: arDs as
theorem ArOk.ds {K : PySem.W.Frag} {G : Hp} {σ : L2.St} {vs : List V} {as : List Ar} (h : ArOk K G σ vs as) (hs : noSlots as = true) : RpAll K G vs (arDs as) := by
  induction h with
  | nil => exact .nil
  | val r _ ih => exact .cons r (ih hs)
  | slot _ _ _ => cases hs
theorem je_tup {x1 : Nat} {β : Type} {m : R β} {as : β → List Ar} {ρ' : β → List Slot} (h : JA X B ρ es m as ρ') (hs : ∀ b, noSlots (as b) = true := by intro _; rfl) (hl : ∀ b, (arDs (as b)).length ≤ 1000 := by intro _; exact of_decide_eq_true rfl) : JE X B ρ (.Tuple es x1 pos) m (fun b => .val (.tuple (arDs (as b)))) ρ' :=
  PE_imp (pe_tup h) fun σ H Q ⟨G, E, q⟩ => ⟨G, E, R.post_mono q fun b k vs G1 H1 x1 E1 ok => by
    have r := ok.ds (hs b)
    refine ⟨?_, fun p hp => k _ (upd G1 p (.tup vs)) _ (x1.trans (Ex.new (E1.sub.back hp))) ((E1.new hp _).push (.tup (.inl (.inl upd_same)) ?_))⟩
    · rw [r.len]
      exact Nat.le_of_lt (small1000 (hl b))
    · exact RpAll.ex (Ex.new (E1.sub.back hp)) r⟩
theorem je_lst {β : Type} {m : R β} {as : β → List Ar} {ρ' : β → List Slot} (h : JA X B ρ es m as ρ') (hs : ∀ b, noSlots (as b) = true := by intro _; rfl) (hl : ∀ b, (arDs (as b)).length ≤ 1000 := by intro _; exact of_decide_eq_true rfl) : JE X B ρ (.List es pos) m (fun b => .own 0 (.lst ((arDs (as b)).map OT.dat))) ρ' :=
  PE_imp (pe_lst h) fun σ H Q ⟨G, E, q⟩ => ⟨G, E, R.post_mono q fun b k vs G1 H1 x1 E1 ok => by
    have r := ok.ds (hs b)
    refine ⟨?_, fun p hp => k _ G1 _ x1 (E1.newL hp r)⟩
    rw [r.len]
    exact Nat.le_of_lt (small1000 (hl b))⟩
section
variable {CX : CXT} {k : Nat} {f : Addr} {fd : FuncData} {ps : List Str} {EE : XK} {x : Str} {p : Pos}
theorem je_call {α β γ : Type} {ins : α → List Slot} {mf : α → R β} {sl : β → Slot} {outs : β → List Slot} (F : FnG X.prog X.w X.K X.mg X.base CX k f fd ps (spM X.K ins mf sl outs)) (hr : RoomG k X.A) (hg : Gl X x) (hm : X.mg x = some (.ref f)) (hk : PySem.W.keepIn X.K (.ref f) = true)
    (hb : Binds X.K fd ps []) (hx : Passes CX X EE) {ma : R γ} {as : γ → List Ar} {ρa : γ → List Slot} (arg : γ → α) (ha : JA X B ρ (e :: es) ma as ρa) (hne : ∀ e, ¬ B.rs e) (hi : ∀ c, goodIn (ρa c) (as c) = true := by intro _; rfl) (hins : ∀ c, insAt 0 (ρa c) (as c) = ins (arg c) := by intro _; rfl)
    (ho : ∀ c b, goodOut 0 (as c) (outs b) = true := by intro _ _; rfl) (hal : ∀ c, aliOk (ρa c) (as c) = true := by intro _; rfl) (hres : ∀ b, resOk (sl b) = true := by intro _; rfl)
    (hdb : (x == ("__debug__" : Str)) = false := by decide) (he : starEach (e :: es) X.env = (false, eval e X.env) :: starEach es X.env := by rfl) (hpl : (backTo pos (starEach es X.env)).any (·.1) = false := by rfl) :
    JE X B ρ (.Call (.Name x p) (e :: es) [] pos) (ma.bind fun c => (mf (arg c)).bind fun b => .ok (c, b)) (fun y => sl y.2) (fun y => backAt (ρa y.1) (movedAt (ρa y.1) (as y.1)) (as y.1) (outs y.2)) :=
  PE_imp (pe_callG F hr hg hm hk hb hx ha hdb he hpl) fun σ H Q ⟨G, E, q⟩ => ⟨G, E, R.post_mono (R.post_bind.mp q) fun c k vs G1 H1 x1 E1 ok => by
    show spM X.K ins mf sl outs (vs ++ []) H1 Q EE
    rw [List.append_nil]
    exact call_sp (arg c) E1 ok (hi c) (hins c) (ho c) (hal c) hres hne (R.post_mono (R.post_bind.mp k) fun b k v G2 H2 x2 E2 => k v G2 H2 (x1.trans x2) E2)⟩
theorem je_callP {α β : Type} {ins : α → List Slot} {mf : α → R β} {sl : β → Slot} {outs : β → List Slot} (F : FnG X.prog X.w X.K X.mg X.base CX k f fd ps (spM X.K ins mf sl outs)) (hr : RoomG k X.A) (hg : Gl X x) (hm : X.mg x = some (.ref f)) (hk : PySem.W.keepIn X.K (.ref f) = true)
    (hb : Binds X.K fd ps []) (hx : Passes CX X EE) {as : List Ar} (arg : α) (ha : JA X B ρ (e :: es) (.ok ()) (fun _ => as) (fun _ => ρ)) (hne : ∀ e, ¬ B.rs e) (hi : goodIn ρ as = true := by rfl) (hins : insAt 0 ρ as = ins arg := by rfl)
    (ho : ∀ b, goodOut 0 as (outs b) = true := by intro _; rfl) (hal : aliOk ρ as = true := by rfl) (hres : ∀ b, resOk (sl b) = true := by intro _; rfl)
    (hdb : (x == ("__debug__" : Str)) = false := by decide) (he : starEach (e :: es) X.env = (false, eval e X.env) :: starEach es X.env := by rfl) (hpl : (backTo pos (starEach es X.env)).any (·.1) = false := by rfl) :
    JE X B ρ (.Call (.Name x p) (e :: es) [] pos) (mf arg) sl (fun y => backAt ρ (movedAt ρ as) as (outs y)) :=
  PE_imp (pe_callG F hr hg hm hk hb hx ha hdb he hpl) fun σ H Q ⟨G, E, q⟩ => ⟨G, E, fun vs G1 H1 x1 E1 ok => by
    show spM X.K ins mf sl outs (vs ++ []) H1 Q EE
    rw [List.append_nil]
    exact call_sp arg E1 ok hi hins ho hal hres hne (R.post_mono q fun b k v G2 H2 x2 E2 => k v G2 H2 (x1.trans x2) E2)⟩
end
end
end DL
namespace DL
open PySem PySem.Spec L2
inductive Fl (N L T : Type) where
  | nx (n : N)
  | ct (l : L)
  | bk (l : L)
  | rt (t : T)
structure Fin (N L T : Type) where
  n : N → List Slot
  c : L → List Slot
  k : L → List Slot
  s : T → Slot
  t : T → List Slot
def flP (K : PySem.W.Frag) (B : Base) (G : Hp) (D : Ends) {N L T : Type} (F : Fin N L T) : Fl N L T → Prop
  | .nx n => ∀ σ' G' H', Ex G G' → En K B G' H' σ' (F.n n) [] → D.nx σ' H'
  | .ct l => ∀ σ' G' H', Ex G G' → En K B G' H' σ' (F.c l) [] → D.ct σ' H'
  | .bk l => ∀ σ' G' H', Ex G G' → En K B G' H' σ' (F.k l) [] → D.bk σ' H'
  | .rt t => ∀ v σ' G' H', Ex G G' → En K B G' H' σ' (F.t t) [(v, F.s t)] → D.rt v H'
def tJS (K : PySem.W.Frag) (B : Base) (ρ : List Slot) {N L T : Type} (m : R (Fl N L T)) (F : Fin N L T) : TS := fun D σ H =>
  ∃ G, En K B G H σ ρ [] ∧ m.post (flP K B G D F) B.rs
def JS (X : Cx) (B : Base) (ρ : List Slot) (st : Stmt) {N L T : Type} (m : R (Fl N L T)) (F : Fin N L T) : Prop := PS X st (tJS X.K B ρ m F)
def JSs (X : Cx) (B : Base) (ρ : List Slot) (sts : List Stmt) {N L T : Type} (m : R (Fl N L T)) (F : Fin N L T) : Prop := PSs X sts (tJS X.K B ρ m F)
def tJ1 (K : PySem.W.Frag) (B : Base) (ρ : List Slot) {β : Type} (m : R β) (ρ' : β → List Slot) : TS := fun D σ H =>
  ∃ G, En K B G H σ ρ [] ∧ m.post (fun b => ∀ σ' G' H', Ex G G' → En K B G' H' σ' (ρ' b) [] → D.nx σ' H') B.rs
def J1 (X : Cx) (B : Base) (ρ : List Slot) (st : Stmt) {β : Type} (m : R β) (ρ' : β → List Slot) : Prop := PS X st (tJ1 X.K B ρ m ρ')
def bindF {N1 N L T : Type} (m : R (Fl N1 L T)) (k : N1 → R (Fl N L T)) : R (Fl N L T) := m.bind fun
  | .nx n => k n
  | .ct l => .ok (.ct l)
  | .bk l => .ok (.bk l)
  | .rt t => .ok (.rt t)
theorem flP_ex {K : PySem.W.Frag} {B : Base} {G G1 : Hp} {D : Ends} {N L T : Type} {F : Fin N L T} {f : Fl N L T} (h : flP K B G D F f) (e : Ex G G1) : flP K B G1 D F f := by
  cases f with
  | nx n => exact fun σ' G' H' x E => h σ' G' H' (e.trans x) E
  | ct n => exact fun σ' G' H' x E => h σ' G' H' (e.trans x) E
  | bk n => exact fun σ' G' H' x E => h σ' G' H' (e.trans x) E
  | rt n => exact fun v σ' G' H' x E => h v σ' G' H' (e.trans x) E
section
variable {X : Cx} {B : Base} {ρ : List Slot} {st : Stmt} {rest : List Stmt} {N N1 L T β : Type} {F : Fin N L T} {pos : Pos} {e : Expr}
theorem js_nil (bs : List Bool) (n : N) (h : forgot ρ bs = F.n n := by rfl) : JSs X B ρ [] (.ok (.nx n)) F :=
  PSs_imp pss_nil fun D σ H ⟨G, E, q⟩ => q σ G H (Ex.refl G) (by
    rw [← h]
    exact E.forgot bs)
theorem js_one {m : R (Fl N L T)} (h : JS X B ρ st m F) : JSs X B ρ [st] m F := pss_one h
theorem js_cons1 {m : R β} {ρ' : β → List Slot} {k : β → R (Fl N L T)} (h : J1 X B ρ st m ρ') (r : ∀ b, JSs X B (ρ' b) rest (k b) F) : JSs X B ρ (st :: rest) (m.bind k) F := by
  have r' : PSs X rest (fun D σ H => ∃ b, tJS X.K B (ρ' b) (k b) F D σ H) := ⟨fun pins s σ H D I ⟨b, q⟩ => (r b).run pins s σ H D I q⟩
  exact PSs_imp (pss_cons h r') fun D σ H ⟨G, E, q⟩ => ⟨G, E, R.post_mono (R.post_bind.mp q) fun b q1 σ' G' H' x E' => ⟨b, G', E', R.post_mono q1 fun f q2 => flP_ex q2 x⟩⟩
theorem js_cons {m : R (Fl N1 L T)} {ρ1 : N1 → List Slot} {k : N1 → R (Fl N L T)} (h : JS X B ρ st m ⟨ρ1, F.c, F.k, F.s, F.t⟩) (r : ∀ n, JSs X B (ρ1 n) rest (k n) F) : JSs X B ρ (st :: rest) (bindF m k) F := by
  have r' : PSs X rest (fun D σ H => ∃ b, tJS X.K B (ρ1 b) (k b) F D σ H) := ⟨fun pins s σ H D I ⟨b, q⟩ => (r b).run pins s σ H D I q⟩
  exact PSs_imp (pss_cons h r') fun D σ H ⟨G, E, q⟩ => ⟨G, E, R.post_mono (R.post_bind.mp q) fun f q1 => by
    cases f with
    | nx n => exact fun σ' G' H' x E' => ⟨n, G', E', R.post_mono q1 fun f q2 => flP_ex q2 x⟩
    | ct n => exact q1
    | bk n => exact q1
    | rt n => exact q1⟩
theorem js_ret {m : R β} {sl : β → Slot} {ρ' : β → List Slot} (f : β → T) (bs : List Bool) (h : JE X B ρ e m sl ρ') (hs : ∀ b, F.s (f b) = sl b := by intro _; rfl) (ht : ∀ b, forgot (ρ' b) bs = F.t (f b) := by intro _; rfl) : JS X B ρ (.Return (some e) pos) (m.bind fun b => .ok (.rt (f b))) F :=
  PS_imp (ps_ret h) fun D σ H ⟨G, E, q⟩ => ⟨G, E, R.post_mono (R.post_bind.mp q) fun b q1 v G' H' x E' => q1 v σ G' H' x (by
    rw [hs b, ← ht b]
    obtain ⟨A, c, nd, f'⟩ := E'.own
    cases c with
    | @cons _ _ A1 _ _ A2 c1 cr =>
      obtain ⟨A3, h1, h2⟩ := Cells.forgot bs (show Cells X.K B G' H' σ (ρ' b) A2 from cr)
      have sub : (A1 ++ A3).Sublist (A1 ++ A2) := h2.append_left A1
      refine ⟨E'.anc, ⟨A1 ++ A3, .cons c1 h1, sub.nodup nd, fun a m => f' a (sub.subset m)⟩, by rw [forgot_len]; exact E'.len, fun i j p e => ?_⟩
      rcases forgot_get (ρ' b) bs i _ e with z | z
      · cases z
      · exact E'.ali i j p z)⟩
theorem js_if {c : Expr} {a b : List Stmt} {mc : R β} {bn : β → Bool} {ρ' : β → List Slot} {ma mb : β → R (Fl N L T)} (h : JT X B ρ c mc bn ρ') (ha : ∀ x, JSs X B (ρ' x) a (ma x) F) (hb : ∀ x, JSs X B (ρ' x) b (mb x) F) :
    JS X B ρ (.If c a b pos) (mc.bind fun x => if bn x = true then ma x else mb x) F := by
  have ha' : PSs X a (fun D σ H => ∃ x, tJS X.K B (ρ' x) (ma x) F D σ H) := ⟨fun pins s σ H D I ⟨x, q⟩ => (ha x).run pins s σ H D I q⟩
  have hb' : PSs X b (fun D σ H => ∃ x, tJS X.K B (ρ' x) (mb x) F D σ H) := ⟨fun pins s σ H D I ⟨x, q⟩ => (hb x).run pins s σ H D I q⟩
  refine PS_imp (ps_if h ha' hb') fun D σ H ⟨G, E, q⟩ => ⟨G, E, R.post_mono (R.post_bind.mp q) fun x q1 G' H' y E' => ?_⟩
  cases hx : bn x with
  | true =>
    rw [if_pos hx] at q1
    exact ⟨x, G', E', R.post_mono q1 fun f q2 => flP_ex q2 y⟩
  | false =>
    rw [if_neg (by rw [hx]; decide)] at q1
    exact ⟨x, G', E', R.post_mono q1 fun f q2 => flP_ex q2 y⟩
theorem js_ifP {c : Expr} {a b : List Stmt} {t : Bool} {ma mb : R (Fl N L T)} (h : TP0 X B ρ c t) (ha : JSs X B ρ a ma F) (hb : JSs X B ρ b mb F) : JS X B ρ (.If c a b pos) (if t = true then ma else mb) F :=
  js_if (mc := .ok ()) (bn := fun _ => t) (ma := fun _ => ma) (mb := fun _ => mb) h (fun _ => ha) fun _ => hb
theorem j1_expr {m : R β} {sl : β → Slot} {ρ' : β → List Slot} (h : JE X B ρ e m sl ρ') (hs : swapsWith e none pos.line X.env = pure false := by rfl) : J1 X B ρ (.Expr e pos) m ρ' :=
  PS_imp (ps_expr h hs) fun D σ H ⟨G, E, q⟩ => ⟨G, E, R.post_mono q fun b q1 v G' H' x E' => q1 σ G' H' x E'.pop⟩
theorem j1_set (i : Nat) {x : Str} {pos' : Pos} {m : R β} {sl : β → Slot} {ρ' : β → List Slot} (hN : X.N.Nodup) (h : JE X B ρ e m sl ρ') (hi : X.N[i]? = some x := by rfl) (hx : Loc X.env.scope x := by first | exact Or.inl rfl | exact Or.inr rfl)
    (hlt : ∀ b, i < (ρ' b).length := by intro _; exact of_decide_eq_true rfl) (hal : ∀ b, noAli i (ρ' b) = true := by intro _; rfl) (hres : ∀ b, resOk (sl b) = true := by intro _; rfl)
    (hs : swapsWith e (some (.Name x pos')) pos.line X.env = pure false := by rfl) (hf : X.fn x = true ∨ X.env.scope.names.lookup x = some .local := by first | exact .inl rfl | exact .inr rfl) : J1 X B ρ (.Assign [.Name x pos'] e pos) m (fun b => (ρ' b).set i (sl b)) :=
  PS_imp (ps_set (i := i) hN hi hx h (hs := hs) (hf := hf)) fun D σ H ⟨G, E, q⟩ => ⟨G, E, R.post_mono q fun b q1 v G' H' x E' => q1 (σ.set i (some v)) G' H' x (E'.set (hlt b) (fun j p z => by
    have := hres b
    rw [z] at this
    cases this) (hal b))⟩
end
end DL
namespace DL
open PySem PySem.Spec L2
section
variable {K : PySem.W.Frag} {B : Base} {G G' H H' : Hp} {σ : L2.St} {ρ : List Slot} {ex : List (V × Slot)}
theorem own_dats : ∀ {vs : List V} {ds : List D}, RpAll K G vs ds → OwnAll K G H vs (ds.map OT.dat) []
  | _, _, .nil => .nil
  | _, _, .cons h r => .cons (A := []) (A' := []) (.dat h) (own_dats r)
theorem own_dats_inv : ∀ {vs : List V} {ds : List D} {A : List Addr}, OwnAll K G H vs (ds.map OT.dat) A → A = [] ∧ RpAll K G vs ds
  | _, [], _, h => by
    cases h
    exact ⟨rfl, .nil⟩
  | _, d :: ds, _, h => by
    cases h with
    | cons h r =>
      cases h with
      | dat h =>
        obtain ⟨e, r⟩ := own_dats_inv r
        exact ⟨by rw [e]; rfl, .cons h r⟩
theorem En.ownD (E : En K B G H σ ρ ex) {i l : Nat} {ds : List D} (h : ρ[i]? = some (.own l (.lst (ds.map OT.dat)))) (hal : noAlis ρ = true) : ∃ p vs, σ[i]? = some (some (.ref p)) ∧ H p = some (.lst vs) ∧ RpAll K G vs ds ∧
    ∀ G' H1 ex' vs' ds', En K B G' H1 σ ρ ex' → Ex G G' → H1 p = some (.lst vs) → RpAll K G' vs' ds' → En K B G' (upd H1 p (.lst vs')) σ (ρ.set i (.own l (.lst (ds'.map OT.dat)))) ex' := by
  obtain ⟨A, c, n, f⟩ := E.own
  have gen : ∀ {G H : Hp} {ex : List (V × Slot)} {A : List Addr}, Cells K B G H (ex.map (fun p => some p.1) ++ σ) (ex.map (·.2) ++ ρ) A → ∃ p vs A1 A2, σ[i]? = some (some (.ref p)) ∧ H p = some (.lst vs) ∧ RpAll K G vs ds ∧ A1 = [p] ∧ ((p ∈ B.Mo l ∨ B.H0 p = none) ∧ (l = 0 ∨ B.pv l = some (.ref p))) ∧
      Cells K B G H (ex.map (fun p => some p.1) ++ σ) ((ex.map (·.2) ++ ρ).set (ex.length + i) .non) A2 ∧ A.Perm (A1 ++ A2) := fun {G H ex A} c => by
    obtain ⟨v, A1, A2, e1, hO, ⟨hl, hv⟩, c2, p⟩ := c.take1 (i := ex.length + i) (l := l) (o := .lst (ds.map OT.dat)) (by
      rw [List.getElem?_append_right (by simp), List.length_map]
      simpa using h)
    rw [List.getElem?_append_right (by simp), List.length_map] at e1
    cases hO with
    | @lst a vs _ A3 ha hall =>
      obtain ⟨e3, r⟩ := own_dats_inv hall
      subst e3
      exact ⟨a, vs, [a], A2, by simpa using e1, ha, r, rfl, ⟨hl a (by simp), hv⟩, c2, p⟩
  obtain ⟨p, vs, A1, A2, e1, e2, e3, e4, e5, c2, pm⟩ := gen c
  refine ⟨p, vs, e1, e2, e3, fun G' H1 ex' vs' ds' E' hG hp r' => ?_⟩
  obtain ⟨A', c', n', f'⟩ := E'.own
  obtain ⟨q, ws, B1, B2, g1, g2, g3, g4, g5, d2, pm'⟩ := gen c'
  have epq : q = p := by
    have z := g1.symm.trans e1
    injection z with z
    injection z with z
    injection z
  subst epq
  subst g4
  have nq := pm'.nodup_iff.mp n'
  have nq2 : q ∉ B2 := (List.nodup_cons.mp nq).1
  have fq : G' q = none := f' q (pm'.mem_iff.mpr (by simp))
  have d3 : Cells K B G' (upd H1 q (.lst vs')) (ex'.map (fun p => some p.1) ++ σ) ((ex'.map (·.2) ++ ρ).set (ex'.length + i) .non) B2 := d2.ex (Ex.refl _) fun a m u e => by
    rw [upd_ne (fun z => nq2 (by rw [← z]; exact m))]
    exact e
  have hi : i < ρ.length := (List.getElem?_eq_some_iff.mp h).1
  obtain ⟨A3, c3, p3⟩ := d3.put1 (i := ex'.length + i) (l := l) (o := .lst (ds'.map OT.dat)) (v := .ref q) (A1 := [q]) (by
      rw [List.getElem?_set_self (by simp; omega)]) (by
      rw [List.getElem?_append_right (by simp), List.length_map]
      simpa using g1) (.lst upd_same (own_dats r')) ⟨fun a m => by
      rw [List.mem_singleton.mp m]
      exact g5.1, g5.2⟩
  rw [List.set_set, List.set_append_right _ _ (by simp), List.length_map, Nat.add_sub_cancel_left] at c3
  refine ⟨E'.anc.put fq (g5.1.imp (fun z => ⟨l, z⟩) id) _, ⟨A3, c3, p3.nodup_iff.mpr nq, fun a m => ?_⟩, by rw [List.length_set]; exact E'.len, fun k j pa e => ?_⟩
  · exact f' a (pm'.mem_iff.mpr (p3.mem_iff.mp m))
  · have hk : i ≠ k := fun z => by
      subst z
      rw [List.getElem?_set_self hi] at e
      cases e
    rw [List.getElem?_set_ne hk] at e
    exact absurd e (noAlis_get hal)
end
def tJG (K : PySem.W.Frag) (B : Base) (ρ : List Slot) (d : D) {γ : Type} (m : R γ) (ρ' : γ → List Slot) : TG := fun v σ H Q =>
  ∃ G, En K B G H σ ρ [] ∧ Rp K G v d ∧ m.post (fun c => ∀ σ' G' H', Ex G G' → En K B G' H' σ' (ρ' c) [] → Q σ' H') B.rs
def JG (X : Cx) (B : Base) (ρ : List Slot) (tg : Expr) (d : D) {γ : Type} (m : R γ) (ρ' : γ → List Slot) : Prop := PG X tg (tJG X.K B ρ d m ρ')
def tJGs (K : PySem.W.Frag) (B : Base) (ρ : List Slot) (ds : List D) {γ : Type} (m : R γ) (ρ' : γ → List Slot) : TGs := fun vs σ H Q =>
  ∃ G, En K B G H σ ρ [] ∧ RpAll K G vs ds ∧ m.post (fun c => ∀ σ' G' H', Ex G G' → En K B G' H' σ' (ρ' c) [] → Q σ' H') B.rs
def JGs (X : Cx) (B : Base) (ρ : List Slot) (ts : List Expr) (ds : List D) {γ : Type} (m : R γ) (ρ' : γ → List Slot) : Prop := PGs X ts (tJGs X.K B ρ ds m ρ')
section
variable {X : Cx} {B : Base} {ρ : List Slot} {pos : Pos} {e a b : Expr}
theorem PG_imp {e : Expr} {t t' : TG} (h : PG X e t) (k : ∀ v σ H Q, t' v σ H Q → t v σ H Q) : PG X e t' := ⟨fun pins s σ H v u Q I r q => h.run pins s σ H v u Q I r (k v σ H Q q)⟩
theorem PGs_imp {e : List Expr} {t t' : TGs} (h : PGs X e t) (k : ∀ v σ H Q, t' v σ H Q → t v σ H Q) : PGs X e t' := ⟨fun pins s σ H v u Q I r q => h.run pins s σ H v u Q I r (k v σ H Q q)⟩
theorem jg_name (i : Nat) {x : Str} {d : D} (hN : X.N.Nodup) (hi : X.N[i]? = some x := by rfl) (hx : Loc X.env.scope x := by first | exact Or.inl rfl | exact Or.inr rfl) (hf : X.fn x = true ∨ X.env.scope.names.lookup x = some .local := by first | exact .inl rfl | exact .inr rfl)
    (hlt : i < ρ.length := by exact of_decide_eq_true rfl) (hal : noAli i ρ = true := by rfl) : JG X B ρ (.Name x pos) d (.ok ()) (fun _ => ρ.set i (.val d)) :=
  PG_imp (pg_name (i := i) hN hi hx hf) fun v σ H Q ⟨G, E, r, q⟩ => q (σ.set i (some v)) G H (Ex.refl G) ((E.push r).set hlt (fun _ _ z => nomatch z) hal)
theorem jgs_nil : JGs X B ρ [] [] (.ok ()) (fun _ => ρ) := PGs_imp pgs_nil fun vs σ H Q ⟨G, E, r, q⟩ => by
  cases r
  exact ⟨rfl, q σ G H (Ex.refl G) E⟩
theorem jgs_cons {es : List Expr} {d : D} {ds : List D} {γ δ : Type} {m : R γ} {ρ1 : γ → List Slot} {m2 : γ → R δ} {ρ2 : γ → δ → List Slot} (h : JG X B ρ e d m ρ1) (t : ∀ c, JGs X B (ρ1 c) es ds (m2 c) (ρ2 c))
    (hs : (assignEach (e :: es) X.env).map (·.2) = assign e X.env :: (assignEach es X.env).map (·.2) := by rfl) : JGs X B ρ (e :: es) (d :: ds) (m.bind fun c => (m2 c).bind fun c2 => .ok (c, c2)) (fun p => ρ2 p.1 p.2) := by
  have t' : PGs X es (fun vs σ H Q => ∃ c, tJGs X.K B (ρ1 c) ds (m2 c) (ρ2 c) vs σ H Q) := ⟨fun pins s σ H vs us Q I r ⟨c, q⟩ => (t c).run pins s σ H vs us Q I r q⟩
  refine PGs_imp (pgs_cons h t' hs) fun vs σ H Q ⟨G, E, r, q⟩ => ?_
  cases r with
  | cons r rr => exact ⟨_, _, rfl, G, E, r, R.post_mono (R.post_bind.mp q) fun c q1 σ' G' H' x E' => ⟨c, G', E', rr.ex x, R.post_mono (R.post_bind.mp q1) fun c2 q2 σ2 G2 H2 x2 E2 => q2 σ2 G2 H2 (x.trans x2) E2⟩⟩
theorem jgs_p {es : List Expr} {d : D} {ds : List D} {δ : Type} {ρ1 : List Slot} {m2 : R δ} {ρ2 : δ → List Slot} (h : JG X B ρ e d (.ok ()) (fun _ => ρ1)) (t : JGs X B ρ1 es ds m2 ρ2)
    (hs : (assignEach (e :: es) X.env).map (·.2) = assign e X.env :: (assignEach es X.env).map (·.2) := by rfl) : JGs X B ρ (e :: es) (d :: ds) m2 ρ2 := by
  refine PGs_imp (pgs_cons h t hs) fun vs σ H Q ⟨G, E, r, q⟩ => ?_
  cases r with
  | cons r rr => exact ⟨_, _, rfl, G, E, r, fun σ' G' H' x E' => ⟨G', E', rr.ex x, R.post_mono q fun c2 q2 σ2 G2 H2 x2 E2 => q2 σ2 G2 H2 (x.trans x2) E2⟩⟩
theorem jg_tup {es : List Expr} {k : Nat} {ds : List D} {γ : Type} {m : R γ} {ρ' : γ → List Slot} (hc : X.calm = true) (h : JGs X B ρ es ds m ρ') (hn : (assignEach es X.env).length = ds.length := by rfl) (hst : (assignEach es X.env).findIdx? (·.1) = none := by rfl) : JG X B ρ (.Tuple es k pos) (.tuple ds) m ρ' :=
  PG_imp (pg_tup (n := ds.length) hc h hn hst) fun v σ H Q ⟨G, E, r, q⟩ => by
    obtain ⟨a, xs, rfl, hS, hr⟩ := r.tup_inv
    exact ⟨a, xs, rfl, E.sub.t hS, hr.len, G, E, hr, q⟩
theorem j1_asg {tg : Expr} {β γ : Type} {m : R β} {d : β → D} {ρ' : β → List Slot} {m2 : β → R γ} {ρ2 : β → γ → List Slot} (h : JE X B ρ e m (fun b => .val (d b)) ρ') (g : ∀ b, JG X B (ρ' b) tg (d b) (m2 b) (ρ2 b))
    (hs : swapsWithSole [tg] e pos.line X.env = pure false := by rfl) (hw : swappedStores [tg] e X.env = pure none := by rfl) (h1 : (assignEach [tg] X.env).map (·.2) = [assign tg X.env] := by rfl) : J1 X B ρ (.Assign [tg] e pos) (m.bind fun b => (m2 b).bind fun c => .ok (b, c)) (fun p => ρ2 p.1 p.2) := by
  have g' : PG X tg (fun v σ H Q => ∃ b, tJG X.K B (ρ' b) (d b) (m2 b) (ρ2 b) v σ H Q) := ⟨fun pins s σ H v u Q I r ⟨b, q⟩ => (g b).run pins s σ H v u Q I r q⟩
  exact PS_imp (ps_asg h g' hs hw h1) fun D σ H ⟨G, E, q⟩ => ⟨G, E, R.post_mono (R.post_bind.mp q) fun b q1 v G' H' x E' => ⟨b, G', E'.pop, E'.top, R.post_mono (R.post_bind.mp q1) fun c q2 σ2 G2 H2 x2 E2 => q2 σ2 G2 H2 (x.trans x2) E2⟩⟩
theorem j1_asgN {tg : Expr} {β : Type} {m : R β} {d : β → D} {ρ' : β → List Slot} {ρ2 : β → List Slot} (h : JE X B ρ e m (fun b => .val (d b)) ρ') (g : ∀ b, JG X B (ρ' b) tg (d b) (.ok ()) (fun _ => ρ2 b))
    (hs : swapsWithSole [tg] e pos.line X.env = pure false := by rfl) (hw : swappedStores [tg] e X.env = pure none := by rfl) (h1 : (assignEach [tg] X.env).map (·.2) = [assign tg X.env] := by rfl) : J1 X B ρ (.Assign [tg] e pos) m ρ2 := by
  have g' : PG X tg (fun v σ H Q => ∃ b, tJG X.K B (ρ' b) (d b) (.ok ()) (fun _ => ρ2 b) v σ H Q) := ⟨fun pins s σ H v u Q I r ⟨b, q⟩ => (g b).run pins s σ H v u Q I r q⟩
  exact PS_imp (ps_asg h g' hs hw h1) fun D σ H ⟨G, E, q⟩ => ⟨G, E, R.post_mono q fun b q1 v G' H' x E' => ⟨b, G', E'.pop, E'.top, fun σ2 G2 H2 x2 E2 => q1 σ2 G2 H2 (x.trans x2) E2⟩⟩
theorem j1_par (i j : Nat) {x y : Str} {px py pt : Pos} {kt k2 : Nat} {pt2 : Pos} {β : Type} {m : R β} {as : β → List Ar} {ρ' : β → List Slot} {d1 d2 : β → D} (hc : X.calm = true) (hN : X.N.Nodup) (ha : JA X B ρ [a, b] m as ρ') (hd : ∀ c, as c = [.val (d1 c), .val (d2 c)] := by intro _; rfl)
    (hi : X.N[i]? = some x := by rfl) (hj : X.N[j]? = some y := by rfl) (hij : i ≠ j := by decide)
    (hx : X.env.scope.names.lookup x = some .local := by rfl) (hy : X.env.scope.names.lookup y = some .local := by rfl) (hw : swappedStores [.Tuple [.Name x px, .Name y py] kt pt] (.Tuple [a, b] k2 pt2) X.env = pure (some [x, y]) := by rfl)
    (hs : swapsWithSole [.Tuple [.Name x px, .Name y py] kt pt] (.Tuple [a, b] k2 pt2) pos.line X.env = pure false := by rfl) (hli : ∀ c, i < (ρ' c).length := by intro _; exact of_decide_eq_true rfl) (hlj : ∀ c, j < (ρ' c).length := by intro _; exact of_decide_eq_true rfl)
    (hai : ∀ c, noAli i (ρ' c) = true := by intro _; rfl) (haj : ∀ c, noAli j ((ρ' c).set i (.val (d1 c))) = true := by intro _; rfl) :
    J1 X B ρ (.Assign [.Tuple [.Name x px, .Name y py] kt pt] (.Tuple [a, b] k2 pt2) pos) m (fun c => ((ρ' c).set i (.val (d1 c))).set j (.val (d2 c))) :=
  PS_imp (ps_par hc hN hi hj hij hx hy ha hw hs) fun D σ H ⟨G, E, q⟩ => ⟨G, E, R.post_mono q fun c q1 vs G' H' z E' ok => by
    rw [hd c] at ok
    cases ok with
    | val r1 ok =>
      cases ok with
      | val r2 ok =>
        cases ok
        refine ⟨_, _, rfl, q1 _ G' H' z ?_⟩
        have E1 := (E'.push r1).set (hli c) (fun _ _ z => nomatch z) (hai c)
        exact (E1.push r2).set (by rw [List.length_set]; exact hlj c) (fun _ _ z => nomatch z) (haj c)⟩
theorem jg_sub (i : Nat) {x : Str} {px : Pos} {l : Nat} {α : Type} {en : α → D} {xs : List α} {y : α} {k : Int} {o2 : Expr} (h : ρ[i]? = some (.own l (.lst ((xs.map en).map OT.dat))) := by rfl) (hk : JP X B ρ o2 (.int k)) (hal : noAlis ρ = true := by rfl) (hN : X.N[i]? = some x := by rfl)
    (hv : Vis X.env.scope x := by first | exact Or.inl rfl | exact Or.inr (Or.inl rfl) | exact Or.inr (Or.inr rfl)) (hd : (x == ("__debug__" : Str)) = false := by decide) (hcd : (x == ("__classdict__" : Str)) = false := by decide)
    (ha : ∀ v, assign (.Subscript (.Name x px) o2 pos) X.env v = (do
      let ov ← holding [v] (eval (.Name x px) X.env)
      let iv ← holding [v, ov] (eval o2 X.env)
      standAt pos
      holding [v, ov, iv] (setItem ov iv v)
      release [v, ov, iv] []) := by intro _; rfl) :
    JG X B ρ (.Subscript (.Name x px) o2 pos) (en y) (R.some (ixN xs.length k)) (fun j => ρ.set i (.own l (.lst (((xs.set j y).map en).map OT.dat)))) :=
  PG_imp (pg_sub (pv i hN hv hd hcd) hk set_list ha) fun v σ H Q ⟨G, E, r, q⟩ => by
    obtain ⟨p, vs, e1, e2, e3, e4⟩ := E.ownD h hal
    obtain ⟨j, hj, q⟩ := R.post_some q
    refine ⟨.ref p, e1, G, E, fun w G1 H1 x1 E1 => ?_⟩
    have hn := E1.top.int_inv
    obtain ⟨p', vs', g1, g2, g3, g4⟩ := E1.pop.ownD h hal
    have ep : p' = p := by
      have z := g1.symm.trans e1
      injection z with z
      injection z with z
      injection z
    subst ep
    have hl : vs'.length = xs.length := by
      rw [g3.len, List.length_map]
    refine ⟨p', vs', k, j, rfl, hn, g2, by rw [hl]; exact hj, q σ G1 _ x1 ?_⟩
    have rs : ∀ {vs : List V} {ds : List D} (j : Nat), RpAll X.K G1 vs ds → RpAll X.K G1 (vs.set j v) (ds.set j (en y)) := by
      intro vs ds j h
      induction ds generalizing vs j with
      | nil =>
        cases h
        exact .nil
      | cons d ds ih =>
        cases h with
        | cons h1 h2 =>
          cases j with
          | zero => exact .cons (r.ex x1) h2
          | succ j => exact .cons h1 (ih j h2)
    have := g4 G1 H1 [] (vs'.set j v) ((xs.map en).set j (en y)) E1.pop (Ex.refl _) g2 (rs j g3)
    rw [← List.map_set] at this
    exact this
end
def forR {α S L T : Type} (f : α → S → R (Fl S S T)) : List α → S → R (Fl S L T)
  | [], s => .ok (.nx s)
  | x :: xs, s => (f x s).bind fun
    | .nx s' => forR f xs s'
    | .ct s' => forR f xs s'
    | .bk s' => .ok (.nx s')
    | .rt t => .ok (.rt t)
structure Yld (K : PySem.W.Frag) (J : It) (G : Hp) (ds : List D) : Prop where
  go : ∀ i H, i < ds.length → Ex G H → J.go i H
  stop : ∀ i H, ds.length ≤ i → Ex G H → J.stop i H
  yld : ∀ (B : Base) i G1 H1 σ ρ x H', Ex G G1 → En K B G1 H1 σ ρ [] → J.yld i H1 x H' → ∀ d, ds[i]? = some d → ∃ G2, Ex G1 G2 ∧ En K B G2 H' σ ρ [] ∧ Rp K G2 x d
def tJI (K : PySem.W.Frag) (B : Base) (ρ : List Slot) {β : Type} (m : R β) (ds : β → List D) (ρ' : β → List Slot) : TI := fun σ H Q =>
  ∃ G, En K B G H σ ρ [] ∧ m.post (fun b => ∀ J G' H', Ex G G' → En K B G' H' σ (ρ' b) [] → Yld K J G' (ds b) → Q J H') B.rs
def JI (X : Cx) (B : Base) (ρ : List Slot) (tg it : Expr) {β : Type} (m : R β) (ds : β → List D) (ρ' : β → List Slot) : Prop := PI X tg it (tJI X.K B ρ m ds ρ')
section
variable {X : Cx} {B : Base} {ρ : List Slot} {pos : Pos} {e a b tg it : Expr}
theorem PI_imp {t t' : TI} (h : PI X tg it t) (k : ∀ σ H Q, t' σ H Q → t σ H Q) : PI X tg it t' := ⟨fun pins s σ H Q I q => h.run pins s σ H Q I (k σ H Q q)⟩
theorem js_for {α β S L T : Type} {m : R β} {xs : β → List α} {en : α → D} {ρ' : β → List Slot} {s0 : β → S} (ρS : S → List Slot) (ρB : α → S → List Slot) {f : α → S → R (Fl S S T)} {F : Fin S L T} {body : List Stmt} (hp : PassesOwn (model X.prog X.w) X.A X.env X.xe) (hc : X.calm = true)
    (hi : JI X B ρ tg it m (fun b => (xs b).map en) ρ') (bs : List Bool) (hw : ∀ b, forgot (ρ' b) bs = ρS (s0 b)) (hg : ∀ x s, JG X B (ρS s) tg (en x) (.ok ()) (fun _ => ρB x s))
    (hb : ∀ x s, JSs X B (ρB x s) body (f x s) ⟨ρS, ρS, ρS, F.s, F.t⟩) (hn : F.n = ρS := by rfl) (hs : ∀ v, foldedSetIterable it X.env v = pure v := by intro _; rfl) : JS X B ρ (.For tg it body [] pos) (m.bind fun b => forR f (xs b) (s0 b)) F := by
  have hg' : PG X tg (fun v σ H Q => ∃ x s, tJG X.K B (ρS s) (en x) (.ok ()) (fun _ => ρB x s) v σ H Q) := ⟨fun pins s σ H v u Q I r ⟨x, s', q⟩ => (hg x s').run pins s σ H v u Q I r q⟩
  have hb' : PSs X body (fun D σ H => ∃ x s, tJS X.K B (ρB x s) (f x s) ⟨ρS, ρS, ρS, F.s, F.t⟩ D σ H) := ⟨fun pins s σ H D I ⟨x, s', q⟩ => (hb x s').run pins s σ H D I q⟩
  refine PS_imp (ps_for hp hc hi hg' hb' hs) fun D σ H ⟨G, E, q⟩ => ⟨G, E, R.post_mono (R.post_bind.mp q) fun b q1 J G' H' xG E' Y => ?_⟩
  have hlen : ((xs b).map en).length = (xs b).length := List.length_map _
  let W : Nat → L2.St → Hp → Prop := fun i σ' H1 => ∃ G1 s, Ex G' G1 ∧ En X.K B G1 H1 σ' (ρS s) [] ∧ (forR f ((xs b).drop i) s).post (flP X.K B G1 D F) B.rs
  refine ⟨fun i mm σ' H1 => mm = (xs b).length - i ∧ i ≤ (xs b).length ∧ W i σ' H1, ⟨_, rfl, Nat.zero_le _, G', s0 b, Ex.refl _, by rw [← hw b]; exact E'.forgot bs, R.post_mono q1 fun fl h => flP_ex h xG⟩, ?_⟩
  rintro i mm σ1 H1 ⟨rfl, hi1, G1, s, x1, E1, q2⟩
  have nxt : ∀ G2 s', Ex G' G2 → i < (xs b).length → (forR f ((xs b).drop (i + 1)) s').post (flP X.K B G2 D F) B.rs → ∀ σ' G3 H', Ex G2 G3 → En X.K B G3 H' σ' (ρS s') [] → W (i + 1) σ' H' := fun G2 s' y hlt h σ' G3 H' z E3 => ⟨G3, s', y.trans z, E3, R.post_mono h fun fl h => flP_ex h z⟩
  by_cases hlt : i < (xs b).length
  · refine .inr ⟨Y.go i H1 (by rw [hlen]; exact hlt) (x1.trans E1.sub), fun σ' H' => W (i + 1) σ' H', fun σ' H' w => ⟨_, ?_, rfl, hlt, w⟩, fun v H2 hy => ?_⟩
    · omega
    · have hd : ((xs b).map en)[i]? = some (en (xs b)[i]) := by rw [List.getElem?_map, List.getElem?_eq_getElem hlt]; rfl
      obtain ⟨G2, x2, E2, r2⟩ := Y.yld B i G1 H1 σ1 (ρS s) v H2 x1 E1 hy _ hd
      rw [List.drop_eq_getElem_cons hlt] at q2
      refine ⟨(xs b)[i], s, G2, E2, r2, fun σ' G3 H3 x3 E3 => ⟨(xs b)[i], s, G3, E3, R.post_mono (R.post_bind.mp q2) fun fl q3 => ?_⟩⟩
      have x13 := x2.trans x3
      have up : ∀ {m' : R (Fl S L T)}, m'.post (flP X.K B G1 D F) B.rs → m'.post (flP X.K B G3 D F) B.rs := fun h => R.post_mono h fun fl h => flP_ex h x13
      cases fl with
      | nx s' => exact nxt G3 s' (x1.trans x13) hlt (up q3)
      | ct s' => exact nxt G3 s' (x1.trans x13) hlt (up q3)
      | bk s' =>
        intro σ4 G4 H4 x4 E4
        have q3 : flP X.K B G1 D F (.nx s') := q3
        refine q3 σ4 G4 H4 (x13.trans x4) ?_
        rw [hn]
        exact E4
      | rt t =>
        intro v σ4 G4 H4 x4 E4
        have q3 : flP X.K B G1 D F (.rt t) := q3
        exact q3 v σ4 G4 H4 (x13.trans x4) E4
  · refine .inl ⟨Y.stop i H1 (by rw [hlen]; omega) (x1.trans E1.sub), ?_⟩
    rw [List.drop_eq_nil_of_le (by omega)] at q2
    have q2 : flP X.K B G1 D F (.nx s) := q2
    refine q2 σ1 G1 H1 (Ex.refl _) ?_
    rw [hn]
    exact E1
theorem yld_tup {K : PySem.W.Frag} {G : Hp} {a : Addr} {xs : List V} {ds : List D} (h : SqT K G a xs) (hr : RpAll K G xs ds) : Yld K (Itt K a) G ds where
  go := fun i H hi e => ⟨xs, xs[i]'(by rw [hr.len]; exact hi), e.t h, List.getElem?_eq_getElem _⟩
  stop := fun i H hi e => ⟨xs, e.t h, by rw [hr.len]; exact hi⟩
  yld := fun B i G1 H1 σ ρ x H' e E hy d hd => by
    obtain ⟨rfl, f⟩ := hy
    have := f xs ((e.trans E.sub).t h)
    obtain ⟨v, h1, h2⟩ := hr.get hd
    rw [this] at h1
    cases h1
    exact ⟨G1, Ex.refl _, E, h2.ex e⟩
theorem ji_list {β : Type} {m : R β} {ds : β → List D} {ρ' : β → List Slot} (h : JE X B ρ it m (fun b => .val (.list (ds b))) ρ') : JI X B ρ tg it m ds ρ' :=
  PI_imp (pi_list h) fun σ H Q ⟨G, E, q⟩ => ⟨G, E, R.post_mono q fun b q1 v G' H' x E' => by
    obtain ⟨a, xs, rfl, hS, hr⟩ := E'.top.lst_inv
    have hS' : SqL X.K G' a xs := .inl hS
    refine ⟨a, rfl, ⟨xs, E'.sub.l hS'⟩, q1 _ G' H' x E'.pop ⟨fun i H hi e => ⟨xs, xs[i]'(by rw [hr.len]; exact hi), e.l hS', List.getElem?_eq_getElem _⟩, fun i H hi e => ⟨xs, e.l hS', by rw [hr.len]; exact hi⟩, fun B i G1 H1 σ ρ x H' e E hy d hd => ?_⟩⟩
    obtain ⟨rfl, f⟩ := hy
    have := f xs ((e.trans E.sub).l hS')
    obtain ⟨v, h1, h2⟩ := hr.get hd
    rw [this] at h1
    cases h1
    exact ⟨G1, Ex.refl _, E, h2.ex e⟩⟩
theorem ji_tup {β : Type} {m : R β} {ds : β → List D} {ρ' : β → List Slot} (h : JE X B ρ it m (fun b => .val (.tuple (ds b))) ρ') : JI X B ρ tg it m ds ρ' :=
  PI_imp (pi_tup h) fun σ H Q ⟨G, E, q⟩ => ⟨G, E, R.post_mono q fun b q1 v G' H' x E' => by
    obtain ⟨a, xs, rfl, hS, hr⟩ := E'.top.tup_inv
    exact ⟨a, rfl, ⟨xs, E'.sub.t hS⟩, q1 _ G' H' x E'.pop (yld_tup hS hr)⟩⟩
def rng (lo hi : Int) : List Int := (List.range (hi - lo).toNat).map fun (k : Nat) => lo + (k : Int)
theorem yld_rng {K : PySem.W.Frag} {G : Hp} {lo : Int} {n : Nat} : Yld K (Itr lo n) G (((List.range n).map fun (k : Nat) => lo + (k : Int)).map D.int) where
  go := fun i H hi e => by
    have : i < n := by simpa using hi
    exact this
  stop := fun i H hi e => by
    have : n ≤ i := by simpa using hi
    exact this
  yld := fun B i G1 H1 σ ρ x H' e E hy d hd => by
    obtain ⟨rfl, rfl⟩ := hy
    have hi : i < n := by
      have := (List.getElem?_eq_some_iff.mp hd).1
      simpa using this
    rw [List.map_map, List.getElem?_map, List.getElem?_range hi] at hd
    cases hd
    exact ⟨G1, Ex.refl _, E, .int _⟩
def rngOk (i : Int) : Prop := -(2 ^ 62) ≤ i ∧ i < 2 ^ 62
instance {i : Int} : Decidable (rngOk i) := by unfold rngOk; infer_instance
theorem ji_rng1 {p : Pos} {β : Type} {m : R β} {as : β → List Ar} (i : β → Int) {ρ' : β → List Slot} (hm : X.mg "range" = none) (h : JA X B ρ [a] m as ρ') (ha : ∀ b, as b = [.val (.int (i b))] := by intro _; rfl) (hg : Gl X "range" := by rfl) (hs : starEach [a] X.env = [(false, eval a X.env)] := by rfl) :
    JI X B ρ tg (.Call (.Name "range" p) [a] [] pos) (m.bind fun b => (R.guard (rngOk (i b))).bind fun _ => .ok b) (fun b => (rng 0 (i b)).map D.int) ρ' :=
  PI_imp (pi_range1 hg hm h hs) fun σ H Q ⟨G, E, q⟩ => ⟨G, E, R.post_mono (R.post_bind.mp q) fun b q1 vs G' H' x E' ok => by
    obtain ⟨hc, q2⟩ := R.post_guard (R.post_bind.mp q1)
    rw [ha b] at ok
    cases ok with
    | val r ok =>
      cases ok
      refine ⟨i b, by rw [r.int_inv], hc.1, hc.2, q2 _ G' H' x E' ?_⟩
      show Yld X.K _ G' ((rng 0 (i b)).map D.int)
      unfold rng
      rw [Int.sub_zero]
      exact yld_rng⟩
theorem ji_rng2 {p : Pos} {β : Type} {m : R β} {as : β → List Ar} (i j : β → Int) {ρ' : β → List Slot} (hm : X.mg "range" = none) (h : JA X B ρ [a, b] m as ρ') (ha : ∀ b, as b = [.val (.int (i b)), .val (.int (j b))] := by intro _; rfl) (hg : Gl X "range" := by rfl)
    (hs : starEach [a, b] X.env = [(false, eval a X.env), (false, eval b X.env)] := by rfl) (hs2 : starEach [b] X.env = [(false, eval b X.env)] := by rfl) :
    JI X B ρ tg (.Call (.Name "range" p) [a, b] [] pos) (m.bind fun b => (R.guard (rngOk (i b) ∧ rngOk (j b))).bind fun _ => .ok b) (fun b => (rng (i b) (j b)).map D.int) ρ' :=
  PI_imp (pi_range2 hg hm h hs hs2) fun σ H Q ⟨G, E, q⟩ => ⟨G, E, R.post_mono (R.post_bind.mp q) fun b q1 vs G' H' x E' ok => by
    obtain ⟨hc, q2⟩ := R.post_guard (R.post_bind.mp q1)
    rw [ha b] at ok
    cases ok with
    | val r ok =>
      cases ok with
      | val r2 ok =>
        cases ok
        exact ⟨i b, j b, by rw [r.int_inv, r2.int_inv], ⟨hc.1.1, hc.1.2, hc.2.1, hc.2.2⟩, q2 _ G' H' x E' yld_rng⟩⟩
def whN {S L T : Type} (c : S → R Bool) (f : S → R (Fl S S T)) : Nat → S → R (Fl S L T)
  | 0, _ => .bad
  | n + 1, s => (c s).bind fun b => if b = true then (f s).bind fun
      | .nx s' => whN c f n s'
      | .ct s' => whN c f n s'
      | .bk s' => .ok (.nx s')
      | .rt t => .ok (.rt t)
    else .ok (.nx s)
open Classical in
noncomputable def whR {S L T : Type} (c : S → R Bool) (f : S → R (Fl S S T)) (s : S) : R (Fl S L T) :=
  if h : ∃ n, whN (L := L) c f n s ≠ .bad then whN c f h.choose s else .bad
theorem whN_mono {S L T : Type} {c : S → R Bool} {f : S → R (Fl S S T)} : ∀ {n : Nat} {s : S}, whN (L := L) c f n s ≠ .bad → ∀ m, n ≤ m → whN (L := L) c f m s = whN c f n s
  | 0, s, h, _, _ => absurd rfl h
  | n + 1, s, h, 0, hm => absurd hm (Nat.not_succ_le_zero _)
  | n + 1, s, h, m + 1, hm => by
    have hm' : n ≤ m := Nat.le_of_succ_le_succ hm
    rw [whN] at h ⊢
    rw [whN]
    cases hc : c s with
    | bad => rfl
    | err e => rfl
    | ok b =>
      rw [hc] at h
      cases b with
      | false => rfl
      | true =>
        simp only [R.bind, if_true] at h ⊢
        cases hf : f s with
        | bad => rfl
        | err e => rfl
        | ok fl =>
          rw [hf] at h
          cases fl with
          | nx s' => exact whN_mono h m hm'
          | ct s' => exact whN_mono h m hm'
          | bk s' => rfl
          | rt t => rfl
theorem whR_of {S L T : Type} {c : S → R Bool} {f : S → R (Fl S S T)} {n : Nat} {s : S} (h : whN (L := L) c f n s ≠ .bad) : whR (L := L) c f s = whN c f n s := by
  have hx : ∃ n, whN (L := L) c f n s ≠ .bad := ⟨n, h⟩
  unfold whR
  rw [dif_pos hx]
  rcases Nat.le_total n hx.choose with l | l
  · exact whN_mono h _ l
  · exact (whN_mono hx.choose_spec _ l).symm
theorem js_while {S L T : Type} (ρS : S → List Slot) {c : S → R Bool} {f : S → R (Fl S S T)} {F : Fin S L T} {body : List Stmt} (hp : PassesOwn (model X.prog X.w) X.A X.env X.xe) (s0 : S) (bs : List Bool) (hw : forgot ρ bs = ρS s0)
    (hc : ∀ s, JT X B (ρS s) e (c s) (fun b => b) (fun _ => ρS s)) (hb : ∀ s, JSs X B (ρS s) body (f s) ⟨ρS, ρS, ρS, F.s, F.t⟩) (hn : F.n = ρS := by rfl) : JS X B ρ (.While e body [] pos) (whR c f s0) F := by
  have hc' : PT X e (fun σ H Q => ∃ s, tJT X.K B (ρS s) (c s) (fun b => b) (fun _ => ρS s) σ H Q) := ⟨fun pins s σ H Q I ⟨x, q⟩ => (hc x).run pins s σ H Q I q⟩
  have hb' : PSs X body (fun D σ H => ∃ s, tJS X.K B (ρS s) (f s) ⟨ρS, ρS, ρS, F.s, F.t⟩ D σ H) := ⟨fun pins s σ H D I ⟨x, q⟩ => (hb x).run pins s σ H D I q⟩
  refine PS_imp (ps_while hp hc' hb') fun D σ H ⟨G, E, q⟩ => ?_
  have hne : ∃ n, (whN c f n s0 : R (Fl S L T)) ≠ .bad := by
    apply Classical.byContradiction
    intro z
    unfold whR at q
    rw [dif_neg z] at q
    exact q
  obtain ⟨n, hn0⟩ := hne
  rw [whR_of hn0] at q
  refine ⟨fun m σ' H' => ∃ G' s, Ex G G' ∧ En X.K B G' H' σ' (ρS s) [] ∧ (whN c f m s).post (flP X.K B G' D F) B.rs, ⟨n, G, s0, Ex.refl _, by rw [← hw]; exact E.forgot bs, q⟩, ?_⟩
  rintro m σ' H' ⟨G1, s, x1, E1, q1⟩
  cases m with
  | zero => exact q1.elim
  | succ m =>
    rw [whN] at q1
    refine ⟨s, G1, E1, R.post_mono (R.post_bind.mp q1) fun b q2 G2 H2 x2 E2 => ?_⟩
    cases b with
    | false =>
      have q2 : flP X.K B G1 D F (.nx s) := q2
      refine q2 σ' G2 H2 x2 ?_
      rw [hn]
      exact E2
    | true =>
      rw [if_pos rfl] at q2 ⊢
      refine ⟨fun σ3 H3 => ∃ G' s, Ex G G' ∧ En X.K B G' H3 σ3 (ρS s) [] ∧ (whN c f m s).post (flP X.K B G' D F) B.rs, fun σ3 H3 w => ⟨m, Nat.lt_succ_self m, w⟩, s, G2, E2, R.post_mono (R.post_bind.mp q2) fun fl q3 => ?_⟩
      have nxt : ∀ s', (whN c f m s').post (flP X.K B G1 D F) B.rs → ∀ σ' G3 H', Ex G2 G3 → En X.K B G3 H' σ' (ρS s') [] → ∃ G' s, Ex G G' ∧ En X.K B G' H' σ' (ρS s) [] ∧ (whN c f m s).post (flP X.K B G' D F) B.rs :=
        fun s' h σ' G3 H' z E3 => ⟨G3, s', x1.trans (x2.trans z), E3, R.post_mono h fun fl h => flP_ex h (x2.trans z)⟩
      cases fl with
      | nx s' => exact nxt s' q3
      | ct s' => exact nxt s' q3
      | bk s' =>
        intro σ4 G4 H4 x4 E4
        have q3 : flP X.K B G1 D F (.nx s') := q3
        refine q3 σ4 G4 H4 (x2.trans x4) ?_
        rw [hn]
        exact E4
      | rt t =>
        intro v σ4 G4 H4 x4 E4
        have q3 : flP X.K B G1 D F (.rt t) := q3
        exact q3 v σ4 G4 H4 (x2.trans x4) E4
end
end DL
namespace DL
open PySem PySem.Spec L2
def CbD (K : PySem.W.Frag) (B : Base) (ρ : List Slot) (r : List V → Hp → VK → Prop) (as : List Ar) {γ : Type} (mr : R γ) (s : γ → Slot) : Prop :=
  ∀ G H σ vs Q, En K B G H σ ρ [] → ArOk K G σ vs as → mr.post (fun z => ∀ v G' H', Ex G G' → En K B G' H' σ ρ [(v, s z)] → Q v H') B.rs → r vs H Q
section
variable {X : Cx} {B : Base} {ρ : List Slot} {e a b : Expr} {es : List Expr} {pos : Pos}
theorem je_cb {E0 : Expr} {r : List V → Hp → VK → Prop} (hp : ∀ t, PA X es t → PE X E0 (tCB r t)) {as : List Ar} {γ : Type} {mr : R γ} {s : γ → Slot} (ha : JA X B ρ es (.ok ()) (fun _ => as) (fun _ => ρ)) (hr : CbD X.K B ρ r as mr s) : JE X B ρ E0 mr s (fun _ => ρ) :=
  PE_imp (hp _ ha) fun σ H Q ⟨G, E, q⟩ => ⟨G, E, fun vs G1 H1 x1 E1 ok => hr G1 H1 σ vs Q E1 ok (R.post_mono q fun z k v G2 H2 x2 E2 => k v G2 H2 (x1.trans x2) E2)⟩
theorem je_cb2 {E0 : Expr} {r : List V → Hp → VK → Prop} (hp : ∀ t, PA X es t → PE X E0 (tCB r t)) {β γ : Type} {ma : R β} {as : β → List Ar} {ρa : β → List Slot} {mr : β → R γ} {s : β → γ → Slot} (ha : JA X B ρ es ma as ρa) (hr : ∀ x, CbD X.K B (ρa x) r (as x) (mr x) (s x)) :
    JE X B ρ E0 (ma.bind fun x => (mr x).bind fun z => .ok (x, z)) (fun p => s p.1 p.2) (fun p => ρa p.1) :=
  PE_imp (hp _ ha) fun σ H Q ⟨G, E, q⟩ => ⟨G, E, R.post_mono (R.post_bind.mp q) fun x q1 vs G1 H1 x1 E1 ok => hr x G1 H1 σ vs Q E1 ok (R.post_mono (R.post_bind.mp q1) fun z k v G2 H2 x2 E2 => k v G2 H2 (x1.trans x2) E2)⟩
theorem cb_val0 {r : List V → Hp → VK → Prop} {K : PySem.W.Frag} {as : List Ar} {z : D} {w : V} (h : ∀ G H σ vs Q, Ex G H → ArOk K G σ vs as → Q w H → r vs H Q) (hw : ∀ G, Rp K G w z) : CbD K B ρ r as (.ok ()) (fun _ => .val z) :=
  fun G H σ vs Q E ok q => h G H σ vs Q E.sub ok (q w G H (Ex.refl G) (E.push (hw G)))
theorem ArOk.one {K : PySem.W.Frag} {G : Hp} {σ : L2.St} {vs : List V} {d : D} (h : ArOk K G σ vs [.val d]) : ∃ v, vs = [v] ∧ Rp K G v d := by
  cases h with
  | val r h =>
    cases h
    exact ⟨_, rfl, r⟩
theorem ArOk.two {K : PySem.W.Frag} {G : Hp} {σ : L2.St} {vs : List V} {d d' : D} (h : ArOk K G σ vs [.val d, .val d']) : ∃ v w, vs = [v, w] ∧ Rp K G v d ∧ Rp K G w d' := by
  cases h with
  | val r h =>
    obtain ⟨w, rfl, r'⟩ := h.one
    exact ⟨_, _, rfl, r, r'⟩
section
variable {K : PySem.W.Frag}
theorem cb_abs {i : Int} : CbD K B ρ (fun xs H Q => ∃ i, xs = [.int i] ∧ Q (.int (if i < 0 then -i else i)) H) [.val (.int i)] (.ok ()) (fun _ => .val (.int (if i < 0 then -i else i))) :=
  cb_val0 (fun G H σ vs Q _ ok q => by
    obtain ⟨v, rfl, r⟩ := ok.one
    exact ⟨i, by rw [r.int_inv], q⟩) fun _ => .int _
theorem cb_max {i j : Int} : CbD K B ρ (fun xs H Q => ∃ i j, xs = [.int i, .int j] ∧ Q (.int (if j > i then j else i)) H) [.val (.int i), .val (.int j)] (.ok ()) (fun _ => .val (.int (max i j))) :=
  cb_val0 (w := .int (max i j)) (fun G H σ vs Q _ ok q => by
    obtain ⟨v, w, rfl, r, r2⟩ := ok.two
    refine ⟨i, j, by rw [r.int_inv, r2.int_inv], ?_⟩
    rw [show (if j > i then j else i) = max i j by omega]
    exact q) fun _ => .int _
theorem cb_min {i j : Int} : CbD K B ρ (fun xs H Q => ∃ i j, xs = [.int i, .int j] ∧ Q (.int (if j < i then j else i)) H) [.val (.int i), .val (.int j)] (.ok ()) (fun _ => .val (.int (min i j))) :=
  cb_val0 (w := .int (min i j)) (fun G H σ vs Q _ ok q => by
    obtain ⟨v, w, rfl, r, r2⟩ := ok.two
    refine ⟨i, j, by rw [r.int_inv, r2.int_inv], ?_⟩
    rw [show (if j < i then j else i) = min i j by omega]
    exact q) fun _ => .int _
theorem cb_lenL {ds : List D} : CbD K B ρ (fun xs H Q => ∃ p ys, xs = [.ref p] ∧ (SqL K H p ys ∨ SqT K H p ys) ∧ Q (.int ys.length) H) [.val (.list ds)] (.ok ()) (fun _ => .val (.int ds.length)) :=
  cb_val0 (fun G H σ vs Q e ok q => by
    obtain ⟨v, rfl, r⟩ := ok.one
    obtain ⟨a, xs, rfl, hS, hr⟩ := r.lst_inv
    exact ⟨a, xs, rfl, .inl (.inl (e.rd hS)), by rw [hr.len]; exact q⟩) fun _ => .int _
theorem cb_lenT {ds : List D} : CbD K B ρ (fun xs H Q => ∃ p ys, xs = [.ref p] ∧ (SqL K H p ys ∨ SqT K H p ys) ∧ Q (.int ys.length) H) [.val (.tuple ds)] (.ok ()) (fun _ => .val (.int ds.length)) :=
  cb_val0 (fun G H σ vs Q e ok q => by
    obtain ⟨v, rfl, r⟩ := ok.one
    obtain ⟨a, xs, rfl, hS, hr⟩ := r.tup_inv
    exact ⟨a, xs, rfl, .inr (e.t hS), by rw [hr.len]; exact q⟩) fun _ => .int _
theorem Rp.scr_inv {K : PySem.W.Frag} {G : Hp} {v : V} {ns : List Int} (h : Rp K G v (.scr ns)) : ∃ a, v = .ref a ∧ SqL K G a (ns.map V.int) := by
  cases h with
  | scr h => exact ⟨_, rfl, h⟩
theorem cb_lenS {ns : List Int} : CbD K B ρ (fun xs H Q => ∃ p ys, xs = [.ref p] ∧ (SqL K H p ys ∨ SqT K H p ys) ∧ Q (.int ys.length) H) [.val (.scr ns)] (.ok ()) (fun _ => .val (.int ns.length)) :=
  cb_val0 (fun G H σ vs Q e ok q => by
    obtain ⟨v, rfl, r⟩ := ok.one
    obtain ⟨a, rfl, hS⟩ := r.scr_inv
    exact ⟨a, _, rfl, .inl (e.l hS), by rw [List.length_map]; exact q⟩) fun _ => .int _
instance {i j : Int} : Decidable (CDivP i j) := by unfold CDivP; infer_instance
theorem cb_divmod {i j : Int} : CbD K B ρ (fun xs H Q => ∃ i j, xs = [.int i, .int j] ∧ CDivP i j ∧ ∀ p, H p = none → Q (.ref p) (upd H p (.tup [.int (i / j), .int (i % j)]))) [.val (.int i), .val (.int j)] (R.guard (CDivP i j)) (fun _ => .val (.tuple [.int (i / j), .int (i % j)])) :=
  fun G H σ vs Q E ok q => by
    obtain ⟨hc, q⟩ := R.post_guard q
    obtain ⟨v, w, rfl, r, r2⟩ := ok.two
    refine ⟨i, j, by rw [r.int_inv, r2.int_inv], hc, fun p hp => q _ (upd G p _) _ (Ex.new (E.sub.back hp)) ((E.new hp _).push (.tup (.inl (.inl upd_same)) (.cons (.int _) (.cons (.int _) .nil))))⟩
end
def tyN : D → String
  | .none => "NoneType"
  | .bool _ => "bool"
  | .int _ => "int"
  | .str _ => "str"
  | .list _ => "list"
  | .tuple _ => "tuple"
  | .dict _ => "dict"
  | .scr _ => "list"
  | .row _ => "tuple"
  | .key _ => "tuple"
  | .exn _ _ _ => "NoneType"
  | .ddk _ => "NoneType"
def notX : D → Bool
  | .exn _ _ _ => false
  | .ddk _ => false
  | _ => true
def isInt : D → Bool
  | .int _ => true
  | .bool _ => true
  | _ => false
def isBool : D → Bool
  | .bool _ => true
  | _ => false
def isTup : D → Bool
  | .tuple _ => true
  | .row _ => true
  | .key _ => true
  | _ => false
def isLst : D → Bool
  | .list _ => true
  | .scr _ => true
  | _ => false
def isStr : D → Bool
  | .str _ => true
  | _ => false
theorem isi_int (d : D) : kitB (tyN d) "int" = some (isInt d) := match d with
  | .none => (show kitB "NoneType" "int" = some false by decide +kernel)
  | .bool _ => (show kitB "bool" "int" = some true by decide +kernel)
  | .int _ => (show kitB "int" "int" = some true by decide +kernel)
  | .str _ => (show kitB "str" "int" = some false by decide +kernel)
  | .list _ => (show kitB "list" "int" = some false by decide +kernel)
  | .tuple _ => (show kitB "tuple" "int" = some false by decide +kernel)
  | .dict _ => (show kitB "dict" "int" = some false by decide +kernel)
  | .scr _ => (show kitB "list" "int" = some false by decide +kernel)
  | .row _ => (show kitB "tuple" "int" = some false by decide +kernel)
  | .key _ => (show kitB "tuple" "int" = some false by decide +kernel)
  | .exn _ _ _ => (show kitB "NoneType" "int" = some false by decide +kernel)
  | .ddk _ => (show kitB "NoneType" "int" = some false by decide +kernel)
theorem isi_bool (d : D) : kitB (tyN d) "bool" = some (isBool d) := match d with
  | .none => (show kitB "NoneType" "bool" = some false by decide +kernel)
  | .bool _ => (show kitB "bool" "bool" = some true by decide +kernel)
  | .int _ => (show kitB "int" "bool" = some false by decide +kernel)
  | .str _ => (show kitB "str" "bool" = some false by decide +kernel)
  | .list _ => (show kitB "list" "bool" = some false by decide +kernel)
  | .tuple _ => (show kitB "tuple" "bool" = some false by decide +kernel)
  | .dict _ => (show kitB "dict" "bool" = some false by decide +kernel)
  | .scr _ => (show kitB "list" "bool" = some false by decide +kernel)
  | .row _ => (show kitB "tuple" "bool" = some false by decide +kernel)
  | .key _ => (show kitB "tuple" "bool" = some false by decide +kernel)
  | .exn _ _ _ => (show kitB "NoneType" "bool" = some false by decide +kernel)
  | .ddk _ => (show kitB "NoneType" "bool" = some false by decide +kernel)
theorem isi_tuple (d : D) : kitB (tyN d) "tuple" = some (isTup d) := match d with
  | .none => (show kitB "NoneType" "tuple" = some false by decide +kernel)
  | .bool _ => (show kitB "bool" "tuple" = some false by decide +kernel)
  | .int _ => (show kitB "int" "tuple" = some false by decide +kernel)
  | .str _ => (show kitB "str" "tuple" = some false by decide +kernel)
  | .list _ => (show kitB "list" "tuple" = some false by decide +kernel)
  | .tuple _ => (show kitB "tuple" "tuple" = some true by decide +kernel)
  | .dict _ => (show kitB "dict" "tuple" = some false by decide +kernel)
  | .scr _ => (show kitB "list" "tuple" = some false by decide +kernel)
  | .row _ => (show kitB "tuple" "tuple" = some true by decide +kernel)
  | .key _ => (show kitB "tuple" "tuple" = some true by decide +kernel)
  | .exn _ _ _ => (show kitB "NoneType" "tuple" = some false by decide +kernel)
  | .ddk _ => (show kitB "NoneType" "tuple" = some false by decide +kernel)
theorem Rp.ty {K : PySem.W.Frag} {G H : Hp} {v : V} {d : D} (h : Rp K G v d) (e : Ex G H) (nx : notX d = true) : TyX K H v (.type (tyN d)) := by
  cases h with
  | ddk _ _ => cases nx
  | ddt _ _ => cases nx
  | any _ => cases nx
  | exn0 _ _ => cases nx
  | exn1 _ _ _ _ => cases nx
  | non => exact .base .non
  | bl b => exact .base (.bl b)
  | int b => exact .base (.int b)
  | str b => exact .base (.str b)
  | lst h r =>
    rcases e.rd h with h | ⟨o, h⟩
    · exact .base (.lst h)
    · exact .base (.frz h)
  | tup h r =>
    rcases e.t h with (h | ⟨o, h⟩) | ⟨o, its, n, h1, h2, _⟩
    · exact .base (.tup h)
    · exact .fTuple h
    · exact .kTuple h1 h2
  | scr h =>
    rcases h with h | ⟨o, its, n, h1, h2, _⟩
    · rcases e.rd h with h | ⟨o, h⟩
      · exact .base (.lst h)
      · exact .base (.frz h)
    · exact .kList h1 h2
  | dK h r => exact .base (.dK (e _ _ h))
  | dT h r => exact .base (.dT (e _ _ h))
  | row h d r => exact .fTuple (e _ _ h)
  | key h => exact .base (.tup (e _ _ h))
theorem je_isi {T : String} {f : D → Bool} (hf : ∀ d, kitB (tyN d) T = some (f d)) {x : Str} {p p2 : Pos} {β : Type} {m : R β} {d : β → D} {ρ' : β → List Slot} (h : JE X B ρ a m (fun b => .val (d b)) ρ') (hmi : X.mg "isinstance" = none) (hm : X.mg x = none) (hv : bootBuiltins x = some (.type T)) (nx : ∀ b, notX (d b) = true := by intro _; rfl)
    (hgi : Gl X "isinstance" := by rfl) (hg : Gl X x := by rfl) (hn : x ≠ "__name__" := by decide) (hd : (x == ("__debug__" : Str)) = false := by decide)
    (h1 : starEach [a, .Name x p2] X.env = (false, eval a X.env) :: starEach [.Name x p2] X.env := by rfl) (h2 : starEach [.Name x p2] X.env = (false, eval (.Name x p2) X.env) :: starEach [] X.env := by rfl) (h3 : (backTo pos (starEach [.Name x p2] X.env)).any (·.1) = false := by rfl) :
    JE X B ρ (.Call (.Name "isinstance" p) [a, .Name x p2] [] pos) m (fun b => .val (.bool (f (d b)))) ρ' :=
  PE_imp (pe_callB call_isi hgi hmi (by decide +kernel) (pa_cons h (pa_cons (pe_bltn hg hm hv (v := .ty T) rfl hn hd) pa_nil h2) h1) (by decide) (by decide) h1 h3) fun σ H Q ⟨G, E, q⟩ => ⟨G, E, R.post_mono q fun b k v G1 H1 x1 E1 =>
    ⟨v, .ty T, .type (tyN (d b)), .type T, f (d b), rfl, .ty T, E1.top.ty E1.sub (nx b), kit_ty (hf _), k _ G1 H1 x1 (E1.pop.push (.bl _))⟩⟩
section
variable {K : PySem.W.Frag}
theorem od_ixT {ds : List D} {i : Int} : OpD K B (rIxT K) (.tuple ds) (.int i) (R.some (atI ds i)) (fun d => .val d) := fun G H σ ρ vx vy Q E hx hy q => by
  obtain ⟨d, hd, q⟩ := R.post_some q
  obtain ⟨a, xs, rfl, hS, hr⟩ := hx.tup_inv
  obtain ⟨j, hj, hd⟩ := Option.bind_eq_some_iff.mp hd
  obtain ⟨v, hv, rv⟩ := hr.get hd
  refine ⟨a, xs, i, v, rfl, hy.int_inv, E.sub.t hS, ?_, q v G H (Ex.refl G) (E.push rv)⟩
  unfold atI
  rw [hr.len, hj]
  exact hv
theorem od_ixL {ds : List D} {i : Int} : OpD K B (rIxL K) (.list ds) (.int i) (R.some (atI ds i)) (fun d => .val d) := fun G H σ ρ vx vy Q E hx hy q => by
  obtain ⟨d, hd, q⟩ := R.post_some q
  obtain ⟨a, xs, rfl, hS, hr⟩ := hx.lst_inv
  obtain ⟨j, hj, hd⟩ := Option.bind_eq_some_iff.mp hd
  obtain ⟨v, hv, rv⟩ := hr.get hd
  refine ⟨a, xs, i, v, rfl, hy.int_inv, .inl (E.sub.rd hS), ?_, q v G H (Ex.refl G) (E.push rv)⟩
  unfold atI
  rw [hr.len, hj]
  exact hv
theorem atI_map {α β : Type} (f : α → β) (xs : List α) (i : Int) : atI (xs.map f) i = (atI xs i).map f := by
  unfold atI
  rw [List.length_map]
  cases ixN xs.length i with
  | none => rfl
  | some j => simp
theorem od_map {r : R2} {x y : D} {α : Type} {o : Option α} {f : α → D} (h : OpD K B r x y (R.some (o.map f)) (fun d => .val d)) : OpD K B r x y (R.some o) (fun a => .val (f a)) := fun G H σ ρ vx vy Q E hx hy q => by
  obtain ⟨d, hd, q⟩ := R.post_some q
  refine h G H σ ρ vx vy Q E hx hy ?_
  rw [hd]
  exact q
theorem od_ixTm {α : Type} {f : α → D} {xs : List α} {i : Int} : OpD K B (rIxT K) (.tuple (xs.map f)) (.int i) (R.some (atI xs i)) (fun a => .val (f a)) := od_map (by rw [← atI_map]; exact od_ixT)
theorem od_ixLm {α : Type} {f : α → D} {xs : List α} {i : Int} : OpD K B (rIxL K) (.list (xs.map f)) (.int i) (R.some (atI xs i)) (fun a => .val (f a)) := od_map (by rw [← atI_map]; exact od_ixL)
theorem od_ixTs {ds : List D} {i : Int} {d : D} (h : atI ds i = some d) : OpD K B (rIxT K) (.tuple ds) (.int i) (.ok ()) (fun _ => .val d) := fun G H σ ρ vx vy Q E hx hy q => od_ixT G H σ ρ vx vy Q E hx hy (by rw [h]; exact q)
end
theorem je_ixO (i : Nat) {x : Str} {px : Pos} {l : Nat} {α : Type} {en : α → D} {xs : List α} {k : Int} (h : ρ[i]? = some (.own l (.lst ((xs.map en).map OT.dat))) := by rfl) (hk : JP X B ρ b (.int k)) (hal : noAlis ρ = true := by rfl) (hN : X.N[i]? = some x := by rfl)
    (hv : Vis X.env.scope x := by first | exact Or.inl rfl | exact Or.inr (Or.inl rfl) | exact Or.inr (Or.inr rfl)) (hd : (x == ("__debug__" : Str)) = false := by decide) (hcd : (x == ("__classdict__" : Str)) = false := by decide) (hs : PlainIx b := by exact fun _ _ => rfl) :
    JE X B ρ (.Subscript (.Name x px) b pos) (R.some (atI xs k)) (fun y => .val (en y)) (fun _ => ρ) :=
  PE_imp (pe_ix ix_list (pv i hN hv hd hcd) hk hs) fun σ H Q ⟨G, E, q⟩ => by
    obtain ⟨p, vs, e1, e2, e3, e4⟩ := E.ownD h hal
    obtain ⟨y, hy, q⟩ := R.post_some q
    refine ⟨.ref p, e1, G, E, fun w G1 H1 x1 E1 => ?_⟩
    have hn := E1.top.int_inv
    obtain ⟨p', vs', g1, g2, g3, g4⟩ := E1.pop.ownD h hal
    have ep : p' = p := by
      have z := g1.symm.trans e1
      injection z with z
      injection z with z
      injection z
    subst ep
    have hy' : atI (xs.map en) k = some (en y) := by rw [atI_map, hy]; rfl
    obtain ⟨j, hj, hd⟩ := Option.bind_eq_some_iff.mp hy'
    obtain ⟨v, hv, rv⟩ := g3.get hd
    refine ⟨p', vs', k, v, rfl, hn, .inl (.inl g2), ?_, q v G1 H1 x1 (E1.pop.push rv)⟩
    unfold atI
    rw [g3.len, hj]
    exact hv
def tJO (K : PySem.W.Frag) (B : Base) (ρ : List Slot) (o : Option Int) : TO := fun σ H Q => ∃ G, En K B G H σ ρ [] ∧ ∀ G' H', Ex G G' → En K B G' H' σ ρ [] → Q o H'
def JO (X : Cx) (B : Base) (ρ : List Slot) (e : Option Expr) (o : Option Int) : Prop := PO X e (tJO X.K B ρ o)
theorem PO_imp {e : Option Expr} {t t' : TO} (h : PO X e t) (k : ∀ σ H Q, t' σ H Q → t σ H Q) : PO X e t' := ⟨fun pins s σ H Q I q => h.run pins s σ H Q I (k σ H Q q)⟩
theorem jo_none : JO X B ρ none none := PO_imp po_none fun σ H Q ⟨G, E, q⟩ => q G H (Ex.refl G) E
theorem jo_some {i : Int} (h : JP X B ρ e (.int i)) : JO X B ρ (some e) (some i) := PO_imp (po_some h) fun σ H Q ⟨G, E, q⟩ => ⟨G, E, fun v G1 H1 x1 E1 => ⟨i, E1.top.int_inv, q G1 H1 x1 E1.pop⟩⟩
def cut {α : Type} (xs : List α) (lo hi : Option Int) : List α := (xs.drop (HT.sIx xs.length 0 lo)).take (HT.sIx xs.length xs.length hi - HT.sIx xs.length 0 lo)
theorem cut_map {α β : Type} (f : α → β) (xs : List α) (lo hi : Option Int) : cut (xs.map f) lo hi = (cut xs lo hi).map f := by
  unfold cut
  rw [List.length_map, List.map_take, List.map_drop]
theorem cut_rp {K : PySem.W.Frag} {G : Hp} {xs : List V} {ds : List D} {lo hi : Option Int} (h : RpAll K G xs ds) : RpAll K G (cutV xs lo hi) (cut ds lo hi) := by
  unfold cutV cut
  rw [h.len]
  exact (h.drop _).take _
theorem je_slL {o1 o2 : Option Expr} {p2 : Pos} {lo hi : Option Int} {β : Type} {m : R β} {ds : β → List D} {ρ' : β → List Slot} (h : JE X B ρ a m (fun b => .val (.list (ds b))) ρ') (h1 : ∀ b, JO X B (ρ' b) o1 lo) (h2 : ∀ b, JO X B (ρ' b) o2 hi) :
    JE X B ρ (.Subscript a (.Slice o1 o2 none p2) pos) m (fun b => .own 0 (.lst ((cut (ds b) lo hi).map OT.dat))) ρ' := by
  have h1' : PO X o1 (fun σ H Q => ∃ b, tJO X.K B (ρ' b) lo σ H Q) := ⟨fun pins s σ H Q I ⟨b, q⟩ => (h1 b).run pins s σ H Q I q⟩
  have h2' : PO X o2 (fun σ H Q => ∃ b, tJO X.K B (ρ' b) hi σ H Q) := ⟨fun pins s σ H Q I ⟨b, q⟩ => (h2 b).run pins s σ H Q I q⟩
  refine PE_imp (pe_slice sl_list h h1' h2') fun σ H Q ⟨G, E, q⟩ => ⟨G, E, R.post_mono q fun b k v G1 H1 x1 E1 => ⟨b, G1, E1.pop, fun G2 H2 x2 E2 => ⟨b, G2, E2, fun G3 H3 x3 E3 => ?_⟩⟩⟩
  obtain ⟨p, xs, rfl, hS, hr⟩ := E1.top.lst_inv
  have x13 := x2.trans x3
  exact ⟨p, xs, rfl, .inl ((x13.trans E3.sub).rd hS), fun q' hq => k _ G3 _ (x1.trans x13) (E3.newL hq (cut_rp (RpAll.ex x13 hr)))⟩
theorem je_slS {o1 o2 : Option Expr} {p2 : Pos} {lo hi : Option Int} {β : Type} {m : R β} {ns : β → List Int} {ρ' : β → List Slot} (h : JE X B ρ a m (fun b => .val (.scr (ns b))) ρ') (h1 : ∀ b, JO X B (ρ' b) o1 lo) (h2 : ∀ b, JO X B (ρ' b) o2 hi) :
    JE X B ρ (.Subscript a (.Slice o1 o2 none p2) pos) m (fun b => .own 0 (.lst (((cut (ns b) lo hi).map D.int).map OT.dat))) ρ' := by
  have h1' : PO X o1 (fun σ H Q => ∃ b, tJO X.K B (ρ' b) lo σ H Q) := ⟨fun pins s σ H Q I ⟨b, q⟩ => (h1 b).run pins s σ H Q I q⟩
  have h2' : PO X o2 (fun σ H Q => ∃ b, tJO X.K B (ρ' b) hi σ H Q) := ⟨fun pins s σ H Q I ⟨b, q⟩ => (h2 b).run pins s σ H Q I q⟩
  refine PE_imp (pe_slice sl_list h h1' h2') fun σ H Q ⟨G, E, q⟩ => ⟨G, E, R.post_mono q fun b k v G1 H1 x1 E1 => ⟨b, G1, E1.pop, fun G2 H2 x2 E2 => ⟨b, G2, E2, fun G3 H3 x3 E3 => ?_⟩⟩⟩
  obtain ⟨p, rfl, hS⟩ := E1.top.scr_inv
  have x13 := x2.trans x3
  refine ⟨p, _, rfl, (x13.trans E3.sub).l hS, fun q' hq => k _ G3 _ (x1.trans x13) (E3.newL hq ?_)⟩
  rw [← cut_map]
  exact cut_rp (RpAll.of_ints (ns b))
def rCatR : R2 := fun x y H Q => ∃ l b xs zs, x = .ref l ∧ y = .ref b ∧ Rd H l (.lst xs) ∧ Rd H b (.lst zs) ∧ xs.length + zs.length ≤ sizeLine ∧ ∀ p, H p = none → Q (.ref p) (upd H p (.lst (xs ++ zs)))
theorem op_catR : OpR X (binaryOp .Add) rCatR := by
  intro pins s σ H x y v u Q I rx ry h
  obtain ⟨l, b, xs, zs, rfl, rfl, hH, hB, hz, q⟩ := h
  cases rx
  cases ry
  obtain ⟨z1, i1, n1, r1, g1⟩ := hH.ok I.hok
  obtain ⟨z2, i2, n2, r2, g2⟩ := hB.ok I.hok
  have l1 := r1.length
  have l2 := r2.length
  refine PySem.P.add_list g1 g2 ?_ (by simp only [List.size_toArray]; omega)
  rw [List.append_toArray]
  exact ⟨.ref _, _, I.lnew (t' := s.toks) (r1.append r2) (by simp only [List.length_append]; omega), rfl, q _ I.fresh⟩
theorem od_cat {K : PySem.W.Frag} {ds es : List D} : OpD K B rCatR (.list ds) (.list es) (R.guard (ds.length + es.length ≤ sizeLine)) (fun _ => .own 0 (.lst ((ds ++ es).map OT.dat))) := fun G H σ ρ vx vy Q E hx hy q => by
  obtain ⟨hc, q⟩ := R.post_guard q
  obtain ⟨a, xs, rfl, hS, hr⟩ := hx.lst_inv
  obtain ⟨b, ys, rfl, hS2, hr2⟩ := hy.lst_inv
  exact ⟨a, b, xs, ys, rfl, rfl, E.sub.rd hS, E.sub.rd hS2, by rw [hr.len, hr2.len]; exact hc, fun p hp => q _ G _ (Ex.refl G) (E.newL hp (hr.append hr2))⟩
end
end DL
namespace DL
open PySem PySem.Spec L2
abbrev FnP (K : PySem.W.Frag) (x : Str) (st : Stmt) (f : Addr) (fd : FuncData) : Prop := FunD K x x (defArgs st) (defBody st) (defScope st) [] [] f fd
structure DT (K : PySem.W.Frag) (mg : Str → Option Value) (x : Str) (st : Stmt) (ps : List Str) where
  a : Addr
  d : FuncData
  f : FnP K x st a d
  g : mg x = some (.ref a)
  b : Binds K d ps []
def fin0 {N L T : Type} (m : R (Fl N L T)) : R T := m.bind fun
  | .rt t => .ok t
  | _ => .bad
def finN {N L T : Type} (m : R (Fl N L T)) : R N := m.bind fun
  | .nx n => .ok n
  | _ => .bad
section
variable {P : Program} {w : World} {K : PySem.W.Frag} {mg : Str → Option Value} {base : Heap} {x : Str} {st : Stmt} {f : Addr} {fd : FuncData} {N ps : List Str} {k : Nat}
theorem start_en {B : Base} {G H : Hp} {vs : List V} {ρ : List Slot} {d : Nat} (E : En K B G H (vs.map some) ρ []) (hN : N.length = vs.length + d) : En K B G H (L2.start N vs) (ρ ++ List.replicate d .non) [] := by
  unfold L2.start
  rw [show N.length - vs.length = d by omega]
  obtain ⟨A, c, n, g⟩ := E.own
  have ap : ∀ {σ : L2.St} {ρ : List Slot} {A : List Addr}, Cells K B G H σ ρ A → Cells K B G H (σ ++ List.replicate d none) (ρ ++ List.replicate d .non) A := by
    intro σ ρ A h
    induction h with
    | nil =>
      have nn : ∀ m : Nat, Cells K B G H (List.replicate m none) (List.replicate m .non) [] := by
        intro m
        induction m with
        | zero => exact .nil
        | succ m ih => exact .cons (A := []) .non ih
      exact nn d
    | cons c r ih => exact .cons c ih
  refine ⟨E.anc, ⟨A, ap (show Cells K B G H (vs.map some) ρ A from c), n, g⟩, by simp [← E.len], fun i j p e => ?_⟩
  by_cases hi : i < ρ.length
  · rw [List.getElem?_append_left hi] at e
    obtain ⟨v, w, h1, h2, h3⟩ := E.ali i j p e
    have l1 : i < (vs.map some).length := by rw [E.len]; exact hi
    have l2 : j < (vs.map some).length := (List.getElem?_eq_some_iff.mp h2).1
    exact ⟨v, w, by rw [List.getElem?_append_left l1]; exact h1, by rw [List.getElem?_append_left l2]; exact h2, h3⟩
  · rw [List.getElem?_append_right (by omega)] at e
    have := (List.mem_replicate.mp (List.mem_of_getElem? e)).2
    cases this
def okOuts : Nat → List Slot → Bool
  | _, [] => true
  | n, .non :: r => okOuts (n + 1) r
  | n, .own l _ :: r => l == n + 1 && okOuts (n + 1) r
  | _, _ :: _ => false
theorem okOuts_ali : ∀ {ρ : List Slot} {n : Nat}, okOuts n ρ = true → ∀ {i j : Nat} {p : List Nat}, ρ[i]? ≠ some (.ali j p)
  | [], _, _, _, _, _ => fun e => nomatch e
  | s :: ρ, n, h, i, j, p => fun e => by
    have h' : okOuts (n + 1) ρ = true ∧ s ≠ .ali j p := by
      cases s <;> simp [okOuts] at h
      · exact ⟨h, fun z => nomatch z⟩
      · exact ⟨h.2, fun z => nomatch z⟩
    cases i with
    | zero =>
      simp at e
      exact h'.2 e
    | succ i => exact okOuts_ali h'.1 (i := i) (by simpa using e)
theorem stop_en {B : Base} {G H : Hp} {vs : List V} {σ : L2.St} {ρ : List Slot} {d : Nat} {v : V} {s : Slot} (E : En K B G H σ (ρ ++ List.replicate d .non) [(v, s)]) (hv : ∀ k, B.pv (k + 1) = vs[k]?) (ho : okOuts 0 ρ = true) (hl : vs.length = ρ.length) : En K B G H (vs.map some) ρ [(v, s)] := by
  obtain ⟨A, c, n, g⟩ := E.own
  cases c with
  | @cons _ _ A1 _ _ A2 c1 cr =>
    have cut : ∀ {ρ : List Slot} {σ : L2.St} {A : List Addr} {ws : List V} (n : Nat), Cells K B G H σ (ρ ++ List.replicate d .non) A → (∀ k, B.pv (n + k + 1) = ws[k]?) → okOuts n ρ = true → ws.length = ρ.length → Cells K B G H (ws.map some) ρ A := by
      intro ρ
      induction ρ with
      | nil =>
        intro σ A ws n h _ _ hl
        have nn : ∀ (m : Nat) {σ : L2.St} {A : List Addr}, Cells K B G H σ (List.replicate m .non) A → A = [] := by
          intro m
          induction m with
          | zero =>
            intro σ A h
            cases h
            rfl
          | succ m ih =>
            intro σ A h
            cases h with
            | cons c r =>
              cases c
              rw [ih r]
              rfl
        have e := nn d h
        subst e
        cases ws with
        | nil => exact .nil
        | cons a b => cases hl
      | cons s ρ ih =>
        intro σ A ws n h hv ho hl
        cases h with
        | @cons x0 _ B1 σ0 _ B2 c r =>
          cases ws with
          | nil => cases hl
          | cons y ws =>
            have tl : okOuts (n + 1) ρ = true → Cells K B G H (ws.map some) ρ B2 := fun ho => ih (n + 1) r (fun k => by
              have := hv (k + 1)
              rw [show n + (k + 1) + 1 = n + 1 + k + 1 by omega] at this
              simpa using this) ho (by simpa using hl)
            cases c with
            | non => exact .cons .non (tl (by simpa [okOuts] using ho))
            | val h => simp [okOuts] at ho
            | ali => simp [okOuts] at ho
            | @own u l o _ hO hr hp =>
              have ho' : l = n + 1 ∧ okOuts (n + 1) ρ = true := by simpa [okOuts] using ho
              obtain ⟨rfl, ho2⟩ := ho'
              have e1 := hp.resolve_left (Nat.succ_ne_zero n)
              have e2 := hv 0
              rw [show n + 0 + 1 = n + 1 by omega, e1] at e2
              have e3 : u = y := by simpa using e2
              subst e3
              exact .cons (.own hO hr hp) (tl ho2)
    exact ⟨E.anc, ⟨_, .cons c1 (cut 0 (show Cells K B G H σ (ρ ++ List.replicate d .non) A2 from cr) (fun k => by rw [Nat.zero_add]; exact hv k) ho hl), n, g⟩, by rw [List.length_map]; exact hl, fun i j p e => absurd e (okOuts_ali ho)⟩
theorem fn_ok {α β N1 L1 : Type} {ins : α → List Slot} {sl : β → Slot} {outs : β → List Slot} {n1 : N1 → List Slot} {c1 k1 : L1 → List Slot} (mb : α → R (Fl N1 L1 β)) (d : Nat) (F : FnP K x st f fd) (S : FnScope N ps (defScope st)) (hN : N.length = ps.length + d)
    (hi : ∀ a, (ins a).length = ps.length) (ho : ∀ b, okOuts 0 (outs b) = true) (ho2 : ∀ b, (outs b).length = ps.length)
    (hbody : ∀ (cdv : Value) (A : Around) (outer : List PySem.Env) (s : Shared) (H : Hp) (E : XK), RoomG k (A.deeper (PyProof.Rows.envOfC x (defScope st) s.heap.objs.size f cdv)) → ∀ (B : Base), (∀ e, ¬ B.rs e) → ∀ a,
      JSs (cxOf CX0 P w K mg base N x (defScope st) f cdv A outer s H E).nox B (ins a ++ List.replicate d .non) (defBody st) (mb a) ⟨n1, c1, k1, sl, fun b => outs b ++ List.replicate d .non⟩) :
    FnG P w K mg base CX0 (k + 1) f fd ps (spM K ins (fun a => fin0 (mb a)) sl outs) := by
  refine fn_ofG F S (fun vs H Q E h => ?_) fun cdv A outer s H vs Q E hr h => ?_
  · obtain ⟨a, G, As, E0, _⟩ := h
    have := E0.len
    rw [List.length_map] at this
    rw [this, hi a]
  · obtain ⟨a, G, As, E0, q⟩ := h
    have hl : vs.length = ps.length := by
      have := E0.len
      rw [List.length_map] at this
      rw [this, hi a]
    refine ⟨_, (hbody cdv A outer s H E hr (baseOf H G As vs fun _ => False) (fun e z => z) a).nox, G, start_en E0 (by rw [hN, hl]), ?_⟩
    have q' := R.post_bind.mp q
    refine R.post_mono q' fun fl q1 => ?_
    cases fl with
    | nx n => exact q1.elim
    | ct n => exact q1.elim
    | bk n => exact q1.elim
    | rt b => exact fun v σ' G' H' x1 E1 => q1 v G' H' (stop_en E1 (fun k => rfl) (ho b) (by rw [hl, ho2 b]))
end
end DL
namespace DL
open PySem PySem.Spec L2
def lt {α β : Type} (v : α) (k : α → β) : β := k v
@[reducible] def eT {α : Type} (f : α → D) (l : List α) : D := .tuple (l.map f)
@[reducible] def eL {α : Type} (f : α → D) (l : List α) : D := .list (l.map f)
@[reducible] def eD (d : D) : D := d
@[reducible] def eU (_ : Unit) : D := .none
@[reducible] def eP2 {α β : Type} (f : α → D) (g : β → D) (p : α × β) : D := .tuple [f p.1, g p.2]
@[reducible] def eP3 {α β γ : Type} (f : α → D) (g : β → D) (h : γ → D) (p : α × β × γ) : D := .tuple [f p.1, g p.2.1, h p.2.2]
@[reducible] def eP4 {α β γ δ : Type} (f : α → D) (g : β → D) (h : γ → D) (i : δ → D) (p : α × β × γ × δ) : D := .tuple [f p.1, g p.2.1, h p.2.2.1, i p.2.2.2]
@[reducible] def oL {α : Type} (f : α → D) (l : List α) : OT := .lst ((l.map f).map OT.dat)
theorem toDs_dat : ∀ ds : List D, OT.toDs (ds.map OT.dat) = ds
  | [] => by rw [List.map_nil, OT.toDs]
  | d :: ds => by rw [List.map_cons, OT.toDs, OT.toD, toDs_dat ds]
theorem oL_toD {α : Type} (f : α → D) (l : List α) : (oL f l).toD = eL f l := by
  show OT.toD (.lst _) = _
  rw [OT.toD, toDs_dat]
section
variable {X : Cx} {B : Base} {ρ : List Slot} {e a b : Expr} {es : List Expr} {rest : List Stmt} {pos : Pos} {N L T β α : Type} {F : Fin N L T}
theorem je_frzL {m : R β} {f : α → D} {v : β → List α} {ρ' : β → List Slot} (h : JE X B ρ e m (fun b => .own 0 (oL f (v b))) ρ') : JE X B ρ e m (fun b => .val (eL f (v b))) ρ' := by
  have := je_frz h
  simp only [oL_toD] at this
  exact this
theorem js_setP (i : Nat) {x : Str} {pos' : Pos} (en : α → D) (v : α) {k : α → R (Fl N L T)} (hN : X.N.Nodup) (h : JP X B ρ e (en v)) (r : ∀ x, JSs X B (ρ.set i (.val (en x))) rest (k x) F) (hi : X.N[i]? = some x := by rfl) (hx : Loc X.env.scope x := by first | exact Or.inl rfl | exact Or.inr rfl)
    (hlt : i < ρ.length := by exact of_decide_eq_true rfl) (hal : noAli i ρ = true := by rfl) (hs : swapsWith e (some (.Name x pos')) pos.line X.env = pure false := by rfl) (hf : X.fn x = true ∨ X.env.scope.names.lookup x = some .local := by first | exact .inl rfl | exact .inr rfl) :
    JSs X B ρ (.Assign [.Name x pos'] e pos :: rest) (lt v k) F :=
  js_cons1 (k := fun _ => k v) (j1_set i hN h hi hx (fun _ => hlt) (fun _ => hal) (fun _ => rfl) hs hf) fun _ => r v
theorem js_setE (i : Nat) {x : Str} {pos' : Pos} (en : α → D) {m : R β} (v : β → α) {ρ' : β → List Slot} {k : β → α → R (Fl N L T)} (hN : X.N.Nodup) (h : JE X B ρ e m (fun b => .val (en (v b))) ρ') (r : ∀ b x, JSs X B ((ρ' b).set i (.val (en x))) rest (k b x) F) (hi : X.N[i]? = some x := by rfl) (hx : Loc X.env.scope x := by first | exact Or.inl rfl | exact Or.inr rfl)
    (hlt : ∀ b, i < (ρ' b).length := by intro _; exact of_decide_eq_true rfl) (hal : ∀ b, noAli i (ρ' b) = true := by intro _; rfl) (hs : swapsWith e (some (.Name x pos')) pos.line X.env = pure false := by rfl) (hf : X.fn x = true ∨ X.env.scope.names.lookup x = some .local := by first | exact .inl rfl | exact .inr rfl) :
    JSs X B ρ (.Assign [.Name x pos'] e pos :: rest) (m.bind fun b => lt (v b) (k b)) F :=
  js_cons1 (j1_set i hN h hi hx hlt hal (fun _ => rfl) hs hf) fun b => r b (v b)
theorem js_setO (i : Nat) {x : Str} {pos' : Pos} (on : α → OT) {m : R β} (v : β → α) {ρ' : β → List Slot} {k : β → α → R (Fl N L T)} (hN : X.N.Nodup) (h : JE X B ρ e m (fun b => .own 0 (on (v b))) ρ') (r : ∀ b x, JSs X B ((ρ' b).set i (.own 0 (on x))) rest (k b x) F) (hi : X.N[i]? = some x := by rfl) (hx : Loc X.env.scope x := by first | exact Or.inl rfl | exact Or.inr rfl)
    (hlt : ∀ b, i < (ρ' b).length := by intro _; exact of_decide_eq_true rfl) (hal : ∀ b, noAli i (ρ' b) = true := by intro _; rfl) (hs : swapsWith e (some (.Name x pos')) pos.line X.env = pure false := by rfl) (hf : X.fn x = true ∨ X.env.scope.names.lookup x = some .local := by first | exact .inl rfl | exact .inr rfl) :
    JSs X B ρ (.Assign [.Name x pos'] e pos :: rest) (m.bind fun b => lt (v b) (k b)) F :=
  js_cons1 (j1_set i hN h hi hx hlt hal (fun _ => rfl) hs hf) fun b => r b (v b)
theorem js_consP {st : Stmt} {ρ' : List Slot} {k : R (Fl N L T)} (h : J1 X B ρ st (.ok ()) (fun _ => ρ')) (r : JSs X B ρ' rest k F) : JSs X B ρ (st :: rest) k F := js_cons1 (k := fun _ => k) h fun _ => r
theorem js_retP (t : T) (bs : List Bool) {s : Slot} (h : JE X B ρ e (.ok ()) (fun _ => s) (fun _ => ρ)) (hs : F.s t = s := by rfl) (ht : forgot ρ bs = F.t t := by rfl) : JS X B ρ (.Return (some e) pos) (.ok (.rt t)) F :=
  js_ret (fun _ => t) bs h (fun _ => hs) fun _ => ht
theorem jt_op {r : R2} (ht : ∀ ta tb, PE X a ta → PE X b tb → PT X e (tTest (tOp r ta tb))) {x y : D} {γ : Type} {mr : R γ} {bn : γ → Bool} (ha : JP X B ρ a x) (hb : JP X B ρ b y) (hr : OpD X.K B r x y mr (fun z => .val (.bool (bn z)))) : JT X B ρ e mr bn (fun _ => ρ) := by
  refine PT_imp (ht _ _ ha hb) fun σ H Q ⟨G, E, q⟩ => ?_
  refine ⟨G, E, fun vx G1 H1 x1 E1 => ?_⟩
  refine ⟨G1, E1.pop, fun vy G2 H2 x2 E2 => ?_⟩
  exact hr G2 H2 σ ρ vx vy _ E2.pop (E1.top.ex x2) E2.top (R.post_mono q fun z q v G3 H3 x3 E3 => ⟨_, E3.top.bl_inv, q G3 H3 (x1.trans (x2.trans x3)) E3.pop⟩)
theorem je_lstT {β : Type} {m : R β} {as : β → List Ar} {ρ' : β → List Slot} (f : α → D) (xs : β → List α) (h : JA X B ρ es m as ρ') (hd : ∀ b, arDs (as b) = (xs b).map f := by intro _; rfl) (hs : ∀ b, noSlots (as b) = true := by intro _; rfl) (hl : ∀ b, (arDs (as b)).length ≤ 1000 := by intro _; exact of_decide_eq_true rfl) : JE X B ρ (.List es pos) m (fun b => .own 0 (oL f (xs b))) ρ' := by
  have := je_lst (pos := pos) h hs hl
  simp only [hd] at this
  exact this
theorem je_slLm {o1 o2 : Option Expr} {p2 : Pos} {lo hi : Option Int} {m : R β} {f : α → D} {xs : β → List α} {ρ' : β → List Slot} (h : JE X B ρ a m (fun b => .val (eL f (xs b))) ρ') (h1 : ∀ b, JO X B (ρ' b) o1 lo) (h2 : ∀ b, JO X B (ρ' b) o2 hi) :
    JE X B ρ (.Subscript a (.Slice o1 o2 none p2) pos) m (fun b => .own 0 (oL f (cut (xs b) lo hi))) ρ' := by
  have := je_slL (pos := pos) (p2 := p2) h h1 h2
  simp only [cut_map] at this
  exact this
theorem od_catm {K : PySem.W.Frag} {f : α → D} {xs ys : List α} : OpD K B rCatR (eL f xs) (eL f ys) (R.guard (xs.length + ys.length ≤ sizeLine)) (fun _ => .own 0 (oL f (xs ++ ys))) := by
  have := od_cat (K := K) (B := B) (ds := xs.map f) (es := ys.map f)
  simp only [List.length_map] at this
  rw [← List.map_append] at this
  exact this
theorem ji_rng1P {tg : Expr} {p : Pos} {i : Int} (hm : X.mg "range" = none) (h : JA X B ρ [a] (.ok ()) (fun _ => [.val (.int i)]) (fun _ => ρ)) (hg : Gl X "range" := by rfl) (hs : starEach [a] X.env = [(false, eval a X.env)] := by rfl) :
    JI X B ρ tg (.Call (.Name "range" p) [a] [] pos) (R.guard (rngOk i)) (fun _ => (rng 0 i).map D.int) (fun _ => ρ) :=
  PI_imp (ji_rng1 (fun _ => i) hm h (fun _ => rfl) hg hs) fun σ H Q ⟨G, E, q⟩ => ⟨G, E, by
    obtain ⟨hc, q⟩ := R.post_guard q
    show ((R.guard (rngOk i)).bind fun _ => R.ok ()).post _ _
    unfold R.guard
    rw [if_pos hc]
    exact q⟩
theorem js_forP {α S L T : Type} {xs : List α} {en : α → D} {s0 : S} {tg it : Expr} (ρS : S → List Slot) (ρB : α → S → List Slot) {f : α → S → R (Fl S S T)} {F : Fin S L T} {body : List Stmt} (hp : PassesOwn (model X.prog X.w) X.A X.env X.xe) (hc : X.calm = true)
    (hi : JI X B ρ tg it (.ok ()) (fun _ => xs.map en) (fun _ => ρ)) (bs : List Bool) (hw : forgot ρ bs = ρS s0) (hg : ∀ x s, JG X B (ρS s) tg (en x) (.ok ()) (fun _ => ρB x s))
    (hb : ∀ x s, JSs X B (ρB x s) body (f x s) ⟨ρS, ρS, ρS, F.s, F.t⟩) (hn : F.n = ρS := by rfl) (hs : ∀ v, foldedSetIterable it X.env v = pure v := by intro _; rfl) : JS X B ρ (.For tg it body [] pos) (forR f xs s0) F :=
  js_for (m := .ok ()) (xs := fun _ => xs) (s0 := fun _ => s0) (ρ' := fun _ => ρ) ρS ρB hp hc hi bs (fun _ => hw) hg hb hn hs
theorem jt_pb {t : Bool} (h : TP0 X B ρ e t) : JT X B ρ e (.ok t) (fun b => b) (fun _ => ρ) := h
theorem cb_lenLm {K : PySem.W.Frag} {f : α → D} {xs : List α} : CbD K B ρ (fun xs H Q => ∃ p ys, xs = [.ref p] ∧ (SqL K H p ys ∨ SqT K H p ys) ∧ Q (.int ys.length) H) [.val (eL f xs)] (.ok ()) (fun _ => .val (.int ((xs.length : Nat) : Int))) := by
  have := cb_lenL (K := K) (B := B) (ρ := ρ) (ds := xs.map f)
  rw [List.length_map] at this
  exact this
theorem cb_lenTm {K : PySem.W.Frag} {f : α → D} {xs : List α} : CbD K B ρ (fun xs H Q => ∃ p ys, xs = [.ref p] ∧ (SqL K H p ys ∨ SqT K H p ys) ∧ Q (.int ys.length) H) [.val (eT f xs)] (.ok ()) (fun _ => .val (.int ((xs.length : Nat) : Int))) := by
  have := cb_lenT (K := K) (B := B) (ρ := ρ) (ds := xs.map f)
  rw [List.length_map] at this
  exact this
theorem je_opL {r : R2} (ht : ∀ ta tb, PE X a ta → PE X b tb → PE X e (tOp r ta tb)) {α : Type} {ma : R α} {xa y : α → D} {ρa : α → List Slot} {s : α → Slot} (ha : JE X B ρ a ma (fun x => .val (xa x)) ρa) (hb : ∀ x, JP X B (ρa x) b (y x)) (hr : ∀ x, OpD X.K B r (xa x) (y x) (.ok ()) (fun _ => s x)) : JE X B ρ e ma s ρa := by
  have hb' : PE X b (fun σ H Q => ∃ x, tJ X.K B (ρa x) (.ok ()) (fun _ => .val (y x)) (fun _ => ρa x) σ H Q) := ⟨fun pins s σ H Q I ⟨x, q⟩ => (hb x).run pins s σ H Q I q⟩
  exact PE_imp (ht _ _ ha hb') fun σ H Q ⟨G, E, q⟩ => ⟨G, E, R.post_mono q fun x q1 vx G1 H1 x1 E1 => ⟨x, G1, E1.pop, fun vy G2 H2 x2 E2 => hr x G2 H2 σ (ρa x) vx vy Q E2.pop (E1.top.ex x2) E2.top fun v G3 H3 x3 E3 => q1 v G3 H3 (x1.trans (x2.trans x3)) E3⟩⟩
theorem je_opLG {r : R2} (ht : ∀ ta tb, PE X a ta → PE X b tb → PE X e (tOp r ta tb)) {α γ : Type} {ma : R α} {xa y : α → D} {ρa : α → List Slot} {mr : α → R γ} {s : α → γ → Slot} (ha : JE X B ρ a ma (fun x => .val (xa x)) ρa) (hb : ∀ x, JP X B (ρa x) b (y x)) (hr : ∀ x, OpD X.K B r (xa x) (y x) (mr x) (s x)) :
    JE X B ρ e (ma.bind fun x => (mr x).bind fun z => .ok (x, z)) (fun p => s p.1 p.2) (fun p => ρa p.1) := by
  have hb' : PE X b (fun σ H Q => ∃ x, tJ X.K B (ρa x) (.ok ()) (fun _ => .val (y x)) (fun _ => ρa x) σ H Q) := ⟨fun pins s σ H Q I ⟨x, q⟩ => (hb x).run pins s σ H Q I q⟩
  exact PE_imp (ht _ _ ha hb') fun σ H Q ⟨G, E, q⟩ => ⟨G, E, R.post_mono (R.post_bind.mp q) fun x q1 vx G1 H1 x1 E1 => ⟨x, G1, E1.pop, fun vy G2 H2 x2 E2 => hr x G2 H2 σ (ρa x) vx vy Q E2.pop (E1.top.ex x2) E2.top (R.post_mono (R.post_bind.mp q1) fun z q2 v G3 H3 x3 E3 => q2 v G3 H3 (x1.trans (x2.trans x3)) E3)⟩⟩
theorem je_opR {r : R2} (ht : ∀ ta tb, PE X a ta → PE X b tb → PE X e (tOp r ta tb)) {β : Type} {x : D} {mb : R β} {xb : β → D} {ρb : β → List Slot} {s : β → Slot} (ha : JP X B ρ a x) (hb : JE X B ρ b mb (fun y => .val (xb y)) ρb) (hr : ∀ y, OpD X.K B r x (xb y) (.ok ()) (fun _ => s y)) : JE X B ρ e mb s ρb :=
  PE_imp (ht _ _ ha hb) fun σ H Q ⟨G, E, q⟩ => ⟨G, E, fun vx G1 H1 x1 E1 => ⟨G1, E1.pop, R.post_mono q fun y q1 vy G2 H2 x2 E2 => hr y G2 H2 σ (ρb y) vx vy Q E2.pop (E1.top.ex x2) E2.top fun v G3 H3 x3 E3 => q1 v G3 H3 (x1.trans (x2.trans x3)) E3⟩⟩
theorem je_opRG {r : R2} (ht : ∀ ta tb, PE X a ta → PE X b tb → PE X e (tOp r ta tb)) {β γ : Type} {x : D} {mb : R β} {xb : β → D} {ρb : β → List Slot} {mr : β → R γ} {s : β → γ → Slot} (ha : JP X B ρ a x) (hb : JE X B ρ b mb (fun y => .val (xb y)) ρb) (hr : ∀ y, OpD X.K B r x (xb y) (mr y) (s y)) :
    JE X B ρ e (mb.bind fun y => (mr y).bind fun z => .ok (y, z)) (fun p => s p.1 p.2) (fun p => ρb p.1) :=
  PE_imp (ht _ _ ha hb) fun σ H Q ⟨G, E, q⟩ => ⟨G, E, fun vx G1 H1 x1 E1 => ⟨G1, E1.pop, R.post_mono (R.post_bind.mp q) fun y q1 vy G2 H2 x2 E2 => hr y G2 H2 σ (ρb y) vx vy Q E2.pop (E1.top.ex x2) E2.top (R.post_mono (R.post_bind.mp q1) fun z q2 v G3 H3 x3 E3 => q2 v G3 H3 (x1.trans (x2.trans x3)) E3)⟩⟩
theorem jt_opL {r : R2} (ht : ∀ ta tb, PE X a ta → PE X b tb → PT X e (tTest (tOp r ta tb))) {α : Type} {ma : R α} {xa y : α → D} {ρa : α → List Slot} {bn : α → Bool} (ha : JE X B ρ a ma (fun x => .val (xa x)) ρa) (hb : ∀ x, JP X B (ρa x) b (y x)) (hr : ∀ x, OpD X.K B r (xa x) (y x) (.ok ()) (fun _ => .val (.bool (bn x)))) : JT X B ρ e ma bn ρa := by
  have hb' : PE X b (fun σ H Q => ∃ x, tJ X.K B (ρa x) (.ok ()) (fun _ => .val (y x)) (fun _ => ρa x) σ H Q) := ⟨fun pins s σ H Q I ⟨x, q⟩ => (hb x).run pins s σ H Q I q⟩
  exact PT_imp (ht _ _ ha hb') fun σ H Q ⟨G, E, q⟩ => ⟨G, E, R.post_mono q fun x q1 vx G1 H1 x1 E1 => ⟨x, G1, E1.pop, fun vy G2 H2 x2 E2 => hr x G2 H2 σ (ρa x) vx vy _ E2.pop (E1.top.ex x2) E2.top fun v G3 H3 x3 E3 => ⟨_, E3.top.bl_inv, q1 G3 H3 (x1.trans (x2.trans x3)) E3.pop⟩⟩⟩
theorem jt_opR {r : R2} (ht : ∀ ta tb, PE X a ta → PE X b tb → PT X e (tTest (tOp r ta tb))) {β : Type} {x : D} {mb : R β} {xb : β → D} {ρb : β → List Slot} {bn : β → Bool} (ha : JP X B ρ a x) (hb : JE X B ρ b mb (fun y => .val (xb y)) ρb) (hr : ∀ y, OpD X.K B r x (xb y) (.ok ()) (fun _ => .val (.bool (bn y)))) : JT X B ρ e mb bn ρb :=
  PT_imp (ht _ _ ha hb) fun σ H Q ⟨G, E, q⟩ => ⟨G, E, fun vx G1 H1 x1 E1 => ⟨G1, E1.pop, R.post_mono q fun y q1 vy G2 H2 x2 E2 => hr y G2 H2 σ (ρb y) vx vy _ E2.pop (E1.top.ex x2) E2.top fun v G3 H3 x3 E3 => ⟨_, E3.top.bl_inv, q1 G3 H3 (x1.trans (x2.trans x3)) E3.pop⟩⟩⟩
theorem ja_el {α : Type} {ma : R α} {xa : α → D} {ρa : α → List Slot} {as : α → List Ar} (h : JE X B ρ e ma (fun x => .val (xa x)) ρa) (t : ∀ x, JA X B (ρa x) es (.ok ()) (fun _ => as x) (fun _ => ρa x)) (hst : starEach (e :: es) X.env = (false, eval e X.env) :: starEach es X.env := by rfl) :
    JA X B ρ (e :: es) ma (fun x => .val (xa x) :: as x) ρa := by
  have t' : PA X es (fun σ H Q => ∃ x, tJA X.K B (ρa x) (.ok ()) (fun _ => as x) (fun _ => ρa x) σ H Q) := ⟨fun pos pins s σ H Q I ⟨x, q⟩ => (t x).run pos pins s σ H Q I q⟩
  exact PA_imp (pa_cons h t' hst) fun σ H Q ⟨G, E, q⟩ => ⟨G, E, R.post_mono q fun x k v G1 H1 x1 E1 => ⟨x, G1, E1.pop, fun vs G2 H2 x2 E2 ok => k _ G2 H2 (x1.trans x2) E2 (.val (E1.top.ex x2) ok)⟩⟩
theorem je_cbN {E0 : Expr} {r : List V → Hp → VK → Prop} (hp : ∀ t, PA X es t → PE X E0 (tCB r t)) {β : Type} {ma : R β} {as : β → List Ar} {ρa : β → List Slot} {s : β → Slot} (ha : JA X B ρ es ma as ρa) (hr : ∀ x, CbD X.K B (ρa x) r (as x) (.ok ()) (fun _ => s x)) :
    JE X B ρ E0 ma s ρa :=
  PE_imp (hp _ ha) fun σ H Q ⟨G, E, q⟩ => ⟨G, E, R.post_mono q fun x q1 vs G1 H1 x1 E1 ok => hr x G1 H1 σ vs Q E1 ok fun v G2 H2 x2 E2 => q1 v G2 H2 (x1.trans x2) E2⟩
theorem od_mulC {K : PySem.W.Frag} {i j : Int} (h : CMul i j := by first | exact .inl (by decide) | exact .inr (by decide)) : OpD K B (rI CMul fun i j => .int (i * j)) (.int i) (.int j) (.ok ()) (fun _ => .val (.int (i * j))) :=
  od_val0 (fun G H vx vy Q _ hx hy q => ⟨i, j, hx.int_inv, hy.int_inv, h, q⟩) fun _ => .int _
theorem od_modC {K : PySem.W.Frag} {i j : Int} (h : 0 < j := by decide) : OpD K B (rI (fun _ j => 0 < j) fun i j => .int (i % j)) (.int i) (.int j) (.ok ()) (fun _ => .val (.int (i % j))) :=
  od_val0 (fun G H vx vy Q _ hx hy q => ⟨i, j, hx.int_inv, hy.int_inv, h, q⟩) fun _ => .int _
theorem od_fdivC {K : PySem.W.Frag} {i j : Int} (h : 0 < j ∧ j < 1073741824 := by decide) : OpD K B (rI CDiv fun i j => .int (i / j)) (.int i) (.int j) (.ok ()) (fun _ => .val (.int (i / j))) :=
  od_val0 (fun G H vx vy Q _ hx hy q => ⟨i, j, hx.int_inv, hy.int_inv, h, q⟩) fun _ => .int _
theorem od_powC {K : PySem.W.Frag} {i j : Int} (h : CPow i j := by decide) : OpD K B (rI CPow fun i j => .int (i ^ j.toNat)) (.int i) (.int j) (.ok ()) (fun _ => .val (.int (i ^ j.toNat))) :=
  od_val0 (fun G H vx vy Q _ hx hy q => ⟨i, j, hx.int_inv, hy.int_inv, h, q⟩) fun _ => .int _
theorem cb_lenP2 {K : PySem.W.Frag} {α β : Type} {f : α → D} {g : β → D} {p : α × β} : CbD K B ρ (fun xs H Q => ∃ p ys, xs = [.ref p] ∧ (SqL K H p ys ∨ SqT K H p ys) ∧ Q (.int ys.length) H) [.val (eP2 f g p)] (.ok ()) (fun _ => .val (.int 2)) := cb_lenT (ds := [f p.1, g p.2])
section
variable {CX : CXT} {k : Nat} {f : Addr} {fd : FuncData} {ps : List Str} {EE : XK} {x : Str} {p : Pos}
theorem je_callV {α β : Type} {ins : α → List Slot} {mf : α → R β} {sl : β → Slot} {outs : β → List Slot} (F : FnG X.prog X.w X.K X.mg X.base CX k f fd ps (spM X.K ins mf sl outs)) (hr : RoomG k X.A) (hg : Gl X x) (hm : X.mg x = some (.ref f)) (hk : PySem.W.keepIn X.K (.ref f) = true)
    (hb : Binds X.K fd ps []) (hx : Passes CX X EE) {as : List Ar} (arg : α) (ha : JA X B ρ (e :: es) (.ok ()) (fun _ => as) (fun _ => ρ)) (hne : ∀ e, ¬ B.rs e) (hi : goodIn ρ as = true := by rfl) (hins : insAt 0 ρ as = ins arg := by rfl)
    (ho : ∀ b, goodOut 0 as (outs b) = true := by intro _; rfl) (hal : aliOk ρ as = true := by rfl) (hres : ∀ b, resOk (sl b) = true := by intro _; rfl) (hns : noSlots as = true := by rfl)
    (hdb : (x == ("__debug__" : Str)) = false := by decide) (he : starEach (e :: es) X.env = (false, eval e X.env) :: starEach es X.env := by rfl) (hpl : (backTo pos (starEach es X.env)).any (·.1) = false := by rfl) :
    JE X B ρ (.Call (.Name x p) (e :: es) [] pos) (mf arg) sl (fun _ => ρ) := by
  have := je_callP (pos := pos) (p := p) F hr hg hm hk hb hx arg ha hne hi hins ho hal hres hdb he hpl
  simp only [backAt_noSlots hns, movedAt_noSlots hns] at this
  exact this
theorem je_callVE {α β γ : Type} {ins : α → List Slot} {mf : α → R β} {sl : β → Slot} {outs : β → List Slot} (F : FnG X.prog X.w X.K X.mg X.base CX k f fd ps (spM X.K ins mf sl outs)) (hr : RoomG k X.A) (hg : Gl X x) (hm : X.mg x = some (.ref f)) (hk : PySem.W.keepIn X.K (.ref f) = true)
    (hb : Binds X.K fd ps []) (hx : Passes CX X EE) {ma : R γ} {as : γ → List Ar} {ρa : γ → List Slot} (arg : γ → α) (ha : JA X B ρ (e :: es) ma as ρa) (hne : ∀ e, ¬ B.rs e) (hi : ∀ c, goodIn (ρa c) (as c) = true := by intro _; rfl) (hins : ∀ c, insAt 0 (ρa c) (as c) = ins (arg c) := by intro _; rfl)
    (ho : ∀ c b, goodOut 0 (as c) (outs b) = true := by intro _ _; rfl) (hal : ∀ c, aliOk (ρa c) (as c) = true := by intro _; rfl) (hres : ∀ b, resOk (sl b) = true := by intro _; rfl) (hns : ∀ c, noSlots (as c) = true := by intro _; rfl)
    (hdb : (x == ("__debug__" : Str)) = false := by decide) (he : starEach (e :: es) X.env = (false, eval e X.env) :: starEach es X.env := by rfl) (hpl : (backTo pos (starEach es X.env)).any (·.1) = false := by rfl) :
    JE X B ρ (.Call (.Name x p) (e :: es) [] pos) (ma.bind fun c => (mf (arg c)).bind fun b => .ok (c, b)) (fun y => sl y.2) (fun y => ρa y.1) := by
  have := je_call (pos := pos) (p := p) F hr hg hm hk hb hx arg ha hne hi hins ho hal hres hdb he hpl
  simp only [backAt_noSlots (hns _), movedAt_noSlots (hns _)] at this
  exact this
end
end
theorem law_sp {K : PySem.W.Frag} {H : Hp} {a : Addr} {ns : List Int} {E : XK} (hS : SqL K H a (ns.map V.int)) {ins : List Int → List Slot} {m : List Int → R Bool} {sl : Bool → Slot} {outs : Bool → List Slot} (hm : m ns = .ok true) (hi : ins ns = [.val (.scr ns)] := by rfl) (hs : sl true = .val (.bool true) := by rfl) :
    spM K ins m sl outs [.ref a] H (fun v _ => v = .bl true) E := by
  refine ⟨ns, H, [], ⟨⟨fun x o _ e => e, fun x l m => ?_, Ex.refl H, fun x _ e => .inl e, Ex.refl H⟩, ⟨[], ?_, List.nodup_nil, fun _ m => nomatch m⟩, ?_, fun i j p e => ?_⟩, ?_⟩
  · cases l with
    | zero => exact nomatch m
    | succ l => exact nomatch m
  · rw [hi]
    exact .cons (A := []) (.val (.scr hS)) .nil
  · rw [hi]
    rfl
  · rw [hi] at e
    cases i with
    | zero => cases e
    | succ i => cases e
  · rw [hm]
    intro v G' H' E'
    rw [hs] at E'
    exact E'.top.bl_inv
end DL
namespace DL
open PySem PySem.Spec L2
def tJN (K : PySem.W.Frag) (B : Base) (ρ : List Slot) (d : D) (ts : List Nat) (ρ' : List Slot) : TG := fun v σ H Q =>
  ∃ G, En K B G H σ ρ [] ∧ Rp K G v d ∧ ∀ σ', (∀ i, i ∉ ts → σ'[i]? = σ[i]?) → σ'.length = σ.length → En K B G H σ' ρ' [] → Q σ' H
def JN (X : Cx) (B : Base) (ρ : List Slot) (tg : Expr) (d : D) (ts : List Nat) (ρ' : List Slot) : Prop := PG X tg (tJN X.K B ρ d ts ρ')
def tJNs (K : PySem.W.Frag) (B : Base) (ρ : List Slot) (ds : List D) (ts : List Nat) (ρ' : List Slot) : TGs := fun vs σ H Q =>
  ∃ G, En K B G H σ ρ [] ∧ RpAll K G vs ds ∧ ∀ σ', (∀ i, i ∉ ts → σ'[i]? = σ[i]?) → σ'.length = σ.length → En K B G H σ' ρ' [] → Q σ' H
def JNs (X : Cx) (B : Base) (ρ : List Slot) (es : List Expr) (ds : List D) (ts : List Nat) (ρ' : List Slot) : Prop := PGs X es (tJNs X.K B ρ ds ts ρ')
section
variable {X : Cx} {B : Base} {ρ : List Slot} {pos : Pos} {e : Expr}
theorem jn_name (i : Nat) {x : Str} {d : D} (hN : X.N.Nodup) (hi : X.N[i]? = some x := by rfl) (hx : Loc X.env.scope x := by first | exact Or.inl rfl | exact Or.inr rfl) (hf : X.fn x = true ∨ X.env.scope.names.lookup x = some .local := by first | exact .inl rfl | exact .inr rfl)
    (hlt : i < ρ.length := by exact of_decide_eq_true rfl) (hal : noAli i ρ = true := by rfl) : JN X B ρ (.Name x pos) d [i] (ρ.set i (.val d)) :=
  PG_imp (pg_name (i := i) hN hi hx hf) fun v σ H Q ⟨G, E, r, q⟩ => q (σ.set i (some v)) (fun j hj => by
    rw [List.getElem?_set_ne (fun z => hj (by rw [z]; exact List.mem_singleton.mpr rfl))]) (by rw [List.length_set]) ((E.push r).set hlt (fun _ _ z => nomatch z) hal)
theorem jns_nil : JNs X B ρ [] [] [] ρ := PGs_imp pgs_nil fun vs σ H Q ⟨G, E, r, q⟩ => by
  cases r
  exact ⟨rfl, q σ (fun _ _ => rfl) rfl E⟩
theorem jns_cons {es : List Expr} {d : D} {ds : List D} {ts ts2 : List Nat} {ρ1 ρ2 : List Slot} (h : JN X B ρ e d ts ρ1) (t : JNs X B ρ1 es ds ts2 ρ2)
    (hs : (assignEach (e :: es) X.env).map (·.2) = assign e X.env :: (assignEach es X.env).map (·.2) := by rfl) : JNs X B ρ (e :: es) (d :: ds) (ts ++ ts2) ρ2 := by
  refine PGs_imp (pgs_cons h t hs) fun vs σ H Q ⟨G, E, r, q⟩ => ?_
  cases r with
  | cons r rr => exact ⟨_, _, rfl, G, E, r, fun σ' h1 l1 E' => ⟨G, E', rr, fun σ2 h2 l2 E2 => q σ2 (fun i hi => by
      have hi' : i ∉ ts ∧ i ∉ ts2 := by
        constructor
        · exact fun z => hi (List.mem_append_left _ z)
        · exact fun z => hi (List.mem_append_right _ z)
      rw [h2 i hi'.2, h1 i hi'.1]) (l2.trans l1) E2⟩⟩
theorem jn_tup {es : List Expr} {k : Nat} {ds : List D} {ts : List Nat} {ρ' : List Slot} (hc : X.calm = true) (h : JNs X B ρ es ds ts ρ') (hn : (assignEach es X.env).length = ds.length := by rfl) (hst : (assignEach es X.env).findIdx? (·.1) = none := by rfl) : JN X B ρ (.Tuple es k pos) (.tuple ds) ts ρ' :=
  PG_imp (pg_tup (n := ds.length) hc h hn hst) fun v σ H Q ⟨G, E, r, q⟩ => by
    obtain ⟨a, xs, rfl, hS, hr⟩ := r.tup_inv
    exact ⟨a, xs, rfl, E.sub.t hS, hr.len, G, E, hr, q⟩
end
def blot : Nat → List Nat → List Slot → List Slot
  | _, _, [] => []
  | n, vs, s :: ρ => (if vs.contains n then .non else s) :: blot (n + 1) vs ρ
def unblot : Nat → List Nat → List Slot → List Slot → List Slot
  | n, vs, s :: ρ, t :: ρ2 => (if vs.contains n then s else t) :: unblot (n + 1) vs ρ ρ2
  | _, _, _, _ => []
def isPlain : Slot → Bool
  | .non => true
  | .val _ => true
  | .own _ _ => false
  | .ali _ _ => false
def plainAt : Nat → List Nat → List Slot → Bool
  | _, _, [] => true
  | n, vs, s :: ρ => (if vs.contains n then isPlain s else true) && plainAt (n + 1) vs ρ
section
variable {K : PySem.W.Frag} {B : Base} {G G' H H' : Hp}
theorem Cells.blot : ∀ {σ σ2 : L2.St} {ρ : List Slot} {A : List Addr} (n : Nat) (vs : List Nat), Cells K B G H σ ρ A → plainAt n vs ρ = true → σ2.length = σ.length → (∀ i, (n + i) ∉ vs → σ2[i]? = σ[i]?) → Cells K B G H σ2 (blot n vs ρ) A
  | _, σ2, _, _, n, vs, .nil, _, hl, _ => by
    cases σ2 with
    | nil => exact .nil
    | cons a b => cases hl
  | _, σ2, _, _, n, vs, .cons (s := s) (A := A1) c r, hp, hl, hk => by
    cases σ2 with
    | nil => cases hl
    | cons y σ2 =>
      rw [plainAt, Bool.and_eq_true] at hp
      have r' := Cells.blot (n + 1) vs r hp.2 (by simpa using hl) (σ2 := σ2) (fun i hi => by
        have := hk (i + 1) (by rw [show n + (i + 1) = n + 1 + i by omega]; exact hi)
        simpa using this)
      rw [DL.blot]
      by_cases hc : vs.contains n = true
      · rw [if_pos hc]
        have h1 := hp.1
        rw [if_pos hc] at h1
        have e : A1 = [] := by
          cases c with
          | non => rfl
          | val _ => rfl
          | own _ _ _ => simp [isPlain] at h1
          | ali => rfl
        subst e
        exact .cons .non r'
      · rw [if_neg hc]
        have := hk 0 (by
          intro z
          exact hc (List.contains_iff_mem.mpr (by simpa using z)))
        simp at this
        rw [this]
        exact .cons c r'
theorem Cells.unblot {B0 : Base} : ∀ {σ σ2 : L2.St} {ρ ρ2 : List Slot} {A A0 : List Addr} (n : Nat) (vs : List Nat), Cells K B0 G H σ ρ A0 → Ex G G' → Cells K B G' H' σ2 ρ2 A → plainAt n vs ρ = true → plainAt n vs ρ2 = true → (∀ i, (n + i) ∉ vs → σ2[i]? = σ[i]?) → σ2.length = σ.length → Cells K B G' H' σ (unblot n vs ρ ρ2) A
  | _, σ2, _, _, A, _, n, vs, .nil, _, c2, _, _, _, hl => by
    cases c2 with
    | nil => exact .nil
    | cons _ _ => cases hl
  | _, σ2, _, _, A, _, n, vs, .cons (s := s) (A := A1) c r, e, c2, hp, hp2, hk, hl => by
    cases c2 with
    | nil => cases hl
    | @cons y t B1 σ2 ρ2 B2 d r2 =>
      rw [plainAt, Bool.and_eq_true] at hp hp2
      have r' := Cells.unblot (n + 1) vs r e r2 hp.2 hp2.2 (fun i hi => by
        have := hk (i + 1) (by rw [show n + (i + 1) = n + 1 + i by omega]; exact hi)
        simpa using this) (by simpa using hl)
      rw [DL.unblot]
      by_cases hc : vs.contains n = true
      · rw [if_pos hc]
        have h1 := hp.1
        have h2 := hp2.1
        rw [if_pos hc] at h1 h2
        have e2 : B1 = [] := by
          cases d with
          | non => rfl
          | val _ => rfl
          | own _ _ _ => simp [isPlain] at h2
          | ali => rfl
        subst e2
        cases c with
        | non => exact .cons .non r'
        | val h => exact .cons (.val (h.ex e)) r'
        | own _ _ _ => simp [isPlain] at h1
        | ali => simp [isPlain] at h1
      · rw [if_neg hc]
        have := hk 0 (by
          intro z
          exact hc (List.contains_iff_mem.mpr (by simpa using z)))
        simp at this
        rw [← this]
        exact .cons d r'
theorem blot_len : ∀ (n : Nat) (vs : List Nat) (ρ : List Slot), (blot n vs ρ).length = ρ.length
  | _, _, [] => rfl
  | n, vs, s :: ρ => by rw [blot, List.length_cons, List.length_cons, blot_len]
theorem unblot_len : ∀ (n : Nat) (vs : List Nat) (ρ ρ2 : List Slot), ρ2.length = ρ.length → (unblot n vs ρ ρ2).length = ρ.length
  | _, _, [], [], _ => rfl
  | n, vs, s :: ρ, t :: ρ2, h => by rw [unblot, List.length_cons, List.length_cons, unblot_len _ _ _ _ (by simpa using h)]
theorem blot_noAli : ∀ {ρ : List Slot} (n : Nat) (vs : List Nat), noAlis ρ = true → noAlis (blot n vs ρ) = true
  | [], _, _, _ => rfl
  | s :: ρ, n, vs, h => by
    rw [blot]
    have h' : noAlis ρ = true := by
      cases s <;> simp [noAlis] at h <;> exact h
    by_cases hc : vs.contains n = true
    · rw [if_pos hc]
      exact blot_noAli (n + 1) vs h'
    · rw [if_neg hc]
      cases s with
      | non => exact blot_noAli (n + 1) vs h'
      | val _ => exact blot_noAli (n + 1) vs h'
      | own _ _ => exact blot_noAli (n + 1) vs h'
      | ali _ _ => simp [noAlis] at h
theorem unblot_noAli : ∀ {ρ ρ2 : List Slot} (n : Nat) (vs : List Nat), noAlis ρ = true → noAlis ρ2 = true → noAlis (unblot n vs ρ ρ2) = true
  | [], [], _, _, _, _ => rfl
  | [], _ :: _, _, _, _, _ => rfl
  | _ :: _, [], _, _, _, _ => rfl
  | s :: ρ, t :: ρ2, n, vs, h, h2 => by
    rw [unblot]
    have h' : noAlis ρ = true := by
      cases s <;> simp [noAlis] at h <;> exact h
    have h2' : noAlis ρ2 = true := by
      cases t <;> simp [noAlis] at h2 <;> exact h2
    by_cases hc : vs.contains n = true
    · rw [if_pos hc]
      cases s with
      | non => exact unblot_noAli (n + 1) vs h' h2'
      | val _ => exact unblot_noAli (n + 1) vs h' h2'
      | own _ _ => exact unblot_noAli (n + 1) vs h' h2'
      | ali _ _ => simp [noAlis] at h
    · rw [if_neg hc]
      cases t with
      | non => exact unblot_noAli (n + 1) vs h' h2'
      | val _ => exact unblot_noAli (n + 1) vs h' h2'
      | own _ _ => exact unblot_noAli (n + 1) vs h' h2'
      | ali _ _ => simp [noAlis] at h2
theorem En.inB {σ σ2 : L2.St} {ρ : List Slot} (E : En K B G H σ ρ []) (vs : List Nat) (hp : plainAt 0 vs ρ = true) (ha : noAlis ρ = true) (hl : σ2.length = σ.length) (hk : ∀ i, i ∉ vs → σ2[i]? = σ[i]?) : En K B G H σ2 (blot 0 vs ρ) [] := by
  obtain ⟨A, c, n, f⟩ := E.own
  exact ⟨E.anc, ⟨A, Cells.blot 0 vs (show Cells K B G H σ ρ A from c) hp hl (fun i hi => hk i (by simpa using hi)), n, f⟩, by rw [blot_len, hl, E.len], fun i j p e => absurd e (noAlis_get (blot_noAli 0 vs ha))⟩
theorem En.outB {B0 : Base} {σ σ2 : L2.St} {ρ ρ2 : List Slot} (E : En K B0 G H σ ρ []) (E2 : En K B G' H' σ2 ρ2 []) (e : Ex G G') (vs : List Nat) (hp : plainAt 0 vs ρ = true) (hp2 : plainAt 0 vs ρ2 = true) (ha : noAlis ρ = true) (ha2 : noAlis ρ2 = true) (hk : ∀ i, i ∉ vs → σ2[i]? = σ[i]?) (hl : σ2.length = σ.length) : En K B G' H' σ (unblot 0 vs ρ ρ2) [] := by
  obtain ⟨A0, c0, _, _⟩ := E.own
  obtain ⟨A, c, n, f⟩ := E2.own
  refine ⟨E2.anc, ⟨A, Cells.unblot 0 vs (show Cells K B0 G H σ ρ A0 from c0) e (show Cells K B G' H' σ2 ρ2 A from c) hp hp2 (fun i hi => hk i (by simpa using hi)) hl, n, f⟩, ?_, fun i j p e => absurd e (noAlis_get (unblot_noAli 0 vs ha ha2))⟩
  rw [unblot_len _ _ _ _ (by rw [← E2.len, hl, E.len])]
  exact E.len
def Base.hide (B : Base) (p : Addr) (o : HO) : Base := { B with H0 := fun a => if a = p then some o else B.H0 a }
theorem En.noMo {σ : L2.St} {ρ : List Slot} {ex : List (V × Slot)} {p : Addr} (E : En K B G H σ ρ ex) (hp : H p = none) : (∀ l, p ∉ B.Mo l) ∧ B.H0 p = none := ⟨fun l m => E.anc.there p l m hp, E.fresh hp⟩
theorem En.hideIn {σ : L2.St} {ρ : List Slot} {p : Addr} {ds : List D} (E : En K B G H σ ρ [(.ref p, .own 0 (.lst (ds.map OT.dat)))]) (hm : ∀ l, p ∉ B.Mo l) (h0 : B.H0 p = none) : ∃ vs, H p = some (.lst vs) ∧ RpAll K G vs ds ∧ En K (B.hide p (.lst vs)) G H σ ρ [] := by
  obtain ⟨A, c, n, f⟩ := E.own
  cases c with
  | @cons _ _ A1 _ _ A2 c1 cr =>
    cases c1 with
    | own hO hr hv =>
      cases hO with
      | @lst _ ws _ A3 hH hall =>
        obtain ⟨e3, r⟩ := own_dats_inv hall
        subst e3
        have hG : G p = none := f p (by simp)
        have hn : p ∉ A2 := (List.nodup_cons.mp n).1
        refine ⟨ws, hH, r, ⟨⟨fun a o ha e => ?_, E.anc.there, E.anc.gsub, fun a e1 e2 => ?_, E.anc.sub⟩, ⟨A2, ?_, (List.nodup_cons.mp n).2, fun a m => f a (List.mem_cons_of_mem _ m)⟩, E.len, E.ali⟩⟩
        · have e : (if a = p then some (HO.lst ws) else B.H0 a) = some o := e
          by_cases hap : a = p
          · rw [if_pos hap] at e
            rw [hap, hH]
            exact e
          · rw [if_neg hap] at e
            exact E.anc.keep a o ha e
        · by_cases hap : a = p
          · rw [hap]
            exact .inl hG
          · have e1 : (if a = p then some (HO.lst ws) else B.H0 a) ≠ none := e1
            rw [if_neg hap] at e1
            exact E.anc.gnew a e1 e2
        · have gen : ∀ {σ : L2.St} {ρ : List Slot} {A : List Addr}, Cells K B G H σ ρ A → p ∉ A → Cells K (B.hide p (.lst ws)) G H σ ρ A := by
            intro σ ρ A h
            induction h with
            | nil => exact fun _ => .nil
            | cons c r ih =>
              intro hn
              refine .cons ?_ (ih fun z => hn (List.mem_append_right _ z))
              cases c with
              | non => exact .non
              | val h => exact .val h
              | ali => exact .ali
              | own h l v =>
                refine .own h (fun a m => (l a m).imp id fun z => ?_) v
                show (if a = p then _ else B.H0 a) = none
                rw [if_neg fun e => hn (List.mem_append_left _ (by rw [← e]; exact m))]
                exact z
          exact gen (show Cells K B G H σ ρ A2 from cr) hn
theorem En.hideOut {σ : L2.St} {ρ : List Slot} {p : Addr} {vs : List V} {ds : List D} (E : En K (B.hide p (.lst vs)) G H σ ρ []) (hm : ∀ l, p ∉ B.Mo l) (h0 : B.H0 p = none) (hG0 : B.G0 p = none) (r : RpAll K G vs ds) (ha : noAlis ρ = true) : H p = some (.lst vs) ∧ G p = none ∧
    ∀ (vs' : List V) (ds' : List D), RpAll K G vs' ds' → En K B G (upd H p (.lst vs')) σ ρ [(.ref p, .own 0 (.lst (ds'.map OT.dat)))] := by
  have hH : H p = some (.lst vs) := E.anc.keep p _ hm (by
    show (if p = p then some (HO.lst vs) else B.H0 p) = _
    rw [if_pos rfl])
  have hG : G p = none := E.anc.gnone (by
    show (if p = p then some (HO.lst vs) else B.H0 p) ≠ none
    rw [if_pos rfl]
    exact fun z => nomatch z) hG0 (fun xs z => by rw [hH] at z; cases z)
  refine ⟨hH, hG, fun vs' ds' r' => ?_⟩
  obtain ⟨A, c, n, f⟩ := E.own
  have hn : p ∉ A := by
    intro m
    rcases Cells.region (show Cells K _ G H σ ρ A from c) p m with ⟨l, z⟩ | z
    · exact hm l z
    · have z : (if p = p then some (HO.lst vs) else B.H0 p) = none := z
      rw [if_pos rfl] at z
      cases z
  have gen : ∀ {σ : L2.St} {ρ : List Slot} {A : List Addr}, Cells K (B.hide p (.lst vs)) G H σ ρ A → p ∉ A → Cells K B G (upd H p (.lst vs')) σ ρ A := by
    intro σ ρ A h
    induction h with
    | nil => exact fun _ => .nil
    | cons c r ih =>
      intro hn
      refine .cons ?_ (ih fun z => hn (List.mem_append_right _ z))
      cases c with
      | non => exact .non
      | val h => exact .val h
      | ali => exact .ali
      | own h l v =>
        have hA := fun z => hn (List.mem_append_left _ z)
        refine .own (h.ex (Ex.refl _) fun a m u e => ?_) (fun a m => (l a m).imp id fun z => ?_) v
        · rw [upd_ne (fun z => hA (by rw [← z]; exact m))]
          exact e
        · have z : (if a = p then some (HO.lst vs) else B.H0 a) = none := z
          by_cases hap : a = p
          · rw [if_pos hap] at z
            cases z
          · rw [if_neg hap] at z
            exact z
  refine ⟨⟨fun a o ha e => ?_, fun a l m => ?_, E.anc.gsub, fun a e1 e2 => ?_, fun a o e => ?_⟩, ⟨p :: A, .cons (A := [p]) (.own (.lst upd_same (own_dats r')) (fun a m => .inr ?_) (.inl rfl)) (gen (show Cells K _ G H σ ρ A from c) hn), List.nodup_cons.mpr ⟨hn, n⟩, fun a m => ?_⟩, E.len, fun i j q e => ?_⟩
  · have hap : a ≠ p := fun z => by
      rw [z, h0] at e
      cases e
    rw [upd_ne hap]
    refine E.anc.keep a o ha ?_
    show (if a = p then some (HO.lst vs) else B.H0 a) = _
    rw [if_neg hap]
    exact e
  · have hap : a ≠ p := fun z => hm l (by rw [← z]; exact m)
    rw [upd_ne hap]
    exact E.anc.there a l m
  · by_cases hap : a = p
    · exact .inl (by rw [hap]; exact hG)
    · rw [upd_ne hap]
      refine E.anc.gnew a ?_ e2
      show (if a = p then some (HO.lst vs) else B.H0 a) ≠ none
      rw [if_neg hap]
      exact e1
  · rw [upd_ne (ne_of_none e hG)]
    exact E.anc.sub a o e
  · rw [List.mem_singleton.mp m]
    exact h0
  · rcases List.mem_cons.mp m with rfl | m
    · exact hG
    · exact f a m
  · exact absurd e (noAlis_get ha)
end
theorem upd_id {H : Hp} {p : Addr} {o : HO} (h : H p = some o) : upd H p o = H := by
  funext a
  by_cases ha : a = p
  · subst ha
    rw [upd_same, h]
  · rw [upd_ne ha]
def compR {α S γ : Type} (f : α → S → R (Option γ × S)) : List α → List γ → S → R (List γ × S)
  | [], acc, s => .ok (acc, s)
  | x :: xs, acc, s => (f x s).bind fun p => compR f xs (match p.1 with | some v => acc ++ [v] | none => acc) p.2
def compF {α S δ ε γ : Type} (c : α → S → R δ) (bn : δ → Bool) (me : α → S → R ε) (v : ε → γ) (st : ε → S) (x : α) (s : S) : R (Option γ × S) :=
  (c x s).bind fun d => if bn d = true then (me x s).bind fun y => .ok (some (v y), st y) else .ok (none, s)
def JTs (X : Cx) (B : Base) (ρ : List Slot) (es : List Expr) {β : Type} (m : R β) (bn : β → Bool) : Prop := PTs X es (tJT X.K B ρ m bn fun _ => ρ)
section
variable {X : Cx} {B : Base} {ρ : List Slot} {pos : Pos} {e a b tg it elt : Expr}
theorem jts_nil : JTs X B ρ [] (.ok ()) (fun _ => true) := ⟨fun pins s σ H Q I ⟨G, E, q⟩ => pts_nil.run pins s σ H Q I (q G H (Ex.refl G) E)⟩
theorem jts_one {β : Type} {m : R β} {bn : β → Bool} (h : JT X B ρ e m bn (fun _ => ρ)) : JTs X B ρ [e] m bn := pts_one h
abbrev Blk (X : Cx) (sc : Scope) (P : Cx → Prop) : Prop := ∀ (s : Shared) (H : Hp) (C : Addr) (cl : List (Str × Addr)) (fp : List Addr), P (X.blk s H sc (compEnvC sc cl C X.env) fp)
theorem wipe_eq {σ σ2 : L2.St} : ∀ {vs : List Nat}, σ2.length = σ.length → (∀ i, i ∉ vs → σ2[i]? = σ[i]?) → wipe σ2 vs = wipe σ vs := by
  have key : ∀ (σ : L2.St) (vs : List Nat) (i : Nat), (wipe σ vs)[i]? = if i ∈ vs ∧ i < σ.length then some none else σ[i]? := by
    intro σ vs
    induction vs with
    | nil => intro i; simp [wipe]
    | cons v vs ih =>
      intro i
      rw [wipe]
      by_cases hv : v = i
      · subst hv
        by_cases hl : v < σ.length
        · rw [List.getElem?_set_self (by rw [wipe_length]; exact hl), if_pos ⟨List.mem_cons_self, hl⟩]
        · rw [List.getElem?_eq_none (by rw [List.length_set, wipe_length]; omega), if_neg (fun z => hl z.2), List.getElem?_eq_none (by omega)]
      · rw [List.getElem?_set_ne hv, ih]
        have : (i ∈ v :: vs) ↔ i ∈ vs := by
          constructor
          · intro z
            rcases List.mem_cons.mp z with z | z
            · exact absurd z.symm hv
            · exact z
          · exact List.mem_cons_of_mem _
        simp only [this]
  intro vs hl hk
  apply List.ext_getElem?
  intro i
  rw [key, key, hl]
  by_cases hi : i ∈ vs
  · by_cases hlt : i < σ.length
    · rw [if_pos ⟨hi, hlt⟩, if_pos ⟨hi, hlt⟩]
    · rw [if_neg (fun z => hlt z.2), if_neg (fun z => hlt z.2), List.getElem?_eq_none (by omega), List.getElem?_eq_none (by omega)]
  · rw [if_neg (fun z => hi z.1), if_neg (fun z => hi z.1), hk i hi]
theorem tlc_of {K : PySem.W.Frag} {α S γ δ ε β0 : Type} {m : R β0} {xs : β0 → List α} {ea : α → D} {en : γ → D} {ρ1 : β0 → List Slot} {vs ts : List Nat} {ρS : S → List Slot} {s0 : β0 → S} {ρB : α → S → List Slot} {c : α → S → R δ} {bn : δ → Bool} {me : α → S → R ε} {v : ε → γ} {st : ε → S}
    (hw : ∀ b, ρ1 b = ρS (s0 b)) (hpl : ∀ s, plainAt 0 vs (ρS s) = true) (hna : ∀ s, noAlis (ρS s) = true) (hts : ∀ i ∈ ts, i ∈ vs) (hplB : ∀ x s, plainAt 0 vs (ρB x s) = true) (hnaB : ∀ x s, noAlis (ρB x s) = true) (hun : ∀ x s s', unblot 0 vs (ρS s) (ρB x s') = ρS s')
    {σ : L2.St} {H : Hp} {Q : VK}
    (q : tJ K B ρ (m.bind fun b => (R.guard ((xs b).length ≤ sizeLine)).bind fun _ => compR (compF c bn me v st) (xs b) [] (s0 b)) (fun p => .own 0 (oL en p.1)) (fun p => ρS p.2) σ H Q) :
    tLc (tJI K B ρ m (fun b => (xs b).map ea) ρ1) (fun w σ H Q => ∃ B' x s, B'.rs = B.rs ∧ tJN K B' (blot 0 vs (ρS s)) (ea x) ts (ρB x s) w σ H Q) (fun σ H Q => ∃ B' x s, B'.rs = B.rs ∧ tJT K B' (ρB x s) (c x s) bn (fun _ => ρB x s) σ H Q)
      (fun σ H Q => ∃ B' x s, B'.rs = B.rs ∧ tJ K B' (ρB x s) (me x s) (fun y => .val (en (v y))) (fun y => ρB x (st y)) σ H Q) vs σ H Q := by
  obtain ⟨G, E, q⟩ := q
  refine ⟨G, E, R.post_mono (R.post_bind.mp q) fun b q1 J G' H' xG E' Y p hp => ?_⟩
  obtain ⟨hsz, q2⟩ := R.post_guard (R.post_bind.mp q1)
  have hlen : ((xs b).map ea).length = (xs b).length := List.length_map _
  obtain ⟨hMo, hH0⟩ := E'.noMo hp
  have hG0 : B.G0 p = none := (E'.anc.gsub.trans E'.sub).back hp
  let W : Nat → Hp → Prop := fun i H1 => ∃ G1 s acc, Ex G' G1 ∧ En K B G1 H1 σ (ρS s) [(.ref p, .own 0 (oL en acc))] ∧ acc.length ≤ i ∧
    (compR (compF c bn me v st) ((xs b).drop i) acc s).post (fun r => ∀ w G2 H2, Ex G1 G2 → En K B G2 H2 σ (ρS r.2) [(w, .own 0 (oL en r.1))] → Q w H2) B.rs
  refine ⟨fun i mm H1 => mm = (xs b).length - i ∧ i ≤ (xs b).length ∧ W i H1, ⟨_, rfl, Nat.zero_le _, G', s0 b, [], Ex.refl _, ?_, Nat.le_refl _, R.post_mono q2 fun r h w G2 H2 x2 E2 => h w G2 H2 (xG.trans x2) E2⟩, ?_⟩
  · rw [hw b] at E'
    exact E'.newL (ds := []) hp .nil
  · rintro i mm H1 ⟨rfl, hi1, G1, s, acc, x1, E1, hacc, q3⟩
    by_cases hlt : i < (xs b).length
    · refine .inr ⟨Y.go i H1 (by rw [hlen]; exact hlt) (x1.trans E1.sub), fun H' => W (i + 1) H', fun H' w => ⟨_, ?_, rfl, hlt, w⟩, fun w H2 hy => ?_⟩
      · omega
      · obtain ⟨us, hus, rus, Eh⟩ := E1.hideIn hMo hH0
        have hd : ((xs b).map ea)[i]? = some (ea (xs b)[i]) := by rw [List.getElem?_map, List.getElem?_eq_getElem hlt]; rfl
        obtain ⟨G2, x2, E2, r2⟩ := Y.yld _ i G1 H1 σ (ρS s) w H2 x1 Eh hy _ hd
        rw [List.drop_eq_getElem_cons hlt, compR] at q3
        generalize hx : (xs b)[i] = x at q3 r2
        have Eb : En K _ G2 H2 (wipe σ vs) (blot 0 vs (ρS s)) [] := E2.inB vs (hpl s) (hna s) (wipe_length σ vs) fun j hj => wipe_out hj
        refine ⟨B.hide p (.lst us), x, s, rfl, G2, Eb, r2, fun σ2 h2 l2 E3 => ?_⟩
        have l2' : σ2.length = σ.length := l2.trans (wipe_length σ vs)
        have k2 : ∀ j, j ∉ vs → σ2[j]? = σ[j]? := fun j hj => by
          rw [h2 j fun z => hj (hts j z), wipe_out hj]
        refine ⟨wipe_eq l2' k2, B.hide p (.lst us), x, s, rfl, G2, E3, ?_⟩
        unfold compF at q3
        have q4 := R.post_bind.mp (R.post_bind.mp q3)
        refine R.post_mono q4 fun d q5 G3 H3 x3 E3' => ?_
        cases hbn : bn d with
        | false =>
          rw [if_neg (by decide)]
          rw [hbn, if_neg (by decide)] at q5
          have Eo := E2.outB E3' x3 vs (hpl s) (hplB x s) (hna s) (hnaB x s) k2 l2'
          rw [hun x s s] at Eo
          have x13 := x2.trans x3
          obtain ⟨g1, g2, g3⟩ := Eo.hideOut hMo hH0 hG0 (RpAll.ex x13 rus) (hna s)
          have Ef := g3 us (acc.map en) (RpAll.ex x13 rus)
          rw [upd_id g1] at Ef
          exact ⟨G3, s, acc, x1.trans x13, Ef, by omega, R.post_mono q5 fun r h w G4 H4 x4 E4 => h w G4 H4 (x13.trans x4) E4⟩
        | true =>
          rw [if_pos rfl]
          rw [hbn, if_pos rfl] at q5
          refine ⟨B.hide p (.lst us), x, s, rfl, G3, E3', R.post_mono (R.post_bind.mp q5) fun y q6 w2 G4 H4 x4 E4 => ?_⟩
          have Eo := E2.outB E4.pop (x3.trans x4) vs (hpl s) (hplB x _) (hna s) (hnaB x _) k2 l2'
          rw [hun x s (st y)] at Eo
          have x14 := x2.trans (x3.trans x4)
          obtain ⟨g1, g2, g3⟩ := Eo.hideOut hMo hH0 hG0 (RpAll.ex x14 rus) (hna _)
          have Ef := g3 (us ++ [w2]) (acc.map en ++ [en (v y)]) ((RpAll.ex x14 rus).append (.cons E4.top .nil))
          have hl : us.length = acc.length := by rw [rus.len, List.length_map]
          refine ⟨us, g1, by omega, G4, st y, acc ++ [v y], x1.trans x14, ?_, by rw [List.length_append]; simp; omega, R.post_mono q6 fun r h w G5 H5 x5 E5 => h w G5 H5 (x14.trans x5) E5⟩
          show En K B G4 _ σ _ [(_, .own 0 (.lst (((acc ++ [v y]).map en).map OT.dat)))]
          rw [List.map_append (f := en)]
          exact Ef
    · refine .inl ⟨Y.stop i H1 (by rw [hlen]; omega) (x1.trans E1.sub), ?_⟩
      rw [List.drop_eq_nil_of_le (by omega)] at q3
      exact q3 _ G1 H1 (Ex.refl _) E1
theorem je_lc {α S γ δ ε β0 : Type} {ifs : List Expr} {sc : Scope} {m : R β0} {xs : β0 → List α} {ea : α → D} {ρ1 : β0 → List Slot} (own : List (Str × Nat)) {ts : List Nat} (en : γ → D) (ρS : S → List Slot) (s0 : β0 → S) (ρB : α → S → List Slot) {c : α → S → R δ} {bn : δ → Bool} {me : α → S → R ε} (v : ε → γ) (st : ε → S)
    (hc : X.calm = true) (hN : X.N.Nodup) (hi : JI X B ρ tg it m (fun b => (xs b).map ea) ρ1) (ok : BlkOk X.N X.env.scope sc own) (hw : ∀ b, ρ1 b = ρS (s0 b))
    (hg : Blk X sc fun X' => ∀ B' : Base, B'.rs = B.rs → ∀ x s, JN X' B' (blot 0 (own.map (·.2)) (ρS s)) tg (ea x) ts (ρB x s))
    (ht : Blk X sc fun X' => ∀ B' : Base, B'.rs = B.rs → ∀ x s, JTs X' B' (ρB x s) ifs (c x s) bn)
    (he : Blk X sc fun X' => ∀ B' : Base, B'.rs = B.rs → ∀ x s, JE X' B' (ρB x s) elt (me x s) (fun y => .val (en (v y))) (fun y => ρB x (st y)))
    (hpl : ∀ s, plainAt 0 (own.map (·.2)) (ρS s) = true := by intro _; rfl) (hna : ∀ s, noAlis (ρS s) = true := by intro _; rfl) (hts : ∀ i ∈ ts, i ∈ own.map (·.2) := by decide) (hplB : ∀ x s, plainAt 0 (own.map (·.2)) (ρB x s) = true := by intro _ _; rfl)
    (hnaB : ∀ x s, noAlis (ρB x s) = true := by intro _ _; rfl) (hun : ∀ x s s', unblot 0 (own.map (·.2)) (ρS s) (ρB x s') = ρS s' := by intro _ _ _; rfl) (hs : ∀ x, foldedSetIterable it X.env x = pure x := by intro _; rfl) :
    JE X B ρ (.ListComp elt [⟨tg, it, ifs, 0⟩] sc pos) (m.bind fun b => (R.guard ((xs b).length ≤ sizeLine)).bind fun _ => compR (compF c bn me v st) (xs b) [] (s0 b)) (fun p => .own 0 (oL en p.1)) (fun p => ρS p.2) := by
  refine PE_imp (pe_lc (own := own) hc hN hi ok (fun s H C cl fp => ?_) (fun s H C cl fp => ?_) (fun s H C cl fp => ?_) hs) fun σ H Q q => tlc_of (ts := ts) (ρB := ρB) (c := c) (bn := bn) (me := me) (v := v) (st := st) hw hpl hna hts hplB hnaB hun q
  · exact ⟨fun pins s σ H v u Q I r ⟨B', x, s', h, q⟩ => (hg _ _ _ _ _ B' h x s').run pins s σ H v u Q I r q⟩
  · exact ⟨fun pins s σ H Q I ⟨B', x, s', h, q⟩ => (ht _ _ _ _ _ B' h x s').run pins s σ H Q I q⟩
  · exact ⟨fun pins s σ H Q I ⟨B', x, s', h, q⟩ => (he _ _ _ _ _ B' h x s').run pins s σ H Q I q⟩
theorem j1_setLc (i : Nat) {y : Str} {py spos : Pos} {α S γ δ ε β0 : Type} {ifs : List Expr} {sc : Scope} {m : R β0} {xs : β0 → List α} {ea : α → D} {ρ1 : β0 → List Slot} (own : List (Str × Nat)) {ts : List Nat} (en : γ → D) (ρS : S → List Slot) (s0 : β0 → S) (ρB : α → S → List Slot) {c : α → S → R δ} {bn : δ → Bool} {me : α → S → R ε} (v : ε → γ) (st : ε → S)
    (hc : X.calm = true) (hN : X.N.Nodup) (hi : JI X B ρ tg it m (fun b => (xs b).map ea) ρ1) (ok : BlkOk X.N X.env.scope sc own) (hw : ∀ b, ρ1 b = ρS (s0 b))
    (hg : Blk X sc fun X' => ∀ B' : Base, B'.rs = B.rs → ∀ x s, JN X' B' (blot 0 (own.map (·.2)) (ρS s)) tg (ea x) ts (ρB x s))
    (ht : Blk X sc fun X' => ∀ B' : Base, B'.rs = B.rs → ∀ x s, JTs X' B' (ρB x s) ifs (c x s) bn)
    (he : Blk X sc fun X' => ∀ B' : Base, B'.rs = B.rs → ∀ x s, JE X' B' (ρB x s) elt (me x s) (fun y => .val (en (v y))) (fun y => ρB x (st y)))
    (hy : X.N[i]? = some y := by rfl) (hyl : X.env.scope.names.lookup y = some .local := by rfl) (hsw : swapsWith (.ListComp elt [⟨tg, it, ifs, 0⟩] sc pos) (some (.Name y py)) spos.line X.env = pure true := by exact sw_true rfl rfl rfl (by decide +kernel))
    (hpl : ∀ s, plainAt 0 (own.map (·.2)) (ρS s) = true := by intro _; rfl) (hna : ∀ s, noAlis (ρS s) = true := by intro _; rfl) (hts : ∀ i ∈ ts, i ∈ own.map (·.2) := by decide) (hplB : ∀ x s, plainAt 0 (own.map (·.2)) (ρB x s) = true := by intro _ _; rfl)
    (hnaB : ∀ x s, noAlis (ρB x s) = true := by intro _ _; rfl) (hun : ∀ x s s', unblot 0 (own.map (·.2)) (ρS s) (ρB x s') = ρS s' := by intro _ _ _; rfl) (hs : ∀ x, foldedSetIterable it X.env x = pure x := by intro _; rfl)
    (hlt : ∀ s, i < (ρS s).length := by intro _; exact of_decide_eq_true rfl) (hal : ∀ s, noAli i (ρS s) = true := by intro _; rfl) :
    J1 X B ρ (.Assign [.Name y py] (.ListComp elt [⟨tg, it, ifs, 0⟩] sc pos) spos) (m.bind fun b => (R.guard ((xs b).length ≤ sizeLine)).bind fun _ => compR (compF c bn me v st) (xs b) [] (s0 b)) (fun p => (ρS p.2).set i (.own 0 (oL en p.1))) := by
  have h1 := ps_setLc (X := X) (i := i) (own := own) (spos := spos) (py := py) (y := y) (elt := elt) (pos := pos) (g := fun w σ H Q => ∃ B' x s, B'.rs = B.rs ∧ tJN X.K B' (blot 0 (own.map (·.2)) (ρS s)) (ea x) ts (ρB x s) w σ H Q) (tt := fun σ H Q => ∃ B' x s, B'.rs = B.rs ∧ tJT X.K B' (ρB x s) (c x s) bn (fun _ => ρB x s) σ H Q)
    (te := fun σ H Q => ∃ B' x s, B'.rs = B.rs ∧ tJ X.K B' (ρB x s) (me x s) (fun y => .val (en (v y))) (fun y => ρB x (st y)) σ H Q) hc hN hy hyl hsw hi ok
    (fun s H C cl fp => ⟨fun pins s σ H v u Q I r ⟨B', x, s', h, q⟩ => (hg _ _ _ _ _ B' h x s').run pins s σ H v u Q I r q⟩)
    (fun s H C cl fp => ⟨fun pins s σ H Q I ⟨B', x, s', h, q⟩ => (ht _ _ _ _ _ B' h x s').run pins s σ H Q I q⟩)
    (fun s H C cl fp => ⟨fun pins s σ H Q I ⟨B', x, s', h, q⟩ => (he _ _ _ _ _ B' h x s').run pins s σ H Q I q⟩) hs
  refine PS_imp h1 fun D σ H ⟨G, E, q⟩ => ?_
  show tLc _ _ _ _ _ σ H (fun x H1 => D.nx (σ.set i (some x)) H1)
  refine tlc_of (ts := ts) (ρB := ρB) (c := c) (bn := bn) (me := me) (v := v) (st := st) (en := en) (ρS := ρS) (s0 := s0) hw hpl hna hts hplB hnaB hun ⟨G, E, R.post_mono q fun p q1 w G' H' x E' => q1 _ G' H' x (E'.set (hlt _) (fun _ _ z => nomatch z) (hal _))⟩
end
end DL
namespace DL
open PySem PySem.Spec L2
theorem compR_pure {α S γ : Type} (t : α → Bool) (f : α → γ) : ∀ (xs : List α) (acc : List γ) (s : S), compR (compF (fun x (_ : S) => R.ok (t x)) (fun b => b) (fun x s => R.ok (f x, s)) Prod.fst Prod.snd) xs acc s = .ok (acc ++ (xs.filter t).map f, s)
  | [], acc, s => by rw [compR, List.filter_nil, List.map_nil, List.append_nil]
  | x :: xs, acc, s => by
    have e : compF (fun x (_ : S) => R.ok (t x)) (fun b => b) (fun x s => R.ok (f x, s)) Prod.fst Prod.snd x s = .ok (if t x = true then (some (f x), s) else (none, s)) := by
      cases h : t x <;> simp [compF, R.bind, h]
    rw [compR, e]
    cases h : t x with
    | true =>
      rw [if_pos rfl, List.filter_cons_of_pos h, List.map_cons]
      have := compR_pure t f xs (acc ++ [f x]) s
      rw [List.append_assoc] at this
      exact this
    | false =>
      rw [if_neg (by decide), List.filter_cons_of_neg (by rw [h]; decide)]
      exact compR_pure t f xs acc s
section
variable {X : Cx} {B : Base} {ρ : List Slot} {pos : Pos} {e a b tg it elt : Expr} {es : List Expr}
theorem je_pe {α : Type} {en : α → D} (v : α) (h : JP X B ρ e (en v)) : JE X B ρ e (.ok v) (fun y => .val (en y)) (fun _ => ρ) := h
theorem je_mapS {α β S : Type} {m : R β} {en : α → D} {v : β → α} {st : β → S} {ρ' : S → List Slot} (h : JE X B ρ e m (fun b => .val (en (v b))) (fun b => ρ' (st b))) : JE X B ρ e (m.bind fun b => .ok (v b, st b)) (fun p => .val (en p.1)) (fun p => ρ' p.2) :=
  PE_imp h fun σ H Q ⟨G, E, q⟩ => ⟨G, E, R.post_mono (R.post_bind.mp q) fun b k => k⟩
theorem je_lcP {α γ β0 : Type} {ifs : List Expr} {sc : Scope} {m : R β0} {xs : β0 → List α} {ea : α → D} (own : List (Str × Nat)) {ts : List Nat} (en : γ → D) (ρB : α → List Slot) (t : α → Bool) (f : α → γ)
    (hc : X.calm = true) (hN : X.N.Nodup) (hi : JI X B ρ tg it m (fun b => (xs b).map ea) (fun _ => ρ)) (ok : BlkOk X.N X.env.scope sc own)
    (hg : Blk X sc fun X' => ∀ B' : Base, B'.rs = B.rs → ∀ x, JN X' B' (blot 0 (own.map (·.2)) ρ) tg (ea x) ts (ρB x))
    (ht : Blk X sc fun X' => ∀ B' : Base, B'.rs = B.rs → ∀ x, JTs X' B' (ρB x) ifs (.ok (t x)) (fun b => b))
    (he : Blk X sc fun X' => ∀ B' : Base, B'.rs = B.rs → ∀ x, JP X' B' (ρB x) elt (en (f x)))
    (hpl : plainAt 0 (own.map (·.2)) ρ = true := by rfl) (hna : noAlis ρ = true := by rfl) (hts : ∀ i ∈ ts, i ∈ own.map (·.2) := by decide) (hplB : ∀ x, plainAt 0 (own.map (·.2)) (ρB x) = true := by intro _; rfl)
    (hnaB : ∀ x, noAlis (ρB x) = true := by intro _; rfl) (hun : ∀ x, unblot 0 (own.map (·.2)) ρ (ρB x) = ρ := by intro _; rfl) (hs : ∀ x, foldedSetIterable it X.env x = pure x := by intro _; rfl) :
    JE X B ρ (.ListComp elt [⟨tg, it, ifs, 0⟩] sc pos) (m.bind fun b => (R.guard ((xs b).length ≤ sizeLine)).bind fun _ => .ok b) (fun b => .own 0 (oL en (((xs b).filter t).map f))) (fun _ => ρ) := by
  have h := je_lc (X := X) (B := B) (ρ := ρ) (pos := pos) (S := Unit) (xs := xs) (ea := ea) (ts := ts) own en (fun _ => ρ) (fun _ => ()) (fun x _ => ρB x) (c := fun x _ => R.ok (t x)) (bn := fun b => b) (me := fun x s => R.ok (f x, s)) Prod.fst Prod.snd hc hN hi ok (fun _ => rfl)
    (fun s H C cl fp B' h x _ => hg s H C cl fp B' h x) (fun s H C cl fp B' h x _ => ht s H C cl fp B' h x) (fun s H C cl fp B' h x _ => he s H C cl fp B' h x) (fun _ => hpl) (fun _ => hna) hts (fun x _ => hplB x) (fun x _ => hnaB x) (fun x _ _ => hun x) hs
  refine PE_imp h fun σ H Q ⟨G, E, q⟩ => ⟨G, E, ?_⟩
  refine R.post_bind.mpr (R.post_mono (R.post_bind.mp q) fun b q1 => R.post_bind.mpr (R.post_mono (R.post_bind.mp q1) fun u q2 => ?_))
  rw [compR_pure]
  rw [List.nil_append]
  exact q2
variable {rest : List Expr}
end
def toPy : D → PyData
  | .none => .none
  | .bool b => .bool b
  | .int i => .int i
  | .str s => .str s
  | .list xs => .list (toPys xs)
  | .tuple xs => .tuple (toPys xs)
  | .row xs => .tuple (toPys xs)
  | .dict _ => .dict []
  | .scr ns => .list (ns.map PyData.int)
  | .key ns => .tuple (ns.map PyData.int)
  | .exn _ _ _ => .dict []
  | .ddk _ => .dict []
where toPys : List D → List PyData
  | [] => []
  | x :: xs => toPy x :: toPys xs
theorem dp_ints {K : PySem.W.Frag} {G : Hp} : ∀ ns : List Int, DpAll K G (ns.map V.int) (ns.map PyData.int)
  | [] => .nil
  | n :: ns => .cons (.int n) (dp_ints ns)
mutual
theorem Rp.dp {K : PySem.W.Frag} {G H : Hp} (e : Ex G H) : ∀ {v : V} {d : D}, Rp K G v d → (toPy d).canLay0 = true → Dp K H v (toPy d)
  | _, _, .non, _ => by
    rw [toPy]
    exact .non
  | _, _, .bl b, _ => by
    rw [toPy]
    exact .bl b
  | _, _, .int i, _ => by
    rw [toPy]
    exact .int i
  | _, _, .str x, _ => by
    rw [toPy]
    exact .str x
  | _, _, .lst h r, c => by
    rw [toPy] at c ⊢
    exact .lst (.inl (e.rd h)) (RpAll.dp e r (by simpa [PyData.canLay0] using c))
  | _, _, .tup h r, c => by
    rw [toPy] at c ⊢
    exact .tup (e.t h) (RpAll.dp e r (by simpa [PyData.canLay0] using c))
  | _, _, .row h d r, c => by
    rw [toPy] at c ⊢
    exact .tup (.inl (.inr ⟨_, e _ _ h⟩)) (RpAll.dp e r (by simpa [PyData.canLay0] using c))
  | _, _, .scr h, _ => by
    rw [toPy]
    exact .lst (e.l h) (dp_ints _)
  | _, _, .key h, _ => by
    rw [toPy]
    exact .tup (.inl (.inl (e _ _ h))) (dp_ints _)
  | _, _, .dK _ _, c => by
    rw [toPy] at c
    simp [PyData.canLay0] at c
  | _, _, .dT _ _, c => by
    rw [toPy] at c
    simp [PyData.canLay0] at c
  | _, _, .ddk _ _, c => by
    rw [toPy] at c
    simp [PyData.canLay0] at c
  | _, _, .ddt _ _, c => by
    rw [toPy] at c
    simp [PyData.canLay0] at c
  | _, _, .exn0 _ _, c => by
    rw [toPy] at c
    simp [PyData.canLay0] at c
  | _, _, .exn1 _ _ _ _, c => by
    rw [toPy] at c
    simp [PyData.canLay0] at c
  | _, _, .any _, c => by
    rw [toPy] at c
    simp [PyData.canLay0] at c
theorem RpAll.dp {K : PySem.W.Frag} {G H : Hp} (e : Ex G H) : ∀ {v : List V} {d : List D}, RpAll K G v d → PyData.canLayAll0 (toPy.toPys d) = true → DpAll K H v (toPy.toPys d)
  | _, _, .nil, _ => by
    rw [toPy.toPys]
    exact .nil
  | _, _, .cons h r, c => by
    rw [toPy.toPys] at c ⊢
    rw [PyData.canLayAll0, Bool.and_eq_true] at c
    exact .cons (Rp.dp e h c.1) (RpAll.dp e r c.2)
end
structure EqE {α : Type} [DecidableEq α] (n : Nat) (f : α → D) : Prop where
  lay : ∀ x, (toPy (f x)).canLay0 = true
  dep : ∀ x, (toPy (f x)).depth ≤ n
  eqv : ∀ x y, PyData.eqv (toPy (f x)) (toPy (f y)) = decide (x = y)
theorem EqE.shaped {α : Type} [DecidableEq α] {n : Nat} {f : α → D} (h : EqE n f) (hn : n ≤ 64) (x : α) : SeqAt.shaped (toPy (f x)) = true := by
  unfold SeqAt.shaped
  rw [h.lay x, Bool.true_and]
  exact decide_eq_true (Nat.le_trans (h.dep x) hn)
theorem ee_int : EqE 0 D.int := ⟨fun _ => by simp [toPy, PyData.canLay0], fun _ => by simp [toPy, PyData.depth], fun x y => by
  simp only [toPy, PyData.eqv]
  exact Bool.beq_eq_decide_eq ..⟩
theorem ee_bool : EqE 0 D.bool := ⟨fun _ => by simp [toPy, PyData.canLay0], fun _ => by simp [toPy, PyData.depth], fun x y => by
  simp only [toPy, PyData.eqv]
  exact Bool.beq_eq_decide_eq ..⟩
theorem ee_p2 {α β : Type} [DecidableEq α] [DecidableEq β] {n : Nat} {f : α → D} {g : β → D} (hf : EqE n f) (hg : EqE n g) : EqE (n + 1) (eP2 f g) := by
  refine ⟨fun x => ?_, fun x => ?_, fun x y => ?_⟩
  · simp [toPy, toPy.toPys, PyData.canLay0, PyData.canLayAll0, hf.lay, hg.lay]
  · have h1 := hf.dep x.1
    have h2 := hg.dep x.2
    simp [toPy, toPy.toPys, PyData.depth, PyData.depthAll]
    omega
  · obtain ⟨a, b⟩ := x
    obtain ⟨c, d⟩ := y
    simp only [toPy, toPy.toPys, PyData.eqv, PyData.eqvAll, hf.eqv, hg.eqv, Bool.and_true]
    rw [← Bool.decide_and]
    exact decide_eq_decide.mpr ⟨fun h => by rw [h.1, h.2], fun h => by
      injection h with h1 h2
      exact ⟨h1, h2⟩⟩
section
variable {α : Type} [DecidableEq α] {n : Nat} {f : α → D}
theorem ee_lay (h : EqE n f) : ∀ l : List α, PyData.canLayAll0 (toPy.toPys (l.map f)) = true
  | [] => by simp [toPy.toPys, PyData.canLayAll0]
  | x :: l => by
    rw [List.map_cons, toPy.toPys, PyData.canLayAll0, h.lay, ee_lay h l]
    rfl
theorem ee_dep (h : EqE n f) : ∀ l : List α, PyData.depthAll (toPy.toPys (l.map f)) ≤ n
  | [] => by simp [toPy.toPys, PyData.depthAll]
  | x :: l => by
    have h1 := h.dep x
    have h2 := ee_dep h l
    rw [List.map_cons, toPy.toPys, PyData.depthAll]
    omega
theorem ee_eqv (h : EqE n f) : ∀ l m : List α, PyData.eqvAll (toPy.toPys (l.map f)) (toPy.toPys (m.map f)) = decide (l = m)
  | [], [] => by simp [toPy.toPys, PyData.eqvAll]
  | [], _ :: _ => by simp [toPy.toPys, PyData.eqvAll]
  | _ :: _, [] => by simp [toPy.toPys, PyData.eqvAll]
  | x :: l, y :: m => by
    rw [List.map_cons, List.map_cons, toPy.toPys, toPy.toPys, PyData.eqvAll, h.eqv, ee_eqv h l m, ← Bool.decide_and]
    exact decide_eq_decide.mpr ⟨fun h => by rw [h.1, h.2], fun h => by
      injection h with h1 h2
      exact ⟨h1, h2⟩⟩
theorem ee_L (h : EqE n f) : EqE (n + 1) (eL f) := ⟨fun l => by
  rw [toPy, PyData.canLay0]
  exact ee_lay h l, fun l => by
  rw [toPy, PyData.depth]
  exact Nat.succ_le_succ (ee_dep h l), fun l m => by
  rw [toPy, toPy, PyData.eqv]
  exact ee_eqv h l m⟩
variable {K : PySem.W.Frag} {B : Base}
theorem od_eqD (h : EqE n f) (hn : n ≤ 64 := by decide) {x y : α} : OpD K B (rEqD K) (f x) (f y) (.ok ()) (fun _ => .val (.bool (decide (x = y)))) :=
  od_val0 (w := .bl (decide (x = y))) (fun G H vx vy Q e hx hy q => ⟨_, _, hx.dp e (h.lay x), hy.dp e (h.lay y), h.shaped hn x, h.shaped hn y, by rw [h.eqv]; exact q⟩) fun _ => .bl _
theorem od_neD (h : EqE n f) (hn : n ≤ 64 := by decide) {x y : α} : OpD K B (rNeD K) (f x) (f y) (.ok ()) (fun _ => .val (.bool (!decide (x = y)))) :=
  od_val0 (w := .bl (!decide (x = y))) (fun G H vx vy Q e hx hy q => ⟨_, _, hx.dp e (h.lay x), hy.dp e (h.lay y), h.shaped hn x, h.shaped hn y, by rw [h.eqv]; exact q⟩) fun _ => .bl _
end
section
variable {K : PySem.W.Frag} {B : Base} {ρ : List Slot}
def maxL (ns : List Int) : Int := ns.foldl max (ns.headD 0)
def minL (ns : List Int) : Int := ns.foldl min (ns.headD 0)
theorem cb_allL {bs : List Bool} : CbD K B ρ (rAll K) [.val (eL D.bool bs)] (.ok ()) (fun _ => .val (.bool (bs.all id))) :=
  cb_val0 (w := .bl (bs.all id)) (fun G H σ vs Q e ok q => by
    obtain ⟨v, rfl, r⟩ := ok.one
    obtain ⟨a, xs, rfl, hS, hr⟩ := r.lst_inv
    have hx := hr.bools
    subst hx
    exact ⟨a, bs, rfl, .inl (e.rd hS), q⟩) fun _ => .bl _
theorem cb_tupL {α : Type} {f : α → D} {xs : List α} : CbD K B ρ (fun xs H Q => ∃ p ys, xs = [.ref p] ∧ ((SqL K H p ys ∧ ∀ l, H l = none → Q (.ref l) (upd H l (.tup ys))) ∨ (SqT K H p ys ∧ Q (.ref p) H))) [.val (eL f xs)] (.ok ()) (fun _ => .val (eT f xs)) := fun G H σ vs Q E ok q => by
  obtain ⟨v, rfl, r⟩ := ok.one
  obtain ⟨a, ys, rfl, hS, hr⟩ := r.lst_inv
  refine ⟨a, ys, rfl, .inl ⟨.inl (E.sub.rd hS), fun p hp => ?_⟩⟩
  have e := Ex.new (o := HO.tup ys) (E.sub.back hp)
  exact q _ _ _ e ((E.new hp _).push (.tup (.inl (.inl upd_same)) (RpAll.ex e hr)))
theorem cb_lstT {α : Type} {f : α → D} {xs : List α} : CbD K B ρ (fun xs H Q => ∃ p ys, xs = [.ref p] ∧ (SqL K H p ys ∨ SqT K H p ys) ∧ ∀ l, H l = none → Q (.ref l) (upd H l (.lst ys))) [.val (eT f xs)] (.ok ()) (fun _ => .own 0 (oL f xs)) := fun G H σ vs Q E ok q => by
  obtain ⟨v, rfl, r⟩ := ok.one
  obtain ⟨a, ys, rfl, hS, hr⟩ := r.tup_inv
  exact ⟨a, ys, rfl, .inr (E.sub.t hS), fun p hp => q _ G _ (Ex.refl _) (E.newL hp hr)⟩
end
section
variable {X : Cx} {B : Base} {ρ : List Slot} {pos : Pos} {e : Expr}
theorem je_app (i : Nat) {x : Str} {px ap : Pos} {l l0 : Nat} {os0 : List OT} {α β : Type} {f : α → D} (xs : β → List α) {m : R β} {y : β → α} {ρ' : β → List Slot} (he : JE X B ρ e m (fun b => .val (f (y b))) ρ') (h : ∀ b, (ρ' b)[i]? = some (.own l (oL f (xs b))) := by intro _; rfl) (hal : ∀ b, noAlis (ρ' b) = true := by intro _; rfl)
    (h0 : ρ[i]? = some (.own l0 (.lst os0)) := by rfl) (hN : X.N[i]? = some x := by rfl) (hv : Vis X.env.scope x := by first | exact Or.inl rfl | exact Or.inr (Or.inl rfl) | exact Or.inr (Or.inr rfl))
    (hd : (x == ("__debug__" : Str)) = false := by decide) (hcd : (x == ("__classdict__" : Str)) = false := by decide) (hst : starEach [e] X.env = (false, eval e X.env) :: starEach [] X.env := by rfl)
    (hbase : attributeBase (.Name x px) "append" X.env (eval (.Name x px) X.env) = eval (.Name x px) X.env := by rfl)
    (hone : ((backTo pos (starEach [e] X.env)).all (fun x => !x.1) && (backToKw pos (keywordEach [] X.env)).all (fun x => x.1.isSome) && decide ([e].length + ([] : List Keyword).length + (if ([] : List Keyword).isEmpty then 0 else 1) < 30)) = true := by rfl)
    (hline : (ap.endLine == pos.line) = true := by rfl) (hnil : (backTo pos (starEach [] X.env)).any (·.1) = false := by rfl) :
    JE X B ρ (.Call (.Attribute (.Name x px) "append" ap) [e] [] pos) (m.bind fun b => (R.guard ((xs b).length < sizeLine)).bind fun _ => .ok b) (fun _ => .val .none) (fun b => (ρ' b).set i (.own l (oL f (xs b ++ [y b])))) :=
  PE_imp (pe_bm PySem.F.plainAttrs_list PySem.F.slot_list_append PySem.F.type_list_append mt_append (pv (X := X) (pos := px) i hN hv hd hcd) (pa_cons he pa_nil hst) hbase hone hline hst hnil) fun σ H Q ⟨G, E, q⟩ => by
    obtain ⟨A, c, n, g⟩ := E.own
    obtain ⟨w, A1, A2, e1, hO, hl, c2, pm⟩ := Cells.take1 (show Cells X.K B G H σ ρ A from c) h0
    cases hO with
    | @lst a vs _ A3 ha hall =>
      refine ⟨.ref a, e1, .inl ⟨rfl, _, .inl (.inl ha)⟩, G, E, R.post_mono (R.post_bind.mp q) (fun b hb => ?_)⟩
      intro v G1 H1 x1 E1
      obtain ⟨p, vs1, g1, g2, g3, g4⟩ := E1.pop.ownD (h b) (hal b)
      have ep : p = a := by
        have z := g1.symm.trans e1
        injection z with z
        injection z with z
        injection z
      subst ep
      have hlen : vs1.length = (xs b).length := by
        rw [g3.len, List.length_map]
      obtain ⟨hz, q⟩ := R.post_guard (R.post_bind.mp hb)
      refine ⟨p, vs1, v, rfl, rfl, g2, by omega, q _ G1 _ x1 ?_⟩
      have hr : RpAll X.K G1 (vs1 ++ [v]) ((xs b).map f ++ [f (y b)]) := g3.append (.cons (E1.top) .nil)
      have z := g4 G1 H1 [] (vs1 ++ [v]) ((xs b).map f ++ [f (y b)]) E1.pop (Ex.refl _) g2 hr
      have ez : (oL f (xs b ++ [y b])) = .lst (((xs b).map f ++ [f (y b)]).map OT.dat) := by rw [oL, List.map_append]; rfl
      show En X.K B G1 (upd H1 p (.lst (vs1 ++ [v]))) σ ((ρ' b).set i (.own l (oL f (xs b ++ [y b])))) [(.non, .val .none)]
      rw [ez]
      exact z.push .non
end
end DL
namespace DL
open PySem PySem.Spec L2
mutual
def Flat : D → Prop
  | .none => True
  | .bool _ => True
  | .int _ => True
  | .str _ => True
  | .tuple ds => FlatL ds
  | .row ds => FlatL ds
  | .key _ => True
  | _ => False
def FlatL : List D → Prop
  | [] => True
  | d :: ds => Flat d ∧ FlatL ds
end
mutual
def FlatO : OT → Prop
  | .dat d => Flat d
  | .lst os => FlatOL os
  | .dk kvs => ∀ p ∈ kvs, Flat p.2
  | .dt kvs => ∀ p ∈ kvs, Flat p.2
  | .tp os => FlatOL os
  | .dko _ os => FlatOL os
  | .obj _ _ os => FlatOL os
def FlatOL : List OT → Prop
  | [] => True
  | o :: os => FlatO o ∧ FlatOL os
end
theorem fl_tup {ds : List D} (h : FlatL ds) : Flat (.tuple ds) := by
  rw [Flat]
  exact h
theorem fl_lst {ds : List OT} (h : FlatOL ds) : FlatO (.lst ds) := by
  rw [FlatO]
  exact h
theorem fl_nil : FlatL [] := by
  rw [FlatL]
  trivial
theorem fl_cons {d : D} {ds : List D} (h : Flat d) (r : FlatL ds) : FlatL (d :: ds) := by
  rw [FlatL]
  exact ⟨h, r⟩
theorem fl_int (i : Int) : Flat (.int i) := by
  rw [Flat]
  trivial
theorem fl_U (i : Unit) : Flat (eU i) := by
  rw [eU, Flat]
  trivial
theorem FlatL.of {α : Type} {f : α → D} (h : ∀ x, Flat (f x)) : ∀ xs : List α, FlatL (xs.map f)
  | [] => fl_nil
  | x :: xs => fl_cons (h x) (FlatL.of h xs)
theorem FlatOL.of {α : Type} {f : α → D} (h : ∀ x, Flat (f x)) : ∀ xs : List α, FlatOL ((xs.map f).map OT.dat)
  | [] => by
    rw [List.map_nil, List.map_nil, FlatOL]
    trivial
  | x :: xs => by
    rw [List.map_cons, List.map_cons, FlatOL, FlatO]
    exact ⟨h x, FlatOL.of h xs⟩
theorem fl_T {α : Type} {f : α → D} (h : ∀ x, Flat (f x)) (xs : List α) : Flat (eT f xs) := fl_tup (FlatL.of h xs)
theorem fl_oL {α : Type} {f : α → D} (h : ∀ x, Flat (f x)) (xs : List α) : FlatO (oL f xs) := fl_lst (FlatOL.of h xs)
theorem fl_P2 {α β : Type} {f : α → D} {g : β → D} (h : ∀ x, Flat (f x)) (k : ∀ x, Flat (g x)) (p : α × β) : Flat (eP2 f g p) := fl_tup (fl_cons (h _) (fl_cons (k _) fl_nil))
def mutO : HO → Bool
  | .lst _ => true
  | .dK _ => true
  | .dT _ => true
  | .ins _ _ _ => true
  | .own _ => true
  | _ => false
section
variable {K : PySem.W.Frag} {G1 G2 H1 : Hp} {A : List Addr}
theorem SqT.less (k : ∀ a u, G1 a = some u → mutO u = false → G2 a = some u) {a : Addr} {xs : List V} (h : SqT K G1 a xs) : SqT K G2 a xs := by
  rcases h with h | h
  · rcases h with h | ⟨o, h⟩
    · exact .inl (.inl (k _ _ h rfl))
    · exact .inl (.inr ⟨o, k _ _ h rfl⟩)
  · exact .inr h
mutual
theorem Rp.less (k : ∀ a u, G1 a = some u → mutO u = false → G2 a = some u) : ∀ {v : V} {d : D}, Rp K G1 v d → Flat d → Rp K G2 v d
  | _, _, .non, _ => .non
  | _, _, .bl b, _ => .bl b
  | _, _, .int i, _ => .int i
  | _, _, .str x, _ => .str x
  | _, _, .tup h r, f => .tup (SqT.less k h) (RpAll.less k r (by rw [Flat] at f; exact f))
  | _, _, .row h d r, f => .row (k _ _ h rfl) d (RpAll.less k r (by rw [Flat] at f; exact f))
  | _, _, .key h, _ => .key (k _ _ h rfl)
  | _, _, .lst h r, f => by
    rw [Flat] at f <;> first | exact f.elim | (intros; exact D.noConfusion)
  | _, _, .scr h, f => by
    rw [Flat] at f <;> first | exact f.elim | (intros; exact D.noConfusion)
  | _, _, .dK h r, f => by
    rw [Flat] at f <;> first | exact f.elim | (intros; exact D.noConfusion)
  | _, _, .dT h r, f => by
    rw [Flat] at f <;> first | exact f.elim | (intros; exact D.noConfusion)
  | _, _, .ddk h r, f => by
    rw [Flat] at f <;> first | exact f.elim | (intros; exact D.noConfusion)
  | _, _, .ddt h r, f => by
    rw [Flat] at f <;> first | exact f.elim | (intros; exact D.noConfusion)
  | _, _, .any z, _ => .any z
theorem RpAll.less (k : ∀ a u, G1 a = some u → mutO u = false → G2 a = some u) : ∀ {v : List V} {d : List D}, RpAll K G1 v d → FlatL d → RpAll K G2 v d
  | _, _, .nil, _ => .nil
  | _, _, .cons h r, f => .cons (Rp.less k h (by rw [FlatL] at f; exact f.1)) (RpAll.less k r (by rw [FlatL] at f; exact f.2))
end
theorem RpE.less {κ : Type} (k : ∀ a u, G1 a = some u → mutO u = false → G2 a = some u) {kvs : List (κ × V)} {ds : List (κ × D)} (h : RpE K G1 kvs ds) : (∀ p ∈ ds, Flat p.2) → RpE K G2 kvs ds := by
  induction h with
  | nil => exact fun _ => .nil
  | cons h _ ih => exact fun f => .cons (h.less k (f _ List.mem_cons_self)) (ih fun p m => f p (List.mem_cons_of_mem _ m))
mutual
theorem Own.less (k : ∀ a u, G1 a = some u → mutO u = false → G2 a = some u) : ∀ {v : V} {o : OT} {A : List Addr}, Own K G1 H1 v o A → FlatO o → Own K G2 H1 v o A
  | _, _, _, .dat h, f => .dat (h.less k (by rw [FlatO] at f; exact f))
  | _, _, _, .lst h r, f => .lst h (OwnAll.less k r (by rw [FlatO] at f; exact f))
  | _, _, _, .dk h r, f => .dk h (r.less k (by rw [FlatO] at f; exact f))
  | _, _, _, .dt h r, f => .dt h (r.less k (by rw [FlatO] at f; exact f))
  | _, _, _, .tp h r, f => .tp (SqT.less k h) (OwnAll.less k r (by rw [FlatO] at f; exact f))
  | _, _, _, .dko h hk r, f => .dko h hk (OwnAll.less k r (by rw [FlatO] at f; exact f))
  | _, _, _, .obj h g n hk r, f => .obj h g n hk (OwnAll.less k r (by rw [FlatO] at f; exact f))
theorem OwnAll.less (k : ∀ a u, G1 a = some u → mutO u = false → G2 a = some u) : ∀ {v : List V} {o : List OT} {A : List Addr}, OwnAll K G1 H1 v o A → FlatOL o → OwnAll K G2 H1 v o A
  | _, _, _, .nil, _ => .nil
  | _, _, _, .cons h r, f => .cons (Own.less k h (by rw [FlatOL] at f; exact f.1)) (OwnAll.less k r (by rw [FlatOL] at f; exact f.2))
end
end
inductive BorS : Slot → Slot → Slot → Prop
  | f {s0 s1 : Slot} : BorS s0 s1 .non
  | k {d : D} : BorS (.val d) (.val d) (.val d)
  | v {s0 : Slot} {d : D} : Flat d → BorS s0 (.val d) (.val d)
  | o {s0 : Slot} {l : Nat} {o : OT} : FlatO o → BorS s0 (.own l o) (.own l o)
inductive Bor : List Slot → List Slot → List Slot → Prop
  | nil : Bor [] [] []
  | cons {s0 s1 s2 : Slot} {r0 r1 r2 : List Slot} : BorS s0 s1 s2 → Bor r0 r1 r2 → Bor (s0 :: r0) (s1 :: r1) (s2 :: r2)
def Base.lend (B : Base) (A : List Addr) : Base := { B with H0 := fun a => if a ∈ A then none else B.H0 a, Mo := fun l => (B.Mo l).filter (fun a => decide (a ∉ A)), m0 := by rw [B.m0]; rfl }
section
variable {K : PySem.W.Frag} {B B' : Base} {G G' H H' G1 G2 H1 : Hp}
theorem Cells.reb : ∀ {σ : L2.St} {ρ : List Slot} {A : List Addr}, Cells K B G H σ ρ A → (∀ l a, a ∈ A → (a ∈ B.Mo l ∨ B.H0 a = none) → (a ∈ B'.Mo l ∨ B'.H0 a = none)) → B'.pv = B.pv → Cells K B' G H σ ρ A
  | _, _, _, .nil, _, _ => .nil
  | _, _, _, .cons c r, k, e => .cons (match c with
    | .non => .non
    | .val h => .val h
    | .own h m p => .own h (fun a q => k _ a (List.mem_append_left _ q) (m a q)) (by rw [e]; exact p)
    | .ali => .ali) (Cells.reb r (fun l a q => k l a (List.mem_append_right _ q)) e)
theorem Cells.putV : ∀ {σ : L2.St} {ρ : List Slot} {A : List Addr}, Cells K B G H σ ρ A → ∀ {i : Nat} {v : V} {d : D}, ρ[i]? = some .non → σ[i]? = some (some v) → Rp K G v d → Cells K B G H σ (ρ.set i (.val d)) A
  | _, _, _, .nil, _, _, _, e, _, _ => by simp at e
  | _, _, _, .cons (A := A) c r, 0, v, d, e, e2, h => by
    simp at e e2
    subst e
    subst e2
    cases c
    exact .cons (A := []) (.val h) r
  | _, _, _, .cons c r, i + 1, v, d, e, e2, h => .cons c (Cells.putV r (by simpa using e) (by simpa using e2) h)
theorem Cells.bor (k : ∀ a u, G1 a = some u → mutO u = false → G2 a = some u) (x : Ex G G2) : ∀ {σ : L2.St} {ρ0 ρ1 ρ2 : List Slot} {A0 A : List Addr}, Cells K B G H σ ρ0 A0 → Cells K B' G1 H1 σ ρ1 A → Bor ρ0 ρ1 ρ2 → ∃ A', Cells K B' G2 H1 σ ρ2 A' ∧ A'.Sublist A
  | _, _, _, _, _, _, _, .nil, .nil => ⟨[], .nil, .refl _⟩
  | _, _, _, _, _, _, .cons c0 r0, .cons (A := A1) c1 r1, .cons s r => by
    obtain ⟨A', h1, h2⟩ := Cells.bor k x r0 r1 r
    cases s with
    | f => exact ⟨[] ++ A', .cons .non h1, h2.trans (List.sublist_append_right _ _)⟩
    | k =>
      cases c0 with
      | val h => exact ⟨[] ++ A', .cons (.val (h.ex x)) h1, h2.trans (List.sublist_append_right _ _)⟩
    | v f =>
      cases c1 with
      | val h => exact ⟨[] ++ A', .cons (.val (h.less k f)) h1, h2⟩
    | o f =>
      cases c1 with
      | own h m p => exact ⟨A1 ++ A', .cons (.own (h.less k f) m p) h1, h2.append_left _⟩
theorem Bor.len {ρ0 ρ1 ρ2 : List Slot} (h : Bor ρ0 ρ1 ρ2) : ρ2.length = ρ1.length := by
  induction h with
  | nil => rfl
  | cons s r ih => rw [List.length_cons, List.length_cons, ih]
mutual
theorem Own.thereL : ∀ {v : V} {o : OT} {A : List Addr}, Own K G H v o A → ∀ a ∈ A, ∃ u, H a = some u ∧ mutO u = true
  | _, _, _, .dat _, _, m => nomatch m
  | _, _, _, .lst h r, a, m => by
    rcases List.mem_cons.mp m with rfl | m
    · exact ⟨_, h, rfl⟩
    · exact OwnAll.thereL r a m
  | _, _, _, .dk h r, a, m => by
    rw [List.mem_singleton.mp m]
    exact ⟨_, h, rfl⟩
  | _, _, _, .dt h r, a, m => by
    rw [List.mem_singleton.mp m]
    exact ⟨_, h, rfl⟩
  | _, _, _, .tp _ r, a, m => OwnAll.thereL r a m
  | _, _, _, .dko h _ r, a, m => by
    rcases List.mem_cons.mp m with rfl | m
    · exact ⟨_, h, rfl⟩
    · exact OwnAll.thereL r a m
  | _, _, _, .obj h g _ _ r, a, m => by
    rcases List.mem_cons.mp m with rfl | m
    · exact ⟨_, h, rfl⟩
    · rcases List.mem_cons.mp m with rfl | m
      · exact ⟨_, g, rfl⟩
      · exact OwnAll.thereL r a m
theorem OwnAll.thereL : ∀ {v : List V} {o : List OT} {A : List Addr}, OwnAll K G H v o A → ∀ a ∈ A, ∃ u, H a = some u ∧ mutO u = true
  | _, _, _, .nil, _, m => nomatch m
  | _, _, _, .cons h r, a, m => by
    rcases List.mem_append.mp m with m | m
    · exact Own.thereL h a m
    · exact OwnAll.thereL r a m
end
def FlatS : Slot → Prop
  | .non => True
  | .val d => Flat d
  | .own _ o => FlatO o
  | .ali _ _ => False
theorem BorS.of : ∀ {s : Slot}, FlatS s → BorS .non s s
  | .non, _ => .f
  | .val _, h => .v h
  | .own _ _, h => .o h
  | .ali _ _, h => h.elim
def FlatX : List (V × Slot) → Prop
  | [] => True
  | p :: ps => FlatS p.2 ∧ FlatX ps
theorem Bor.ex : ∀ {ex : List (V × Slot)} {r0 r1 r2 : List Slot}, FlatX ex → Bor r0 r1 r2 → Bor (ex.map (fun _ => Slot.non) ++ r0) (ex.map (·.2) ++ r1) (ex.map (·.2) ++ r2)
  | [], _, _, _, _, h => h
  | _ :: _, _, _, _, f, h => .cons (BorS.of f.1) (Bor.ex f.2 h)
theorem Cells.nons {σ : L2.St} {ρ : List Slot} {A : List Addr} (h : Cells K B G H σ ρ A) : ∀ (ex : List (V × Slot)), Cells K B G H (ex.map (fun p => some p.1) ++ σ) (ex.map (fun _ => Slot.non) ++ ρ) A
  | [] => h
  | _ :: ex => .cons (A := []) .non (Cells.nons h ex)
theorem Anc.lend {B : Base} {G H : Hp} (h : Anc B G H) {A : List Addr} (hA : ∀ a ∈ A, G a = none) : Anc (B.lend A) (fun a => if a ∈ A then H a else G a) H := by
  have eG : Ex G fun a => if a ∈ A then H a else G a := fun a u e => by
    show (if a ∈ A then H a else G a) = _
    by_cases ha : a ∈ A
    · rw [hA a ha] at e
      cases e
    · rw [if_neg ha]
      exact e
  refine ⟨fun a o hm e => ?_, fun a l hm => h.there a l (List.mem_filter.mp hm).1, h.gsub.trans eG, fun a e1 e2 => ?_, fun a u e => ?_⟩
  · have e : (if a ∈ A then none else B.H0 a) = some o := e
    by_cases ha : a ∈ A
    · rw [if_pos ha] at e
      cases e
    · rw [if_neg ha] at e
      exact h.keep a o (fun l m => hm l (List.mem_filter.mpr ⟨m, decide_eq_true ha⟩)) e
  · have e1 : (if a ∈ A then none else B.H0 a) ≠ none := e1
    by_cases ha : a ∈ A
    · rw [if_pos ha] at e1
      exact absurd rfl e1
    · rw [if_neg ha] at e1
      show (if a ∈ A then H a else G a) = none ∨ _
      rw [if_neg ha]
      exact h.gnew a e1 e2
  · have e : (if a ∈ A then H a else G a) = some u := e
    by_cases ha : a ∈ A
    · rw [if_pos ha] at e
      exact e
    · rw [if_neg ha] at e
      exact h.sub a u e
theorem Anc.back {B : Base} {G H G1 H1 : Hp} (h0 : Anc B G H) {A : List Addr} (hA : ∀ a ∈ A, G a = none) (hM : ∃ l, ∀ a ∈ A, a ∈ B.Mo l ∨ B.H0 a = none) (hT : ∀ a ∈ A, H a ≠ none) (x : Ex (fun a => if a ∈ A then H a else G a) G1) (h : Anc (B.lend A) G1 H1) : Anc B (fun a => if a ∈ A then none else G1 a) H1 := by
  have hG1 : ∀ a ∈ A, G1 a = H a := fun a ha => by
    cases e : H a with
    | none => exact absurd e (hT a ha)
    | some u => exact x a u (by
        show (if a ∈ A then H a else G a) = _
        rw [if_pos ha, e])
  refine ⟨fun a o hm e => ?_, fun a l hm => ?_, fun a u e => ?_, fun a e1 e2 => ?_, fun a u e => ?_⟩
  · have ha : a ∉ A := fun ha => by
      obtain ⟨l, k⟩ := hM
      rcases k a ha with k | k
      · exact hm l k
      · rw [k] at e
        cases e
    exact h.keep a o (fun l m => hm l (List.mem_filter.mp m).1) (by
      show (if a ∈ A then none else B.H0 a) = _
      rw [if_neg ha, e])
  · by_cases ha : a ∈ A
    · intro z
      have z1 := hG1 a ha
      cases e : H a with
      | none => exact hT a ha e
      | some u =>
        rw [e] at z1
        rw [h.sub a u z1] at z
        cases z
    · exact h.there a l (List.mem_filter.mpr ⟨hm, decide_eq_true ha⟩)
  · have e' := h0.gsub a u e
    have ha : a ∉ A := fun ha => by
      rw [hA a ha] at e'
      cases e'
    show (if a ∈ A then none else G1 a) = _
    rw [if_neg ha]
    exact x a u (by
      show (if a ∈ A then H a else G a) = _
      rw [if_neg ha]
      exact e')
  · show (if a ∈ A then none else G1 a) = none ∨ _
    by_cases ha : a ∈ A
    · rw [if_pos ha]
      exact .inl rfl
    · rw [if_neg ha]
      exact h.gnew a (by
        show (if a ∈ A then none else B.H0 a) ≠ none
        rw [if_neg ha]
        exact e1) e2
  · have e : (if a ∈ A then none else G1 a) = some u := e
    by_cases ha : a ∈ A
    · rw [if_pos ha] at e
      cases e
    · rw [if_neg ha] at e
      exact h.sub a u e
theorem En.lend {σ : L2.St} {ρ : List Slot} (E : En K B G H σ ρ []) {i l : Nat} {o : OT} (h : ρ[i]? = some (.own l o)) (hal : noAlis ρ = true) : ∃ B' : Base, B'.rs = B.rs ∧ ∃ G', Ex G G' ∧ En K B' G' H σ (ρ.set i (.val o.toD)) [] ∧
    ∀ G1 H1 ρ1 ρ2 ex, Ex G' G1 → En K B' G1 H1 σ ρ1 ex → Bor (ρ.set i .non) ρ1 ρ2 → ρ2[i]? = some .non → FlatX ex → noAlis ρ2 = true → ∃ G2, Ex G G2 ∧ En K B G2 H1 σ (ρ2.set i (.own l o)) ex := by
  obtain ⟨A0, c, n, g⟩ := E.own
  obtain ⟨v, A, A2, e1, hO, ⟨hl, hp⟩, c2, pm⟩ := Cells.take1 (show Cells K B G H σ ρ A0 from c) h
  have nn := pm.nodup_iff.mp n
  have n1 := List.nodup_append.mp nn
  have hA : ∀ a ∈ A, G a = none := fun a m => g a (pm.mem_iff.mpr (List.mem_append_left _ m))
  have hA2 : ∀ a ∈ A2, G a = none := fun a m => g a (pm.mem_iff.mpr (List.mem_append_right _ m))
  have hT : ∀ a ∈ A, H a ≠ none := fun a m z => by
    obtain ⟨vs, e, _⟩ := hO.thereL a m
    rw [e] at z
    cases z
  have eG : Ex G fun a => if a ∈ A then H a else G a := fun a u e => by
    show (if a ∈ A then H a else G a) = _
    by_cases ha : a ∈ A
    · rw [hA a ha] at e
      cases e
    · rw [if_neg ha]
      exact e
  have c3 : Cells K (B.lend A) (fun a => if a ∈ A then H a else G a) H σ (ρ.set i .non) A2 := by
    refine Cells.reb (B := B) (c2.ex eG fun _ _ _ e => e) (fun l a m k => ?_) rfl
    have ha : a ∉ A := fun z => n1.2.2 a z a m rfl
    rcases k with k | k
    · exact .inl (List.mem_filter.mpr ⟨k, decide_eq_true ha⟩)
    · refine .inr ?_
      show (if a ∈ A then none else B.H0 a) = _
      rw [if_neg ha, k]
  have hi : i < ρ.length := (List.getElem?_eq_some_iff.mp h).1
  have c4 := c3.putV (i := i) (v := v) (d := o.toD) (by rw [List.getElem?_set_self hi]) e1 (hO.rp eG fun a m u e => by
    show (if a ∈ A then H a else G a) = _
    rw [if_pos m, e])
  rw [List.set_set] at c4
  refine ⟨B.lend A, rfl, _, eG, ⟨E.anc.lend hA, ⟨A2, c4, n1.2.1, fun a m => ?_⟩, by rw [List.length_set]; exact E.len, fun k j p e => ?_⟩, fun G1 H1 ρ1 ρ2 ex x E1 bo h2 fl ha2 => ?_⟩
  · have ha : a ∉ A := fun z => n1.2.2 a z a m rfl
    show (if a ∈ A then H a else G a) = _
    rw [if_neg ha]
    exact hA2 a m
  · by_cases hk : i = k
    · subst hk
      rw [List.getElem?_set_self hi] at e
      cases e
    · rw [List.getElem?_set_ne hk] at e
      exact absurd e (noAlis_get hal)
  · obtain ⟨A5, c5, n5, g5⟩ := E1.own
    have hG1 : ∀ a ∈ A, G1 a = H a := fun a ha => by
      cases e : H a with
      | none => exact absurd e (hT a ha)
      | some u => exact x a u (by
          show (if a ∈ A then H a else G a) = _
          rw [if_pos ha, e])
    have x2 : Ex G fun a => if a ∈ A then none else G1 a := fun a u e => by
      have ha : a ∉ A := fun ha => by
        rw [hA a ha] at e
        cases e
      show (if a ∈ A then none else G1 a) = _
      rw [if_neg ha]
      exact x a u (eG a u e)
    have k : ∀ a u, G1 a = some u → mutO u = false → (if a ∈ A then none else G1 a) = some u := fun a u e ne => by
      by_cases ha : a ∈ A
      · obtain ⟨vs, e3, em⟩ := hO.thereL a ha
        rw [hG1 a ha, e3] at e
        injection e with e
        subst e
        rw [em] at ne
        cases ne
      · rw [if_neg ha]
        exact e
    have disj : ∀ a ∈ A5, a ∉ A := fun a m ha => by
      have z := g5 a m
      rw [hG1 a ha] at z
      exact hT a ha z
    obtain ⟨A6, c6, s6⟩ := Cells.bor (G := G) (H := H) (G2 := fun a => if a ∈ A then none else G1 a) k x2 (c2.nons ex) c5 (Bor.ex fl bo)
    have c7 : Cells K B (fun a => if a ∈ A then none else G1 a) H1 (ex.map (fun p => some p.1) ++ σ) (ex.map (·.2) ++ ρ2) A6 := by
      refine Cells.reb (B := B.lend A) c6 (fun l a m k => ?_) rfl
      have ha := disj a (s6.subset m)
      rcases k with k | k
      · exact .inl (List.mem_filter.mp k).1
      · refine .inr ?_
        have k : (if a ∈ A then none else B.H0 a) = none := k
        rw [if_neg ha] at k
        exact k
    have hO1 : Own K (fun a => if a ∈ A then none else G1 a) H1 v o A := hO.ex x2 fun a m u e => E1.anc.sub a u (by rw [hG1 a m, e])
    obtain ⟨A8, c8, p8⟩ := c7.put1 (i := ex.length + i) (l := l) (o := o) (v := v) (A1 := A) (by
      rw [List.getElem?_append_right (by simp), List.length_map]
      simpa using h2) (by
      rw [List.getElem?_append_right (by simp), List.length_map]
      simpa using e1) hO1 ⟨hl, hp⟩
    rw [List.set_append_right _ _ (by simp), List.length_map, Nat.add_sub_cancel_left] at c8
    have hi2 : i < ρ2.length := (List.getElem?_eq_some_iff.mp h2).1
    refine ⟨_, x2, ⟨Anc.back E.anc hA ⟨l, hl⟩ hT x E1.anc, ⟨A8, c8, p8.nodup_iff.mpr (List.nodup_append.mpr ⟨n1.1, s6.nodup n5, fun a m b m2 e => ?_⟩), fun a m => ?_⟩, ?_, fun k j p e => ?_⟩⟩
    · subst e
      exact disj a (s6.subset m2) m
    · show (if a ∈ A then none else G1 a) = _
      by_cases ha : a ∈ A
      · rw [if_pos ha]
      · rw [if_neg ha]
        rcases List.mem_append.mp (p8.mem_iff.mp m) with m | m
        · exact absurd m ha
        · exact g5 a (s6.subset m)
    · rw [List.length_set, bo.len]
      exact E1.len
    · by_cases hk : i = k
      · subst hk
        rw [List.getElem?_set_self hi2] at e
        cases e
      · rw [List.getElem?_set_ne hk] at e
        exact absurd e (noAlis_get ha2)
end
section
variable {X : Cx} {B : Base} {ρ : List Slot} {pos : Pos} {e : Expr}
theorem je_bor (i : Nat) {β : Type} {m : R β} {sl : β → Slot} {l : Nat} {o : OT} {d : D} {ρ1 ρ2 ρ' : β → List Slot} (h : ρ[i]? = some (.own l o) := by rfl) (hd : o.toD = d) (he : ∀ B' : Base, B'.rs = B.rs → JE X B' (ρ.set i (.val d)) e m sl ρ1) (hb : ∀ b, Bor (ρ.set i .non) (ρ1 b) (ρ2 b)) (hf : ∀ b, FlatS (sl b)) (hr : ∀ b, (ρ2 b).set i (.own l o) = ρ' b)
    (hal : noAlis ρ = true := by rfl) (h2 : ∀ b, (ρ2 b)[i]? = some .non := by intro _; rfl) (ha2 : ∀ b, noAlis (ρ2 b) = true := by intro _; rfl) : JE X B ρ e m sl ρ' := by
  refine ⟨fun pins s σ H Q I ⟨G, E, q⟩ => ?_⟩
  obtain ⟨B', hB, G', x, E', k⟩ := E.lend h hal
  rw [hd] at E'
  refine (he B' hB).run pins s σ H Q I ⟨G', E', ?_⟩
  rw [hB]
  refine R.post_mono q fun b q1 v G1 H1 x1 E1 => ?_
  obtain ⟨G2, x2, E2⟩ := k G1 H1 (ρ1 b) (ρ2 b) _ x1 E1 (hb b) (h2 b) ⟨hf b, trivial⟩ (ha2 b)
  rw [hr b] at E2
  exact q1 v G2 H1 x2 E2
theorem jt_bor (i : Nat) {β : Type} {m : R β} {bn : β → Bool} {l : Nat} {o : OT} {d : D} {ρ1 ρ2 ρ' : β → List Slot} (h : ρ[i]? = some (.own l o) := by rfl) (hd : o.toD = d) (he : ∀ B' : Base, B'.rs = B.rs → JT X B' (ρ.set i (.val d)) e m bn ρ1) (hb : ∀ b, Bor (ρ.set i .non) (ρ1 b) (ρ2 b)) (hr : ∀ b, (ρ2 b).set i (.own l o) = ρ' b)
    (hal : noAlis ρ = true := by rfl) (h2 : ∀ b, (ρ2 b)[i]? = some .non := by intro _; rfl) (ha2 : ∀ b, noAlis (ρ2 b) = true := by intro _; rfl) : JT X B ρ e m bn ρ' := by
  refine ⟨fun pins s σ H Q I ⟨G, E, q⟩ => ?_⟩
  obtain ⟨B', hB, G', x, E', k⟩ := E.lend h hal
  rw [hd] at E'
  refine (he B' hB).run pins s σ H Q I ⟨G', E', ?_⟩
  rw [hB]
  refine R.post_mono q fun b q1 G1 H1 x1 E1 => ?_
  obtain ⟨G2, x2, E2⟩ := k G1 H1 (ρ1 b) (ρ2 b) _ x1 E1 (hb b) (h2 b) trivial (ha2 b)
  rw [hr b] at E2
  exact q1 G2 H1 x2 E2
theorem toD_map {α : Type} {f : α → D} : ∀ xs : List α, OT.toDs ((xs.map f).map OT.dat) = xs.map f
  | [] => by rw [List.map_nil, List.map_nil, OT.toDs]
  | x :: xs => by rw [List.map_cons, List.map_cons, OT.toDs, OT.toD, toD_map xs]
theorem toD_oL {α : Type} (f : α → D) (xs : List α) : (oL f xs).toD = eL f xs := by
  rw [oL, OT.toD, toD_map]
theorem En.frzS {K : PySem.W.Frag} {G H : Hp} {σ : L2.St} {ρ : List Slot} (E : En K B G H σ ρ []) {i : Nat} {o : OT} (h : ρ[i]? = some (.own 0 o)) (hal : noAlis ρ = true) : ∃ G', Ex G G' ∧ En K B G' H σ (ρ.set i (.val o.toD)) [] := by
  obtain ⟨A0, c, n, g⟩ := E.own
  obtain ⟨v, A, A2, e1, hO, ⟨hl, hp⟩, c2, pm⟩ := Cells.take1 (show Cells K B G H σ ρ A0 from c) h
  have nn := pm.nodup_iff.mp n
  have n1 := List.nodup_append.mp nn
  have hA : ∀ a ∈ A, G a = none ∧ B.H0 a = none := fun a m => ⟨g a (pm.mem_iff.mpr (List.mem_append_left _ m)), (hl a m).resolve_left (by rw [B.m0]; exact fun z => nomatch z)⟩
  have eG : Ex G fun a => if a ∈ A then H a else G a := fun a u e => by
    show (if a ∈ A then H a else G a) = _
    by_cases ha : a ∈ A
    · rw [(hA a ha).1] at e
      cases e
    · rw [if_neg ha]
      exact e
  have hi : i < ρ.length := (List.getElem?_eq_some_iff.mp h).1
  have c4 := (c2.ex eG fun _ _ _ e => e).putV (i := i) (v := v) (d := o.toD) (by rw [List.getElem?_set_self hi]) e1 (hO.rp eG fun a m u e => by
    show (if a ∈ A then H a else G a) = _
    rw [if_pos m, e])
  rw [List.set_set] at c4
  refine ⟨_, eG, E.anc.frz hA, ⟨A2, c4, n1.2.1, fun a m => ?_⟩, by rw [List.length_set]; exact E.len, fun k j p e => ?_⟩
  · have ha : a ∉ A := fun z => n1.2.2 a z a m rfl
    show (if a ∈ A then H a else G a) = _
    rw [if_neg ha]
    exact g a (pm.mem_iff.mpr (List.mem_append_right _ m))
  · by_cases hk : i = k
    · subst hk
      rw [List.getElem?_set_self hi] at e
      cases e
    · rw [List.getElem?_set_ne hk] at e
      exact absurd e (noAlis_get hal)
theorem js_frz (i : Nat) {N L T : Type} {ss : List Stmt} {m : R (Fl N L T)} {F : Fin N L T} {o : OT} {d : D} (h : ρ[i]? = some (.own 0 o) := by rfl) (hd : o.toD = d) (r : JSs X B (ρ.set i (.val d)) ss m F) (hal : noAlis ρ = true := by rfl) : JSs X B ρ ss m F :=
  PSs_imp r fun D σ H ⟨G, E, q⟩ => by
    obtain ⟨G', x, E'⟩ := E.frzS h hal
    rw [hd] at E'
    exact ⟨G', E', R.post_mono q fun f q2 => flP_ex q2 x⟩
def un2 {α : Type} : List α → Option (α × α)
  | [a, b] => some (a, b)
  | _ => none
def un3 {α : Type} : List α → Option (α × α × α)
  | [a, b, c] => some (a, b, c)
  | _ => none
def un4 {α : Type} : List α → Option (α × α × α × α)
  | [a, b, c, d] => some (a, b, c, d)
  | _ => none
theorem jts_t : JTs X B ρ [] (.ok true) (fun b => b) := ⟨fun pins s σ H Q I ⟨G, E, q⟩ => pts_nil.run pins s σ H Q I (q G H (Ex.refl G) E)⟩
theorem je_cast {β : Type} {m : R β} {s1 s2 : β → Slot} {ρ' : β → List Slot} (k : JE X B ρ e m s1 ρ') (h : ∀ b, s2 b = s1 b) : JE X B ρ e m s2 ρ' := (funext h) ▸ k
theorem js_lt {α N L T : Type} {ss : List Stmt} {F : Fin N L T} (ρ : α → List Slot) (v0 : α) {k : α → R (Fl N L T)} (h : ∀ v, JSs X B (ρ v) ss (k v) F) : JSs X B (ρ v0) ss (lt v0 k) F := by
  rw [lt]
  exact h v0
theorem noRs {B B' : Base} (h : B'.rs = B.rs) (k : ∀ e, ¬ B.rs e) : ∀ e, ¬ B'.rs e := fun e => by
  rw [h]
  exact k e
theorem un65 {k : Nat} {A : Around} (r : RoomG k A) : A.units + 65 < cLine := by
  have := r.r.un
  omega
theorem un64 {k : Nat} {A : Around} (r : RoomG k A) : A.units + 64 < cLine := by
  have := r.r.un
  omega
end
def hasL {α : Type} [DecidableEq α] (x : α) (l : List α) : Bool := decide (x ∈ l)
end DL
namespace DL
open PySem PySem.Spec L2
def OT.subL : OT → List Nat → Option OT
  | o, [] => some o
  | .lst os, k :: ks => (os[k]?).bind fun o => o.subL ks
  | _, _ :: _ => none
def OT.putL : OT → List Nat → OT → OT
  | _, [], n => n
  | .lst os, k :: ks, n => .lst (match os[k]? with
    | some o => os.set k (o.putL ks n)
    | none => os)
  | o, _ :: _, _ => o
section
variable {K : PySem.W.Frag} {G H : Hp}
theorem OwnAll.at : ∀ {vs : List V} {os : List OT} {A : List Addr} {k : Nat} {o : OT}, OwnAll K G H vs os A → os[k]? = some o →
    ∃ v A0 A1 A2, vs[k]? = some v ∧ Own K G H v o A1 ∧ A = A0 ++ (A1 ++ A2) ∧ ∀ (H' : Hp) (o' : OT), Own K G H' v o' A1 → (∀ a ∈ A0 ++ A2, H' a = H a) → OwnAll K G H' vs (os.set k o') A
  | _, _, _, _, _, .nil, e => by simp at e
  | _, _, _, 0, o, .cons (A := A) (A' := A') h r, e => by
    simp at e
    subst e
    exact ⟨_, [], A, A', rfl, h, rfl, fun H' o' h' k => .cons h' (OwnAll.ex (Ex.refl G) r fun a m u e => by rw [k a (by simpa using m), e])⟩
  | _, _, _, k + 1, o, .cons (A := A) (A' := A') h r, e => by
    obtain ⟨v, A0, A1, A2, h1, h2, h3, h4⟩ := OwnAll.at (k := k) r (by simpa using e)
    subst h3
    refine ⟨v, A ++ A0, A1, A2, by simpa using h1, h2, by simp, fun H' o' h' k => .cons (h.ex (Ex.refl G) fun a m u e => by rw [k a (by simp [m]), e]) (h4 H' o' h' fun a m => k a (by
      rcases List.mem_append.mp m with m | m <;> simp [m]))⟩
theorem Own.put : ∀ {p : List Nat} {v : V} {o : OT} {A : List Addr} {ds : List D}, Own K G H v o A → o.subL p = some (.lst (ds.map OT.dat)) →
    ∃ a vs, At H v p (.ref a) ∧ a ∈ A ∧ H a = some (.lst vs) ∧ RpAll K G vs ds ∧ (A.Nodup → ∀ vs' ds', RpAll K G vs' ds' → Own K G (upd H a (.lst vs')) v (o.putL p (.lst (ds'.map OT.dat))) A)
  | [], v, o, A, ds, h, e => by
    rw [OT.subL] at e
    injection e with e
    subst e
    cases h with
    | @lst a vs _ A3 ha hall =>
      obtain ⟨e3, r⟩ := own_dats_inv hall
      subst e3
      refine ⟨a, vs, rfl, List.mem_cons_self, ha, r, fun _ vs' ds' r' => ?_⟩
      rw [OT.putL]
      exact .lst upd_same (own_dats r')
  | k :: ks, v, .dat d, A, ds, h, e => by
    simp [OT.subL] at e
  | k :: ks, v, .dk d, A, ds, h, e => by
    simp [OT.subL] at e
  | k :: ks, v, .dt d, A, ds, h, e => by
    simp [OT.subL] at e
  | k :: ks, v, .tp d, A, ds, h, e => by
    simp [OT.subL] at e
  | k :: ks, v, .dko _ d, A, ds, h, e => by
    simp [OT.subL] at e
  | k :: ks, v, .obj _ _ d, A, ds, h, e => by
    simp [OT.subL] at e
  | k :: ks, v, .lst os, A, ds, h, e => by
    rw [OT.subL] at e
    obtain ⟨o1, e1, e2⟩ := Option.bind_eq_some_iff.mp e
    cases h with
    | @lst b ws _ A3 hb hall =>
      obtain ⟨u, A0, A1, A2, h1, h2, h3, h4⟩ := hall.at e1
      obtain ⟨a, vs, g1, g2, g3, g4, g5⟩ := Own.put (p := ks) h2 e2
      have m : a ∈ A3 := by
        rw [h3]
        simp [g2]
      refine ⟨a, vs, ⟨b, ws, u, rfl, hb, h1, g1⟩, List.mem_cons_of_mem _ m, g3, g4, fun nd vs' ds' r' => ?_⟩
      have n1 := List.nodup_cons.mp nd
      rw [OT.putL, e1]
      have n2 := n1.2
      rw [h3] at n2
      have n3 := List.nodup_append.mp n2
      have n4 := List.nodup_append.mp n3.2.1
      refine .lst ?_ (h4 _ _ (g5 n4.1 vs' ds' r') fun c mc => upd_ne fun z => ?_)
      · rw [upd_ne (fun z => n1.1 (by rw [z]; exact m))]
        exact hb
      · subst z
        rcases List.mem_append.mp mc with mc | mc
        · exact n3.2.2 c mc c (List.mem_append_left _ g2) rfl
        · exact n4.2.2 c g2 c mc rfl
theorem toDs_at : ∀ {os : List OT} {k : Nat}, (OT.toDs os)[k]? = (os[k]?).map OT.toD
  | [], k => by simp [OT.toDs]
  | o :: os, 0 => by simp [OT.toDs]
  | o :: os, k + 1 => by
    rw [OT.toDs]
    simpa using toDs_at (os := os) (k := k)
theorem Rp.at {G' : Hp} (x : Ex G' H) : ∀ {p : List Nat} {v w : V} {o o' : OT}, Rp K G' v o.toD → o.subL p = some o' → At H v p w → At G' v p w
  | [], _, _, _, _, _, _, h => h
  | k :: ks, v, w, .dat d, o', h, e, _ => by
    simp [OT.subL] at e
  | k :: ks, v, w, .dk d, o', h, e, _ => by
    simp [OT.subL] at e
  | k :: ks, v, w, .dt d, o', h, e, _ => by
    simp [OT.subL] at e
  | k :: ks, v, w, .tp d, o', h, e, _ => by
    simp [OT.subL] at e
  | k :: ks, v, w, .dko _ d, o', h, e, _ => by
    simp [OT.subL] at e
  | k :: ks, v, w, .obj _ _ d, o', h, e, _ => by
    simp [OT.subL] at e
  | k :: ks, v, w, .lst os, o', h, e, ⟨a, vs, u, h1, h2, h3, h4⟩ => by
    rw [OT.subL] at e
    obtain ⟨o1, e1, e2⟩ := Option.bind_eq_some_iff.mp e
    rw [OT.toD] at h
    obtain ⟨b, xs, e3, hS, hr⟩ := h.lst_inv
    subst h1
    injection e3 with e3
    subst e3
    have hx : G' a = some (.lst xs) := by
      rcases hS with hS | ⟨o, hS⟩
      · exact hS
      · have := x _ _ hS
        rw [h2] at this
        cases this
    have hxs : xs = vs := by
      have := x _ _ hx
      rw [h2] at this
      injection this with this
      injection this with this
      exact this.symm
    subst hxs
    obtain ⟨d, hd, hrd⟩ := hr.getV h3
    rw [toDs_at, e1] at hd
    injection hd with hd
    subst hd
    exact ⟨a, xs, u, rfl, hx, h3, Rp.at x hrd e2 h4⟩
end
section
variable {K : PySem.W.Frag} {B : Base} {G H : Hp} {σ : L2.St} {ρ : List Slot}
end
def tJL (K : PySem.W.Frag) (B : Base) (ρ : List Slot) (i : Nat) {ι : Type} (m : R ι) (path : ι → List Nat) : TE := fun σ H Q =>
  ∃ G, En K B G H σ ρ [] ∧ m.post (fun j => ∀ G' H', Ex G G' → En K B G' H' σ ρ [] → ∀ v a, σ[i]? = some (some v) → At H' v (path j) (.ref a) → Q (.ref a) H') B.rs
def JL (X : Cx) (B : Base) (ρ : List Slot) (e : Expr) (i : Nat) {ι : Type} (m : R ι) (path : ι → List Nat) : Prop := PE X e (tJL X.K B ρ i m path)
def MtD (K : PySem.W.Frag) (r : V → List V → Hp → VK → Prop) (ds : List D) (as : List D) {γ : Type} (m : R γ) (res : γ → D) (ds' : γ → List D) : Prop :=
  ∀ (G H : Hp) (a : Addr) (vs args : List V) (Q : VK) (rs : Exn → Prop), Ex G H → H a = some (.lst vs) → RpAll K G vs ds → RpAll K G args as → m.post (fun c => ∀ v vs', Rp K G v (res c) → RpAll K G vs' (ds' c) → Q v (upd H a (.lst vs'))) rs → r (.ref a) args H Q
section
variable {X : Cx} {B : Base} {ρ : List Slot} {pos : Pos} {obj e : Expr} {es : List Expr}
@[reducible] def oLL {α : Type} (f : α → D) (rows : List (List α)) : OT := .lst (rows.map (oL f))
def rowAt {α : Type} (rows : List (List α)) (k : Int) : Option (Nat × List α) := (ixN rows.length k).bind fun j => (rows[j]?).map fun r => (j, r)
theorem OwnAll.len {K : PySem.W.Frag} {G H : Hp} : ∀ {vs : List V} {os : List OT} {A : List Addr}, OwnAll K G H vs os A → vs.length = os.length
  | _, _, _, .nil => rfl
  | _, _, _, .cons _ r => by rw [List.length_cons, List.length_cons, r.len]
theorem ArOk.rp {K : PySem.W.Frag} {G : Hp} {σ : L2.St} : ∀ {vs : List V} {ds : List D}, ArOk K G σ vs (ds.map Ar.val) → RpAll K G vs ds
  | [], [], _ => .nil
  | [], _ :: _, h => by cases h
  | _ :: _, [], h => by cases h
  | v :: vs, d :: ds, h => by
    cases h with
    | val h r => exact .cons h (ArOk.rp r)
end
end DL
namespace DL
open PySem PySem.Spec L2
def ixOf {α : Type} [DecidableEq α] (x : α) : List α → Option Nat
  | [] => none
  | y :: ys => if y = x then some 0 else (ixOf x ys).map (· + 1)
theorem ixOf_some {α : Type} [DecidableEq α] {x : α} : ∀ {l : List α} {j : Nat}, ixOf x l = some j → l[j]? = some x ∧ ∀ m, m < j → l[m]? ≠ some x
  | y :: ys, j, h => by
    rw [ixOf] at h
    by_cases e : y = x
    · rw [if_pos e] at h
      injection h with h
      subst h
      exact ⟨by simp [e], fun m z => absurd z (Nat.not_lt_zero _)⟩
    · rw [if_neg e] at h
      obtain ⟨k, h1, h2⟩ := Option.map_eq_some_iff.mp h
      subst h2
      obtain ⟨g1, g2⟩ := ixOf_some h1
      refine ⟨by simpa using g1, fun m z => ?_⟩
      cases m with
      | zero =>
        intro q
        simp at q
        exact e q
      | succ m =>
        intro q
        exact g2 m (by omega) (by simpa using q)
theorem RpAll.eraseIdx {K : PySem.W.Frag} {G : Hp} : ∀ {vs : List V} {ds : List D} (n : Nat), RpAll K G vs ds → RpAll K G (vs.eraseIdx n) (ds.eraseIdx n)
  | _, _, _, .nil => .nil
  | _, _, 0, .cons _ r => r
  | _, _, n + 1, .cons h r => .cons h (RpAll.eraseIdx n r)
section
variable {K : PySem.W.Frag}
theorem rp1 {G : Hp} {vs : List V} {a : D} (h : RpAll K G vs [a]) : ∃ v, vs = [v] ∧ Rp K G v a := by
  cases h with
  | cons h r =>
    cases r
    exact ⟨_, rfl, h⟩
theorem toDs_LL {α : Type} {f : α → D} : ∀ rows : List (List α), OT.toDs (rows.map (oL f)) = rows.map (eL f)
  | [] => by rw [List.map_nil, List.map_nil, OT.toDs]
  | r :: rows => by rw [List.map_cons, List.map_cons, OT.toDs, toD_oL, toDs_LL rows]
end
def rTix (K : PySem.W.Frag) : V → List V → Hp → VK → Prop := fun x args H Q => ∃ (p : Addr) (ns : List Int) (k : Int) (j : Nat), x = .ref p ∧ args = [.int k] ∧ SqT K H p (ns.map V.int) ∧ ns[j]? = some k ∧ (∀ m, m < j → ns[m]? ≠ some k) ∧ Q (.int (j : Nat)) H
end DL
namespace DL
open PySem PySem.Spec L2
section
variable {K : PySem.W.Frag} {B B' : Base} {G G' H H' G1 G2 H1 : Hp} {σ σ1 : L2.St} {ρ ρ1 : List Slot}
def Base.aside (B : Base) (H : Hp) (A : List Addr) : Base := { B with H0 := fun a => if a ∈ A then H a else B.H0 a, Mo := fun l => (B.Mo l).filter (fun a => decide (a ∉ A)), m0 := by rw [B.m0]; rfl }
theorem En.aside {v : V} {o : OT} {ex : List (V × Slot)} (E : En K B G H σ ρ ((v, .own 0 o) :: ex)) : ∃ B' : Base, B'.rs = B.rs ∧ En K B' G H σ ρ ex ∧
    ∀ G1 H1 σ1 ρ1 ex1, Ex G G1 → En K B' G1 H1 σ1 ρ1 ex1 → noAlis ρ1 = true → En K B G1 H1 σ1 ρ1 ((v, .own 0 o) :: ex1) := by
  obtain ⟨A0, c, n, g⟩ := E.own
  cases c with
  | @cons _ _ A _ _ A2 c1 cr =>
    cases c1 with
    | own hO hl hp =>
      have n1 := List.nodup_append.mp n
      have hA : ∀ a ∈ A, G a = none := fun a m => g a (List.mem_append_left _ m)
      have h0 : ∀ a ∈ A, B.H0 a = none := fun a m => (hl a m).resolve_left (by rw [B.m0]; exact fun z => nomatch z)
      have hT : ∀ a ∈ A, ∃ vs, H a = some vs := hO.there
      have disj : ∀ a ∈ A2, a ∉ A := fun a m z => n1.2.2 a z a m rfl
      refine ⟨B.aside H A, rfl, ⟨⟨fun a o hm e => ?_, fun a l hm => E.anc.there a l (List.mem_filter.mp hm).1, E.anc.gsub, fun a e1 e2 => ?_, E.anc.sub⟩, ⟨A2, ?_, n1.2.1, fun a m => g a (List.mem_append_right _ m)⟩, E.len, E.ali⟩, fun G1 H1 σ1 ρ1 ex1 x E1 ha => ?_⟩
      · have e : (if a ∈ A then H a else B.H0 a) = some o := e
        by_cases ha : a ∈ A
        · rw [if_pos ha] at e
          exact e
        · rw [if_neg ha] at e
          exact E.anc.keep a o (fun l m => hm l (List.mem_filter.mpr ⟨m, decide_eq_true ha⟩)) e
      · by_cases ha : a ∈ A
        · exact .inl (hA a ha)
        · have e1 : (if a ∈ A then H a else B.H0 a) ≠ none := e1
          rw [if_neg ha] at e1
          exact E.anc.gnew a e1 e2
      · refine Cells.reb (B := B) cr (fun l a m k => ?_) rfl
        have ha := disj a m
        rcases k with k | k
        · exact .inl (List.mem_filter.mpr ⟨k, decide_eq_true ha⟩)
        · refine .inr ?_
          show (if a ∈ A then H a else B.H0 a) = _
          rw [if_neg ha, k]
      · obtain ⟨A5, c5, n5, g5⟩ := E1.own
        have hH1 : ∀ a ∈ A, H1 a = H a := fun a m => by
          obtain ⟨vs, e⟩ := hT a m
          rw [e]
          refine E1.anc.keep a _ (fun l z => of_decide_eq_true (List.mem_filter.mp z).2 m) ?_
          show (if a ∈ A then H a else B.H0 a) = _
          rw [if_pos m, e]
        have hG1 : ∀ a ∈ A, G1 a = none := fun a m => E1.anc.gnone (by
          show (if a ∈ A then H a else B.H0 a) ≠ none
          rw [if_pos m]
          obtain ⟨vs, e⟩ := hT a m
          rw [e]
          exact fun z => nomatch z) (by
          show B.G0 a = none
          exact E.anc.gsub.back (hA a m)) (fun xs z => hO.nt a m xs (by rw [← hH1 a m]; exact z))
        have disj5 : ∀ a ∈ A5, a ∉ A := fun a m ha => by
          rcases Cells.region c5 a m with ⟨l, z⟩ | z
          · exact of_decide_eq_true (List.mem_filter.mp z).2 ha
          · have z : (if a ∈ A then H a else B.H0 a) = none := z
            rw [if_pos ha] at z
            obtain ⟨vs, e⟩ := hT a ha
            rw [e] at z
            cases z
        refine ⟨⟨fun a o hm e => ?_, fun a l hm => ?_, E1.anc.gsub, fun a e1 e2 => ?_, E1.anc.sub⟩, ⟨A ++ A5, .cons (.own (hO.ex x fun a m u e => by rw [hH1 a m, e]) hl hp) ?_, List.nodup_append.mpr ⟨n1.1, n5, fun a m b mb e => ?_⟩, fun a m => ?_⟩, E1.len, fun i j q e => absurd e (noAlis_get ha)⟩
        · have ha : a ∉ A := fun z => by
            rw [h0 a z] at e
            cases e
          refine E1.anc.keep a o (fun l m => hm l (List.mem_filter.mp m).1) ?_
          show (if a ∈ A then H a else B.H0 a) = _
          rw [if_neg ha]
          exact e
        · by_cases ha : a ∈ A
          · rw [hH1 a ha]
            obtain ⟨vs, e⟩ := hT a ha
            rw [e]
            exact fun z => nomatch z
          · exact E1.anc.there a l (List.mem_filter.mpr ⟨hm, decide_eq_true ha⟩)
        · have ha : a ∉ A := fun z => e1 (h0 a z)
          refine E1.anc.gnew a ?_ e2
          show (if a ∈ A then H a else B.H0 a) ≠ none
          rw [if_neg ha]
          exact e1
        · refine Cells.reb (B := B.aside H A) c5 (fun l a m k => ?_) rfl
          have ha := disj5 a m
          rcases k with k | k
          · exact .inl (List.mem_filter.mp k).1
          · refine .inr ?_
            have k : (if a ∈ A then H a else B.H0 a) = none := k
            rw [if_neg ha] at k
            exact k
        · subst e
          exact disj5 a mb m
        · rcases List.mem_append.mp m with m | m
          · exact hG1 a m
          · exact g5 a m
theorem OwnAll.append {A A' : List Addr} : ∀ {vs ws : List V} {os us : List OT}, OwnAll K G H vs os A → OwnAll K G H ws us A' → OwnAll K G H (vs ++ ws) (os ++ us) (A ++ A')
  | _, _, _, _, .nil, s => s
  | _, _, _, _, .cons h r, s => by
    rw [List.append_assoc]
    exact .cons h (OwnAll.append r s)
end
section
variable {X : Cx} {B : Base} {ρ : List Slot} {pos : Pos} {e a b tg it elt : Expr}
end
section
variable {K : PySem.W.Frag} {B B' : Base} {G G' H H' G1 G2 H1 : Hp} {σ σ1 : L2.St} {ρ ρ1 : List Slot}
end
section
variable {X : Cx} {B : Base} {ρ : List Slot} {pos : Pos} {e : Expr} {es : List Expr}
def tJAo (K : PySem.W.Frag) (B : Base) (ρ : List Slot) {β : Type} (m : R β) (os : β → List OT) (ρ' : β → List Slot) : TA := fun σ H Q =>
  ∃ G, En K B G H σ ρ [] ∧ m.post (fun b => ∀ vs G' H', Ex G G' → vs.length = (os b).length → En K B G' H' σ (ρ' b) (vs.zip ((os b).map (Slot.own 0))) → Q vs H') B.rs
def JAo (X : Cx) (B : Base) (ρ : List Slot) (es : List Expr) {β : Type} (m : R β) (os : β → List OT) (ρ' : β → List Slot) : Prop := PA X es (tJAo X.K B ρ m os ρ')
end
end DL
namespace DL
open PySem PySem.Spec L2
def enumL {α : Type} (xs : List α) : List (Int × α) := xs.zipIdx.map fun p => ((p.2 : Int), p.1)
theorem enumL_len {α : Type} (xs : List α) : (enumL xs).length = xs.length := by
  rw [enumL, List.length_map, List.length_zipIdx]
theorem enumL_get {α : Type} {xs : List α} {i : Nat} : (enumL xs)[i]? = (xs[i]?).map fun x => ((i : Int), x) := by
  rw [enumL, List.getElem?_map, List.getElem?_zipIdx]
  cases xs[i]? with
  | none => rfl
  | some x => simp
section
variable {X : Cx} {B : Base} {ρ : List Slot} {pos : Pos} {e tg it : Expr}
theorem ji_enum {α β : Type} {m : R β} {xs : β → List α} {f : α → D} {ρ' : β → List Slot} {p tpos : Pos} {elts : List Expr} {kk : Nat} (hg : Gl X "enumerate") (hm : X.mg "enumerate" = none) (h : JE X B ρ e m (fun b => .val (eL f (xs b))) ρ') (hst : starEach [e] X.env = (false, eval e X.env) :: starEach [] X.env := by rfl) (hs : starEach [e] X.env = [(false, eval e X.env)] := by rfl) :
    JI X B ρ (.Tuple elts kk tpos) (.Call (.Name "enumerate" p) [e] [] pos) m (fun b => (enumL (xs b)).map (eP2 D.int f)) ρ' :=
  PI_imp (pi_enum hg hm (pa_cons h pa_nil hst) hs) fun σ H Q ⟨G, E, q⟩ => ⟨G, E, R.post_mono q fun b q1 v G' H' x E' => by
    obtain ⟨a, vs, rfl, hS, hr⟩ := E'.top.lst_inv
    have hS' : SqL X.K G' a vs := .inl hS
    have hl : vs.length = (xs b).length := by rw [hr.len, List.length_map]
    have hl2 : ((enumL (xs b)).map (eP2 D.int f)).length = vs.length := by rw [List.length_map, enumL_len, hl]
    refine ⟨a, vs, rfl, E'.sub.l hS', q1 _ G' H' x E'.pop ⟨fun i H hi e => ⟨vs, vs[i]'(by rw [← hl2]; exact hi), e.l hS', List.getElem?_eq_getElem _⟩, fun i H hi e => ⟨vs, e.l hS', by rw [← hl2]; exact hi⟩, fun B i G1 H1 σ ρ w H' e E hy d hd => ?_⟩⟩
    obtain ⟨T, y, rfl, hT, rfl, hy⟩ := hy
    have hyi := hy vs ((e.trans E.sub).l hS')
    obtain ⟨d2, h1, h2⟩ := hr.getV hyi
    rw [List.getElem?_map, enumL_get] at hd
    rw [List.getElem?_map] at h1
    cases hx : (xs b)[i]? with
    | none =>
      rw [hx] at h1
      cases h1
    | some z =>
      rw [hx] at h1 hd
      injection h1 with h1
      injection hd with hd
      subst h1
      subst hd
      have e1 := Ex.new (o := HO.tup [.int (i : Nat), y]) (E.sub.back hT)
      exact ⟨_, e1, E.new hT _, .tup (.inl (.inl upd_same)) (.cons (.int _) (.cons (h2.ex (e.trans e1)) .nil))⟩⟩
end
end DL
namespace DL
open PySem PySem.Spec L2
open Sem (wp)
section
variable {prog : Program} {w : World} {A : Around} {E : Value → Shared → Prop} {s : Shared}
end
section
variable {prog : Program} {w : World} {A : Around} {E : Value → Shared → Prop} {s : Shared}
end
def IteT (K : PySem.W.Frag) (a : Addr) (n : Nat) : It :=
  ⟨fun i H => ∃ (xs : List V) (x : V), SqT K H a xs ∧ xs.length = n ∧ xs[i]? = some x, fun i H v H' => ∃ T x, v = .ref T ∧ H T = none ∧ H' = upd H T (.tup [.int (i : Nat), x]) ∧ ∀ xs, SqT K H a xs → xs[i]? = some x, fun i H => ∃ xs : List V, SqT K H a xs ∧ xs.length = n ∧ n ≤ i⟩
end DL
namespace DL
open PySem PySem.Spec PyProof.Rows L2
def iEnumT (K : PySem.W.Frag) (ta : TA) : TI := fun σ H R => ta σ H fun vs H1 => ∃ a xs, vs = [.ref a] ∧ SqT K H1 a xs ∧ R (IteT K a xs.length) H1
section
variable {X : Cx} {B : Base} {ρ : List Slot} {pos : Pos} {e tg it : Expr}
end
end DL
namespace DL
open PySem PySem.Spec L2
def repL {α : Type} (xs : List α) (k : Int) : List α := (List.replicate k.toNat xs).flatten
section
variable {X : Cx} {B : Base} {ρ : List Slot} {pos : Pos} {a b c : Expr}
theorem je_if {α β γ δ : Type} {mc : R α} {bn : α → Bool} {ρc : α → List Slot} {ma mb : α → R β} {s : β → Slot} {ρ' : β → List Slot} (hc : JT X B ρ c mc bn ρc) (ha : ∀ x, JE X B (ρc x) a (ma x) s ρ') (hb : ∀ x, JE X B (ρc x) b (mb x) s ρ') :
    JE X B ρ (.IfExp c a b pos) (mc.bind fun x => if bn x = true then ma x else mb x) s ρ' := by
  have ha' : PE X a (fun σ H Q => ∃ x, tJ X.K B (ρc x) (ma x) s ρ' σ H Q) := ⟨fun pins s σ H Q I ⟨x, q⟩ => (ha x).run pins s σ H Q I q⟩
  have hb' : PE X b (fun σ H Q => ∃ x, tJ X.K B (ρc x) (mb x) s ρ' σ H Q) := ⟨fun pins s σ H Q I ⟨x, q⟩ => (hb x).run pins s σ H Q I q⟩
  refine PE_imp (pe_ifExp hc ha' hb') fun σ H Q ⟨G, E, q⟩ => ⟨G, E, R.post_mono (R.post_bind.mp q) fun x q1 G1 H1 x1 E1 => ?_⟩
  cases hx : bn x with
  | true =>
    rw [hx, if_pos rfl] at q1
    rw [if_pos rfl]
    exact ⟨x, G1, E1, R.post_mono q1 fun y k v G2 H2 x2 E2 => k v G2 H2 (x1.trans x2) E2⟩
  | false =>
    rw [hx, if_neg (by decide)] at q1
    rw [if_neg (by decide)]
    exact ⟨x, G1, E1, R.post_mono q1 fun y k v G2 H2 x2 E2 => k v G2 H2 (x1.trans x2) E2⟩
end
def isNon : D → Bool
  | .none => true
  | _ => false
section
variable {K : PySem.W.Frag} {B : Base}
theorem Rp.isNon {G : Hp} {v : V} {d : D} (h : Rp K G v d) : decide (v = .non) = DL.isNon d := by
  cases h <;> first | rfl | (simp [DL.isNon]; done) | (rename_i z; simp [DL.isNon, z])
theorem od_isN {d : D} : OpD K B (fun x y H Q => y = .non ∧ Q (.bl (decide (x = .non))) H) d .none (.ok ()) (fun _ => .val (.bool (isNon d))) := fun G H σ ρ vx vy Q E hx hy q => ⟨hy.non_inv, by
  rw [hx.isNon]
  exact q _ G H (Ex.refl G) (E.push (.bl _))⟩
theorem od_notN {d : D} : OpD K B (fun x y H Q => y = .non ∧ Q (.bl (!decide (x = .non))) H) d .none (.ok ()) (fun _ => .val (.bool (!isNon d))) := fun G H σ ρ vx vy Q E hx hy q => ⟨hy.non_inv, by
  rw [hx.isNon]
  exact q _ G H (Ex.refl G) (E.push (.bl _))⟩
end
end DL
namespace DL
open PySem PySem.Spec PyProof.Rows L2
@[reducible] def eR {α : Type} (f : α → D) (l : List α) : D := .row (l.map f)
def Wk (d d' : D) : Prop := ∀ (K : PySem.W.Frag) (G : Hp) (v : V), Rp K G v d → Rp K G v d'
theorem Cells.wk {K : PySem.W.Frag} {B : Base} {G H : Hp} {v : V} {d d' : D} {σ : L2.St} {ρ : List Slot} {A : List Addr} (w : Wk d d') (h : Cells K B G H (some v :: σ) (.val d :: ρ) A) : Cells K B G H (some v :: σ) (.val d' :: ρ) A := by
  cases h with
  | cons c r =>
    cases c with
    | val h => exact .cons (.val (w _ _ _ h)) r
theorem En.wk {K : PySem.W.Frag} {B : Base} {G H : Hp} {v : V} {d d' : D} {σ : L2.St} {ρ : List Slot} {ex : List (V × Slot)} (w : Wk d d') (E : En K B G H σ ρ ((v, .val d) :: ex)) : En K B G H σ ρ ((v, .val d') :: ex) := by
  obtain ⟨A, c, n, g⟩ := E.own
  exact ⟨E.anc, ⟨A, Cells.wk w c, n, g⟩, E.len, E.ali⟩
section
variable {X : Cx} {B : Base} {ρ : List Slot} {pos : Pos} {e obj : Expr} {es : List Expr}
def rTupF (K : PySem.W.Frag) : List V → Hp → VK → Prop := fun xs H Q => ∃ p ys, xs = [.ref p] ∧ SqL K H p ys ∧ ∀ l ob, H l = none → ob.dict = none → Q (.ref l) (upd H l (.frz ob (.tup ys)))
def tBMR (r : V → List V → Hp → VK → Prop) (to : TE) (t : TA) : TE := fun σ H Q => to σ H fun x H1 => (∃ a ob xs, x = .ref a ∧ H1 a = some (.frz ob (.tup xs)) ∧ ob.dict = none) ∧ t σ H1 fun xs H2 => r x xs H2 Q
end
end DL
namespace DL
open PySem PySem.Spec PyProof.Rows L2
section
variable {X : Cx} {B : Base} {ρ : List Slot} {pos : Pos} {e obj : Expr}
end
end DL
namespace DL
open PySem PySem.Spec L2
end DL
namespace DL
open PySem PySem.Spec L2 PyProof.Rows
mutual
def pdOf : D → PyData
  | .none => .none
  | .bool b => .bool b
  | .int i => .int i
  | .str x => .str x
  | .list ds => .list (pdOfs ds)
  | .tuple ds => .tuple (pdOfs ds)
  | .row ds => .tuple (pdOfs ds)
  | .scr ns => .list (ns.map PyData.int)
  | .key ns => .tuple (ns.map PyData.int)
  | .dict _ => .none
  | .exn _ _ _ => .none
  | .ddk _ => .none
def pdOfs : List D → List PyData
  | [] => []
  | d :: ds => pdOf d :: pdOfs ds
end
mutual
def plainD : D → Bool
  | .dict _ => false
  | .exn _ _ _ => false
  | .ddk _ => false
  | .list ds => plainDs ds
  | .tuple ds => plainDs ds
  | .row ds => plainDs ds
  | .none => true
  | .bool _ => true
  | .int _ => true
  | .str _ => true
  | .scr _ => true
  | .key _ => true
def plainDs : List D → Bool
  | [] => true
  | d :: ds => plainD d && plainDs ds
end
def isRefD : D → Bool
  | .list _ => true
  | .tuple _ => true
  | .row _ => true
  | .key _ => true
  | _ => false
mutual
theorem plain_noDict : ∀ d : D, plainD d = true → (pdOf d).hasDict = false
  | .none, _ => by rw [pdOf, PyData.hasDict]
  | .bool _, _ => by rw [pdOf, PyData.hasDict]
  | .int _, _ => by rw [pdOf, PyData.hasDict]
  | .str _, _ => by rw [pdOf, PyData.hasDict]
  | .list ds, h => by
    rw [pdOf, PyData.hasDict]
    exact plains_noDict ds (by rw [plainD] at h; exact h)
  | .tuple ds, h => by
    rw [pdOf, PyData.hasDict]
    exact plains_noDict ds (by rw [plainD] at h; exact h)
  | .row ds, h => by
    rw [pdOf, PyData.hasDict]
    exact plains_noDict ds (by rw [plainD] at h; exact h)
  | .scr ns, _ => by
    rw [pdOf, PyData.hasDict]
    induction ns with
    | nil => rw [List.map_nil, PyData.hasDictAll]
    | cons n ns ih => rw [List.map_cons, PyData.hasDictAll, PyData.hasDict, ih (by rw [plainD])]; rfl
  | .key ns, _ => by
    rw [pdOf, PyData.hasDict]
    induction ns with
    | nil => rw [List.map_nil, PyData.hasDictAll]
    | cons n ns ih => rw [List.map_cons, PyData.hasDictAll, PyData.hasDict, ih (by rw [plainD])]; rfl
  | .dict _, h => by
    rw [plainD] at h
    cases h
theorem plains_noDict : ∀ ds : List D, plainDs ds = true → PyData.hasDictAll (pdOfs ds) = false
  | [], _ => by rw [pdOfs, PyData.hasDictAll]
  | d :: ds, h => by
    rw [plainDs, Bool.and_eq_true] at h
    rw [pdOfs, PyData.hasDictAll, plain_noDict d h.1, plains_noDict ds h.2]
    rfl
end
section
variable {X : Cx} {pins : List (Addr × Obj)} {σ : L2.St} {G H : Hp} {s : Shared}
theorem reads_ints (h : Heap) : ∀ (ns : List Int) (us : List Value), Vals (ns.map V.int) us → ∃ as, ReadsAll h us (ns.map PyData.int) as
  | [], _, .nil => ⟨[], .nil⟩
  | n :: ns, _, .cons r t => by
    obtain ⟨tk, rfl⟩ := r
    obtain ⟨as, q⟩ := reads_ints h ns _ t
    exact ⟨_, .cons (.int n tk) q⟩
mutual
theorem Rp.reads (I : Inv X pins σ H s) (e : Ex G H) : ∀ {v : V} {d : D}, Rp X.K G v d → ∀ {u : Value}, RelV v u → plainD d = true → ∃ as, Reads s.heap u (pdOf d) as
  | _, _, .non, u, r, _ => by
    cases r
    rw [pdOf]
    exact ⟨_, .none⟩
  | _, _, .bl b, u, r, _ => by
    cases r
    rw [pdOf]
    exact ⟨_, .bool b⟩
  | _, _, .int i, u, r, _ => by
    obtain ⟨t, rfl⟩ := r
    rw [pdOf]
    exact ⟨_, .int i t⟩
  | _, _, .str x, u, r, _ => by
    obtain ⟨t, rfl⟩ := r
    rw [pdOf]
    exact ⟨_, .str x t⟩
  | _, _, .lst h q, u, r, p => by
    cases r
    rw [pdOf]
    rw [plainD] at p
    obtain ⟨its, vs, pl, _⟩ := I.list (.inl (e.rd h))
    obtain ⟨o, n, g1, g2, g3, g4⟩ := pl
    obtain ⟨as, ra⟩ := RpAll.reads I e q vs p
    exact ⟨_, .list g1 g2 g4 (by simpa using ra)⟩
  | _, _, .tup h q, u, r, p => by
    cases r
    rw [pdOf]
    rw [plainD] at p
    obtain ⟨its, vs, ⟨o, g1, g2, n, g4⟩, _⟩ := I.tuple (e.t h)
    obtain ⟨as, ra⟩ := RpAll.reads I e q vs p
    exact ⟨_, .tuple g1 g2 g4 (by simpa using ra)⟩
  | _, _, .row h d q, u, r, p => by
    cases r
    rw [pdOf]
    rw [plainD] at p
    obtain ⟨its, vs, ⟨o, g1, g2, n, g4⟩, _⟩ := I.tuple (.inl (.inr ⟨_, e _ _ h⟩))
    obtain ⟨as, ra⟩ := RpAll.reads I e q vs p
    exact ⟨_, .tuple g1 g2 g4 (by simpa using ra)⟩
  | _, _, .scr h, u, r, _ => by
    cases r
    rw [pdOf]
    obtain ⟨its, vs, pl, _⟩ := I.list (e.l h)
    obtain ⟨o, n, g1, g2, g3, g4⟩ := pl
    obtain ⟨as, ra⟩ := reads_ints s.heap _ _ vs
    exact ⟨_, .list g1 g2 g4 (by simpa using ra)⟩
  | _, _, .key h, u, r, _ => by
    cases r
    rw [pdOf]
    obtain ⟨its, vs, ⟨o, g1, g2, n, g4⟩, _⟩ := I.tuple (.inl (.inl (e _ _ h)))
    obtain ⟨as, ra⟩ := reads_ints s.heap _ _ vs
    exact ⟨_, .tuple g1 g2 g4 (by simpa using ra)⟩
  | _, _, .dK h q, u, r, p => by
    rw [plainD] at p
    cases p
  | _, _, .dT h q, u, r, p => by
    rw [plainD] at p
    cases p
  | _, _, .ddk _ _, u, r, p => by
    rw [plainD] at p
    cases p
  | _, _, .ddt _ _, u, r, p => by
    rw [plainD] at p
    cases p
  | _, _, .exn0 _ _, u, r, p => by
    rw [plainD] at p
    cases p
  | _, _, .exn1 _ _ _ _, u, r, p => by
    rw [plainD] at p
    cases p
  | _, _, .any _, u, r, p => by
    rw [plainD] at p
    cases p
theorem RpAll.reads (I : Inv X pins σ H s) (e : Ex G H) : ∀ {vs : List V} {ds : List D}, RpAll X.K G vs ds → ∀ {us : List Value}, Vals vs us → plainDs ds = true → ∃ as, ReadsAll s.heap us (pdOfs ds) as
  | _, _, .nil, _, .nil, _ => by
    rw [pdOfs]
    exact ⟨_, .nil⟩
  | _, _, .cons h q, _, .cons r t, p => by
    rw [plainDs, Bool.and_eq_true] at p
    rw [pdOfs]
    obtain ⟨as, a⟩ := Rp.reads I e h r p.1
    obtain ⟨bs, b⟩ := RpAll.reads I e q t p.2
    exact ⟨_, .cons a b⟩
end
def repOk (d : D) : Prop := plainD d = true ∧ isRefD d = true ∧ (pdOf d).showable = true ∧ (pdOf d).shown.length ≤ sizeLine ∧ (pdOf d).depth ≤ 60
instance (d : D) : Decidable (repOk d) := by unfold repOk; exact inferInstance
def reprD (d : D) : Str := (pdOf d).shown
def rRep (K : PySem.W.Frag) : List V → Hp → VK → Prop := fun xs H Q => ∃ v G d, xs = [v] ∧ Ex G H ∧ Rp K G v d ∧ repOk d ∧ Q (.str (reprD d)) H
theorem call_reprD (hg : X.A.guards = some []) (hu : X.A.units + 64 < cLine) : CallR X (.builtin "repr") (rRep X.K) := by
  intro pins s σ H xs us Q I r h
  obtain ⟨v, G, d, rfl, e, q, ⟨p1, p2, p3, p4, p5⟩, hq⟩ := h
  cases r with
  | cons r t =>
    cases t
    obtain ⟨as, rd⟩ := q.reads I e r p1
    have hsm : (pdOf d).hasDict = true → sysModules ∉ as := fun z => by
      rw [plain_noDict d p1] at z
      cases z
    have isr : ∃ a, v = .ref a := by
      cases q <;> first | exact ⟨_, rfl⟩ | (simp [isRefD] at p2)
    obtain ⟨a, rfl⟩ := isr
    cases r
    exact repr_of_reads' rd p3 hsm hg (by omega) (fun _ _ z => z) (fun h' u tk hk => ⟨.str _, H, I.kept hk, ⟨u, rfl⟩, hq⟩) p4
theorem cb_repr {K : PySem.W.Frag} {B : Base} {ρ : List Slot} {d : D} : CbD K B ρ (rRep K) [.val d] (R.guard (repOk d)) (fun _ => .val (.str (reprD d))) := fun G H σ vs Q E ok q => by
  obtain ⟨hc, q⟩ := R.post_guard q
  obtain ⟨v, rfl, r⟩ := ok.one
  exact ⟨v, G, d, rfl, E.sub, r, hc, q _ G H (Ex.refl G) (E.push (.str _))⟩
end
@[reducible] def eP1 {α : Type} (f : α → D) (p : α) : D := .tuple [f p]
theorem fl_P1 {α : Type} {f : α → D} (h : ∀ x, Flat (f x)) (p : α) : Flat (eP1 f p) := by
  rw [eP1, Flat, FlatL, FlatL]
  exact ⟨h p, trivial⟩
mutual
def shortD (B : Nat) : D → Prop
  | .none => True
  | .bool _ => True
  | .int i => i.natAbs < 10 ^ B
  | .list ds => shortDs B ds
  | .tuple ds => shortDs B ds
  | .row ds => shortDs B ds
  | .str _ => False
  | .scr _ => False
  | .key _ => False
  | .dict _ => False
  | .exn _ _ _ => False
  | .ddk _ => False
def shortDs (B : Nat) : List D → Prop
  | [] => True
  | d :: ds => shortD B d ∧ shortDs B ds
end
mutual
def wide (B : Nat) : D → Nat
  | .list ds => 3 + wides B ds
  | .tuple ds => 3 + wides B ds
  | .row ds => 3 + wides B ds
  | .none => B + 5
  | .bool _ => B + 5
  | .int _ => B + 5
  | .str _ => B + 5
  | .scr _ => B + 5
  | .key _ => B + 5
  | .dict _ => B + 5
  | .exn _ _ _ => B + 5
  | .ddk _ => B + 5
def wides (B : Nat) : List D → Nat
  | [] => 0
  | d :: ds => (wide B d + 2) + wides B ds
end
mutual
def deepD : D → Nat
  | .list ds => deepDs ds + 1
  | .tuple ds => deepDs ds + 1
  | .row ds => deepDs ds + 1
  | .none => 0
  | .bool _ => 0
  | .int _ => 0
  | .str _ => 0
  | .scr _ => 0
  | .key _ => 0
  | .dict _ => 0
  | .exn _ _ _ => 0
  | .ddk _ => 0
def deepDs : List D → Nat
  | [] => 0
  | d :: ds => max (deepD d) (deepDs ds)
end
theorem shown_int_len {B : Nat} (hB : 0 < B) {i : Int} (h : i.natAbs < 10 ^ B) : (PyData.shown (.int i)).length ≤ B + 1 := by
  rw [PyData.shown_int]
  show (Str.ofString (toString i)).length ≤ B + 1
  rw [PySem.ofString_length]
  exact int_text_length_le10 hB h
theorem log2_lt10 {B : Nat} (hB : B < 570) {i : Int} (h : i.natAbs < 10 ^ B) : i.natAbs.log2 < 1920 := by
  by_cases h0 : i.natAbs = 0
  · rw [h0]
    decide
  · refine (Nat.log2_lt h0).mpr (Nat.lt_of_lt_of_le h ?_)
    exact Nat.le_trans (Nat.pow_le_pow_right (by decide) (show B ≤ 570 by omega)) (by decide +kernel)
mutual
theorem shortD_ok {B : Nat} (h0 : 0 < B) (hB : B < 570) : ∀ d : D, shortD B d → plainD d = true ∧ (pdOf d).showable = true ∧ (pdOf d).depth = deepD d ∧ (pdOf d).shown.length ≤ wide B d
  | .none, h => by
    rw [plainD, pdOf, PyData.showable, PyData.depth, deepD, wide, PyData.shown_none]
    exact ⟨rfl, rfl, rfl, Nat.le_trans (show _ ≤ 5 by decide) (by omega)⟩
  | .bool b, h => by
    rw [plainD, pdOf, PyData.showable, PyData.depth, deepD, wide, PyData.shown_bool]
    refine ⟨rfl, rfl, rfl, Nat.le_trans (show _ ≤ 5 from ?_) (by omega)⟩
    cases b <;> decide
  | .int i, h => by
    rw [shortD] at h
    rw [plainD, pdOf, PyData.showable, PyData.depth, deepD, wide]
    exact ⟨rfl, decide_eq_true (log2_lt10 hB h), rfl, Nat.le_trans (shown_int_len h0 h) (by omega)⟩
  | .str _, h => by
    rw [shortD] at h
    exact h.elim
  | .scr _, h => by
    rw [shortD] at h
    exact h.elim
  | .key _, h => by
    rw [shortD] at h
    exact h.elim
  | .dict _, h => by
    rw [shortD] at h
    exact h.elim
  | .exn _ _ _, h => by
    rw [shortD] at h
    exact h.elim
  | .ddk _, h => by
    rw [shortD] at h
    exact h.elim
  | .list ds, h => by
    rw [shortD] at h
    obtain ⟨a, b, c, d⟩ := shortDs_ok h0 hB ds h
    rw [plainD, pdOf, PyData.showable, PyData.depth, deepD, wide, PyData.shown, a, b, c]
    refine ⟨rfl, rfl, rfl, Nat.le_trans (listText_len_le _) ?_⟩
    rw [PyData.shownAll_length]
    omega
  | .tuple ds, h => by
    rw [shortD] at h
    obtain ⟨a, b, c, d⟩ := shortDs_ok h0 hB ds h
    rw [plainD, pdOf, PyData.showable, PyData.depth, deepD, wide, PyData.shown, a, b, c]
    refine ⟨rfl, rfl, rfl, Nat.le_trans (tupleText_len_le _) ?_⟩
    rw [PyData.shownAll_length]
    omega
  | .row ds, h => by
    rw [shortD] at h
    obtain ⟨a, b, c, d⟩ := shortDs_ok h0 hB ds h
    rw [plainD, pdOf, PyData.showable, PyData.depth, deepD, wide, PyData.shown, a, b, c]
    refine ⟨rfl, rfl, rfl, Nat.le_trans (tupleText_len_le _) ?_⟩
    rw [PyData.shownAll_length]
    omega
theorem shortDs_ok {B : Nat} (h0 : 0 < B) (hB : B < 570) : ∀ ds : List D, shortDs B ds → plainDs ds = true ∧ PyData.showableAll (pdOfs ds) = true ∧ PyData.depthAll (pdOfs ds) = deepDs ds ∧ ((PyData.shownAll (pdOfs ds)).map (·.length)).sum + 2 * (pdOfs ds).length ≤ wides B ds
  | [], _ => by
    rw [plainDs, pdOfs, PyData.showableAll, PyData.depthAll, deepDs, wides, PyData.shownAll]
    exact ⟨rfl, rfl, rfl, Nat.le_refl _⟩
  | d :: ds, h => by
    rw [shortDs] at h
    obtain ⟨a, b, c, e⟩ := shortD_ok h0 hB d h.1
    obtain ⟨a2, b2, c2, e2⟩ := shortDs_ok h0 hB ds h.2
    rw [plainDs, pdOfs, PyData.showableAll, PyData.depthAll, deepDs, wides, PyData.shownAll, a, b, c, a2, b2, c2]
    refine ⟨rfl, rfl, rfl, ?_⟩
    rw [List.map_cons, List.sum_cons, List.length_cons]
    omega
end
theorem repOk_of {B : Nat} {d : D} (h0 : 0 < B) (hB : B < 570) (h : shortD B d) (hr : isRefD d = true) (hd : deepD d ≤ 60) (hw : wide B d ≤ 1000000) : repOk d := by
  obtain ⟨a, b, c, e⟩ := shortD_ok h0 hB d h
  exact ⟨a, hr, b, Nat.le_trans e (Nat.le_trans hw (by decide)), by rw [c]; exact hd⟩
theorem shortDs_map {α : Type} {B : Nat} {f : α → D} : ∀ {xs : List α}, (∀ x ∈ xs, shortD B (f x)) → shortDs B (xs.map f)
  | [], _ => by rw [List.map_nil, shortDs]; trivial
  | x :: xs, h => by
    rw [List.map_cons, shortDs]
    exact ⟨h x List.mem_cons_self, shortDs_map fun y m => h y (List.mem_cons_of_mem _ m)⟩
theorem wides_map {α : Type} {B c : Nat} {f : α → D} : ∀ {xs : List α}, (∀ x ∈ xs, wide B (f x) ≤ c) → wides B (xs.map f) ≤ xs.length * (c + 2)
  | [], _ => by rw [List.map_nil, wides]; exact Nat.zero_le _
  | x :: xs, h => by
    rw [List.map_cons, wides, List.length_cons, Nat.succ_mul]
    have h1 := h x List.mem_cons_self
    have h2 := wides_map (B := B) (c := c) (f := f) (xs := xs) fun y m => h y (List.mem_cons_of_mem _ m)
    omega
theorem deepDs_map {α : Type} {c : Nat} {f : α → D} : ∀ {xs : List α}, (∀ x ∈ xs, deepD (f x) ≤ c) → deepDs (xs.map f) ≤ c
  | [], _ => by rw [List.map_nil, deepDs]; exact Nat.zero_le _
  | x :: xs, h => by
    rw [List.map_cons, deepDs]
    exact Nat.max_le.mpr ⟨h x List.mem_cons_self, deepDs_map fun y m => h y (List.mem_cons_of_mem _ m)⟩
end DL
namespace DL
open PySem PySem.Spec L2
theorem EqE.up {α : Type} [DecidableEq α] {n : Nat} {f : α → D} (h : EqE n f) : EqE (n + 1) f := ⟨h.lay, fun x => Nat.le_succ_of_le (h.dep x), h.eqv⟩
theorem od_neS {K : PySem.W.Frag} {B : Base} {i j : Str} : OpD K B rNe (.str i) (.str j) (.ok ()) (fun _ => .val (.bool (!decide (i = j)))) := od_val0 (w := .bl (!decide (i = j))) (fun G H vx vy Q _ hx hy q => by
  rw [hx.str_inv, hy.str_inv]
  refine ⟨rfl, ?_⟩
  have : decide (V.str i = V.str j) = decide (i = j) := decide_eq_decide.mpr ⟨fun h => by injection h, fun h => by rw [h]⟩
  rw [this]
  exact q) fun _ => .bl _
@[reducible] def eO {α : Type} (f : α → D) : Option α → D
  | .none => .none
  | .some x => f x
def NotN {α : Type} (f : α → D) : Prop := ∀ x, PyData.eqv .none (toPy (f x)) = false ∧ PyData.eqv (toPy (f x)) .none = false
end DL
namespace DL
open PySem PySem.Spec L2
section
variable {X : Cx} {B : Base} {ρ : List Slot} {e a b : Expr} {es : List Expr} {rest : List Stmt} {pos : Pos} {N L T α : Type} {F : Fin N L T}
variable {CX : CXT} {k : Nat} {f : Addr} {fd : FuncData} {ps : List Str} {EE : XK} {x : Str} {p : Pos}
theorem je_callQE {α β γ : Type} {ins : α → List Slot} {mf : α → R β} {sl : β → Slot} {outs : β → List Slot} (F : FnG X.prog X.w X.K X.mg X.base CX k f fd ps (spM X.K ins mf sl outs)) (hr : RoomG k X.A) (hg : Gl X x) (hm : X.mg x = some (.ref f)) (hk : PySem.W.keepIn X.K (.ref f) = true)
    (hb : Binds X.K fd ps []) (hx : Passes CX X EE) {ma : R γ} {as : γ → List Ar} {ρa : γ → List Slot} (arg : γ → α) (ρ' : γ × β → List Slot) (ha : JA X B ρ (e :: es) ma as ρa) (hne : ∀ e, ¬ B.rs e) (hi : ∀ c, goodIn (ρa c) (as c) = true := by intro _; rfl) (hins : ∀ c, insAt 0 (ρa c) (as c) = ins (arg c) := by intro _; rfl)
    (ho : ∀ c b, goodOut 0 (as c) (outs b) = true := by intro _ _; rfl) (hal : ∀ c, aliOk (ρa c) (as c) = true := by intro _; rfl) (hres : ∀ b, resOk (sl b) = true := by intro _; rfl) (hρ : ∀ c b, backAt (ρa c) (movedAt (ρa c) (as c)) (as c) (outs b) = ρ' (c, b) := by intro _ _; rfl)
    (hdb : (x == ("__debug__" : Str)) = false := by decide) (he : starEach (e :: es) X.env = (false, eval e X.env) :: starEach es X.env := by rfl) (hpl : (backTo pos (starEach es X.env)).any (·.1) = false := by rfl) :
    JE X B ρ (.Call (.Name x p) (e :: es) [] pos) (ma.bind fun c => (mf (arg c)).bind fun b => .ok (c, b)) (fun y => sl y.2) ρ' := by
  have h := je_call (pos := pos) (p := p) F hr hg hm hk hb hx arg ha hne hi hins ho hal hres hdb he hpl
  have e1 : (fun y : γ × β => backAt (ρa y.1) (movedAt (ρa y.1) (as y.1)) (as y.1) (outs y.2)) = ρ' := funext fun y => hρ y.1 y.2
  rw [e1] at h
  exact h
theorem je_callQ {α β : Type} {ins : α → List Slot} {mf : α → R β} {sl : β → Slot} {outs : β → List Slot} (F : FnG X.prog X.w X.K X.mg X.base CX k f fd ps (spM X.K ins mf sl outs)) (hr : RoomG k X.A) (hg : Gl X x) (hm : X.mg x = some (.ref f)) (hk : PySem.W.keepIn X.K (.ref f) = true)
    (hb : Binds X.K fd ps []) (hx : Passes CX X EE) {as : List Ar} (arg : α) (ρ' : β → List Slot) (ha : JA X B ρ (e :: es) (.ok ()) (fun _ => as) (fun _ => ρ)) (hne : ∀ e, ¬ B.rs e) (hi : goodIn ρ as = true := by rfl) (hins : insAt 0 ρ as = ins arg := by rfl)
    (ho : ∀ b, goodOut 0 as (outs b) = true := by intro _; rfl) (hal : aliOk ρ as = true := by rfl) (hres : ∀ b, resOk (sl b) = true := by intro _; rfl) (hρ : ∀ b, backAt ρ (movedAt ρ as) as (outs b) = ρ' b := by intro _; rfl)
    (hdb : (x == ("__debug__" : Str)) = false := by decide) (he : starEach (e :: es) X.env = (false, eval e X.env) :: starEach es X.env := by rfl) (hpl : (backTo pos (starEach es X.env)).any (·.1) = false := by rfl) :
    JE X B ρ (.Call (.Name x p) (e :: es) [] pos) (mf arg) sl ρ' := by
  have h := je_callP (pos := pos) (p := p) F hr hg hm hk hb hx arg ha hne hi hins ho hal hres hdb he hpl
  have e1 : (fun y => backAt ρ (movedAt ρ as) as (outs y)) = ρ' := funext hρ
  rw [e1] at h
  exact h
theorem js_setPQ (i : Nat) {x : Str} {pos' : Pos} (en : α → D) (v : α) (ρ2 : α → List Slot) {k : α → R (Fl N L T)} (hN : X.N.Nodup) (h : JP X B ρ e (en v)) (r : ∀ x, JSs X B (ρ2 x) rest (k x) F) (hq : ∀ x, ρ.set i (.val (en x)) = ρ2 x := by intro _; rfl) (hi : X.N[i]? = some x := by rfl) (hx : Loc X.env.scope x := by first | exact Or.inl rfl | exact Or.inr rfl)
    (hlt : i < ρ.length := by exact of_decide_eq_true rfl) (hal : noAli i ρ = true := by rfl) (hs : swapsWith e (some (.Name x pos')) pos.line X.env = pure false := by rfl) (hf : X.fn x = true ∨ X.env.scope.names.lookup x = some .local := by first | exact .inl rfl | exact .inr rfl) :
    JSs X B ρ (.Assign [.Name x pos'] e pos :: rest) (lt v k) F :=
  js_setP i en v hN h (fun x => by rw [hq x]; exact r x) hi hx hlt hal hs hf
theorem js_setEQ (i : Nat) {x : Str} {pos' : Pos} (en : α → D) {β : Type} {m : R β} (v : β → α) {ρ' : β → List Slot} (ρ2 : β → α → List Slot) {k : β → α → R (Fl N L T)} (hN : X.N.Nodup) (h : JE X B ρ e m (fun b => .val (en (v b))) ρ') (r : ∀ b x, JSs X B (ρ2 b x) rest (k b x) F) (hq : ∀ b x, (ρ' b).set i (.val (en x)) = ρ2 b x := by intro _ _; rfl) (hi : X.N[i]? = some x := by rfl) (hx : Loc X.env.scope x := by first | exact Or.inl rfl | exact Or.inr rfl)
    (hlt : ∀ b, i < (ρ' b).length := by intro _; exact of_decide_eq_true rfl) (hal : ∀ b, noAli i (ρ' b) = true := by intro _; rfl) (hs : swapsWith e (some (.Name x pos')) pos.line X.env = pure false := by rfl) (hf : X.fn x = true ∨ X.env.scope.names.lookup x = some .local := by first | exact .inl rfl | exact .inr rfl) :
    JSs X B ρ (.Assign [.Name x pos'] e pos :: rest) (m.bind fun b => lt (v b) (k b)) F :=
  js_setE i en v hN h (fun b x => by rw [hq b x]; exact r b x) hi hx hlt hal hs hf
theorem js_setOQ (i : Nat) {x : Str} {pos' : Pos} (on : α → OT) {β : Type} {m : R β} (v : β → α) {ρ' : β → List Slot} (ρ2 : β → α → List Slot) {k : β → α → R (Fl N L T)} (hN : X.N.Nodup) (h : JE X B ρ e m (fun b => .own 0 (on (v b))) ρ') (r : ∀ b x, JSs X B (ρ2 b x) rest (k b x) F) (hq : ∀ b x, (ρ' b).set i (.own 0 (on x)) = ρ2 b x := by intro _ _; rfl) (hi : X.N[i]? = some x := by rfl) (hx : Loc X.env.scope x := by first | exact Or.inl rfl | exact Or.inr rfl)
    (hlt : ∀ b, i < (ρ' b).length := by intro _; exact of_decide_eq_true rfl) (hal : ∀ b, noAli i (ρ' b) = true := by intro _; rfl) (hs : swapsWith e (some (.Name x pos')) pos.line X.env = pure false := by rfl) (hf : X.fn x = true ∨ X.env.scope.names.lookup x = some .local := by first | exact .inl rfl | exact .inr rfl) :
    JSs X B ρ (.Assign [.Name x pos'] e pos :: rest) (m.bind fun b => lt (v b) (k b)) F :=
  js_setO i on v hN h (fun b x => by rw [hq b x]; exact r b x) hi hx hlt hal hs hf
theorem js_consQ1 {st : Stmt} {β : Type} {m : R β} {ρ' : β → List Slot} (ρ2 : β → List Slot) {k : β → R (Fl N L T)} (h : J1 X B ρ st m ρ') (r : ∀ b, JSs X B (ρ2 b) rest (k b) F) (hq : ∀ b, ρ' b = ρ2 b := by intro _; rfl) : JSs X B ρ (st :: rest) (m.bind k) F :=
  js_cons1 h fun b => by rw [hq b]; exact r b
theorem js_consQP {st : Stmt} {ρ' : List Slot} (ρ2 : List Slot) {k : R (Fl N L T)} (h : J1 X B ρ st (.ok ()) (fun _ => ρ')) (r : JSs X B ρ2 rest k F) (hq : ρ' = ρ2 := by rfl) : JSs X B ρ (st :: rest) k F :=
  js_consP h (by rw [hq]; exact r)
end
end DL
namespace DL
open PySem PySem.Spec L2
section
variable {X : Cx} {B : Base} {ρ : List Slot} {N L T : Type}
end
end DL
namespace DL
open PySem PySem.Spec L2
instance (a b : Int) : Decidable (RgOk a b) := by unfold RgOk; infer_instance
section
variable {β : Type}
@[reducible] def odK (f : β → D) (kvs : List (Int × β)) : OT := .dk (kvs.map fun p => (Sum.inl p.1, f p.2))
def hasK (k : Int) (kvs : List (Int × β)) : Bool := kvs.any fun p => decide (p.1 = k)
def putI (kvs : List (Int × β)) (k : Int) (v : β) : List (Int × β) := if hasK k kvs = true then kvs.map (fun p => if p.1 = k then (p.1, v) else p) else kvs ++ [(k, v)]
def mergeI (kvs more : List (Int × β)) : List (Int × β) := more.foldl (fun acc p => putI acc p.1 p.2) kvs
end
section
variable {K : PySem.W.Frag} {G : Hp} {β : Type} {f : β → D}
end
section
variable {K : PySem.W.Frag} {B : Base} {G H : Hp} {σ : L2.St} {ρ : List Slot} {ex : List (V × Slot)}
end
section
variable {X : Cx} {B : Base} {ρ : List Slot} {e a b o2 val : Expr} {es : List Expr} {pos pos' : Pos} {β γ : Type}
def rDictP (K : PySem.W.Frag) : List V → Hp → VK → Prop := fun xs H Q => ∃ (a : Addr) (ps : List Addr) (kvs : List (Key × V)), xs = [.ref a] ∧ SqL K H a (ps.map V.ref) ∧ Paired (fun p kv => SqT K H p [kV kv.1, kv.2]) ps kvs ∧
    ∀ p, H p = none → Q (.ref p) (upd H p (.dK (mergeK [] kvs)))
theorem paired_ex {K : PySem.W.Frag} {G H : Hp} (e : Ex G H) : ∀ {ps : List Addr} {kvs : List (Key × V)}, Paired (fun p kv => SqT K G p [kV kv.1, kv.2]) ps kvs → Paired (fun p kv => SqT K H p [kV kv.1, kv.2]) ps kvs
  | _, _, .nil => .nil
  | _, _, .cons h r => .cons (e.t h) (paired_ex e r)
def sortI (ns : List Int) : List Int := ns.mergeSort (fun a b => decide (a ≤ b))
end
end DL
namespace DL
open PySem PySem.Spec L2
section
variable {X : Cx} {B : Base} {ρ : List Slot} {pos : Pos}
end
end DL
namespace DL
open PySem PySem.Spec L2
def rExt3 : V → List V → Hp → VK → Prop := fun x vs H Q => ∃ l b xs zs, x = .ref l ∧ vs = [.ref b] ∧ H l = some (.lst xs) ∧ Rd H b (.lst zs) ∧ xs.length + zs.length ≤ sizeLine ∧ Q .non (upd H l (.lst (xs ++ zs)))
section
variable {X : Cx} {B : Base} {ρ : List Slot} {pos : Pos} {e : Expr}
end
end DL
namespace DL
open PySem PySem.Spec L2
def labFree (L : Nat) : List Slot → Bool
  | [] => true
  | .own l _ :: r => l != L && labFree L r
  | _ :: r => labFree L r
def labFree1 (L : Nat) : Slot → Bool
  | .own l _ => l != L
  | _ => true
theorem labFree_cons {L : Nat} {s : Slot} {r : List Slot} : labFree L (s :: r) = (labFree1 L s && labFree L r) := by
  cases s <;> simp [labFree, labFree1]
def Base.pin (B : Base) (L : Nat) (hL : L ≠ 0) (A : List Addr) (v : V) : Base :=
  { B with Mo := fun l => if l = L then B.Mo l ++ A else B.Mo l, m0 := by rw [if_neg (fun h => hL h.symm)]; exact B.m0, pv := fun l => if l = L then some v else B.pv l }
section
variable {K : PySem.W.Frag} {B : Base} {G H : Hp} {σ : L2.St} {ρ : List Slot} {ex : List (V × Slot)} {L : Nat} {hL : L ≠ 0} {A : List Addr} {v : V}
theorem Anc.pin (h : Anc B G H) (hA : ∀ a ∈ A, H a ≠ none) : Anc (B.pin L hL A v) G H := by
  refine ⟨fun a o hm e => h.keep a o (fun l m => hm l ?_) e, fun a l m => ?_, h.gsub, h.gnew, h.sub⟩
  · show a ∈ (if l = L then B.Mo l ++ A else B.Mo l)
    split
    · exact List.mem_append_left _ m
    · exact m
  · have m : a ∈ (if l = L then B.Mo l ++ A else B.Mo l) := m
    split at m
    · rcases List.mem_append.mp m with m | m
      · exact h.there a l m
      · exact hA a m
    · exact h.there a l m
theorem Anc.unpin (h : Anc (B.pin L hL A v) G H) (h0 : ∀ a ∈ A, B.H0 a = none) : Anc B G H := by
  refine ⟨fun a o hm e => h.keep a o (fun l m => ?_) e, fun a l m => h.there a l ?_, h.gsub, h.gnew, h.sub⟩
  · have m : a ∈ (if l = L then B.Mo l ++ A else B.Mo l) := m
    split at m
    · rcases List.mem_append.mp m with m | m
      · exact hm l m
      · rw [h0 a m] at e
        cases e
    · exact hm l m
  · show a ∈ (if l = L then B.Mo l ++ A else B.Mo l)
    split
    · exact List.mem_append_left _ m
    · exact m
theorem Cell.pin {x : Option V} {s : Slot} {A1 : List Addr} (h : Cell K B G H x s A1) (hf : labFree1 L s = true) : Cell K (B.pin L hL A v) G H x s A1 := by
  cases h with
  | non => exact .non
  | val r => exact .val r
  | ali => exact .ali
  | @own w l o _ hO hr hp =>
    have hl : l ≠ L := by simpa [labFree1] using hf
    refine .own hO (fun a m => ?_) (hp.imp id fun z => ?_)
    · rcases hr a m with z | z
      · refine .inl ?_
        show a ∈ (if l = L then B.Mo l ++ A else B.Mo l)
        rw [if_neg hl]
        exact z
      · exact .inr z
    · show (if l = L then some v else B.pv l) = _
      rw [if_neg hl]
      exact z
theorem Cell.unpin {x : Option V} {s : Slot} {A1 : List Addr} (h : Cell K (B.pin L hL A v) G H x s A1) (hf : labFree1 L s = true) : Cell K B G H x s A1 := by
  cases h with
  | non => exact .non
  | val r => exact .val r
  | ali => exact .ali
  | @own w l o _ hO hr hp =>
    have hl : l ≠ L := by simpa [labFree1] using hf
    refine .own hO (fun a m => ?_) (hp.imp id fun z => ?_)
    · rcases hr a m with z | z
      · refine .inl ?_
        have z : a ∈ (if l = L then B.Mo l ++ A else B.Mo l) := z
        rw [if_neg hl] at z
        exact z
      · exact .inr z
    · have z : (if l = L then some v else B.pv l) = some w := z
      rw [if_neg hl] at z
      exact z
theorem Cells.pin : ∀ {τ : List (Option V)} {r : List Slot} {A1 : List Addr}, Cells K B G H τ r A1 → labFree L r = true → Cells K (B.pin L hL A v) G H τ r A1
  | _, _, _, .nil, _ => .nil
  | _, _, _, .cons c r, hf => by
    rw [labFree_cons, Bool.and_eq_true] at hf
    exact .cons (c.pin hf.1) (Cells.pin r hf.2)
theorem Cells.unpin : ∀ {τ : List (Option V)} {r : List Slot} {A1 : List Addr}, Cells K (B.pin L hL A v) G H τ r A1 → labFree L r = true → Cells K B G H τ r A1
  | _, _, _, .nil, _ => .nil
  | _, _, _, .cons c r, hf => by
    rw [labFree_cons, Bool.and_eq_true] at hf
    exact .cons (c.unpin hf.1) (Cells.unpin r hf.2)
theorem labFree_set : ∀ {r : List Slot} {i : Nat} {s : Slot}, labFree L r = true → labFree1 L s = true → labFree L (r.set i s) = true
  | [], _, _, _, _ => rfl
  | x :: r, 0, s, h, k => by
    rw [labFree_cons, Bool.and_eq_true] at h
    rw [List.set_cons_zero, labFree_cons, k, h.2]
    rfl
  | x :: r, i + 1, s, h, k => by
    rw [labFree_cons, Bool.and_eq_true] at h
    rw [List.set_cons_succ, labFree_cons, h.1, labFree_set h.2 k]
    rfl
theorem En.pin (E : En K B G H σ ρ []) {i : Nat} {o : OT} (h : ρ[i]? = some (.own 0 o)) (hf : labFree L ρ = true) (hal : noAlis ρ = true) (hL : L ≠ 0) :
    ∃ B' : Base, B'.rs = B.rs ∧ En K B' G H σ (ρ.set i (.own L o)) [] ∧ ∀ G1 H1 σ1 ρ1 ex1, En K B' G1 H1 σ1 ρ1 ex1 → labFree L (ex1.map (·.2) ++ ρ1) = true → En K B G1 H1 σ1 ρ1 ex1 := by
  obtain ⟨A0, c, n, g⟩ := E.own
  have c : Cells K B G H σ ρ A0 := c
  obtain ⟨v, A, A2, e1, hO, ⟨hl, hp⟩, c2, pm⟩ := Cells.take1 c h
  have hi : i < ρ.length := (List.getElem?_eq_some_iff.mp h).1
  have h0 : ∀ a ∈ A, B.H0 a = none := fun a m => (hl a m).resolve_left (by rw [B.m0]; exact fun z => nomatch z)
  have c3 : Cells K (B.pin L hL A v) G H σ (ρ.set i .non) A2 := Cells.pin c2 (labFree_set hf rfl)
  obtain ⟨A3, c4, p4⟩ := c3.put1 (i := i) (l := L) (o := o) (v := v) (A1 := A) (by rw [List.getElem?_set_self hi]) e1 hO ⟨fun a m => .inl (by
    show a ∈ (if L = L then B.Mo L ++ A else B.Mo L)
    rw [if_pos rfl]
    exact List.mem_append_right _ m), .inr (by
    show (if L = L then some v else B.pv L) = some v
    rw [if_pos rfl])⟩
  rw [List.set_set] at c4
  have pp : A3.Perm A0 := p4.trans pm.symm
  refine ⟨B.pin L hL A v, rfl, ⟨E.anc.pin fun a m z => ?_, ⟨A3, c4, pp.nodup_iff.mpr n, fun a m => g a (pp.mem_iff.mp m)⟩, by rw [List.length_set]; exact E.len, fun k j p e => ?_⟩, fun G1 H1 σ1 ρ1 ex1 E1 hf1 => ?_⟩
  · obtain ⟨u, hu⟩ := hO.there a m
    rw [hu] at z
    cases z
  · by_cases hk : i = k
    · subst hk
      rw [List.getElem?_set_self hi] at e
      cases e
    · rw [List.getElem?_set_ne hk] at e
      exact absurd e (noAlis_get hal)
  · obtain ⟨A5, c5, n5, g5⟩ := E1.own
    exact ⟨E1.anc.unpin h0, ⟨A5, Cells.unpin c5 hf1, n5, g5⟩, E1.len, E1.ali⟩
end
section
variable {X : Cx} {B : Base} {ρ : List Slot} {pos : Pos} {tg : Expr}
end
end DL
namespace DL
open PySem PySem.Spec L2
section
variable {K : PySem.W.Frag} {B : Base} {G H : Hp} {σ : L2.St} {ρ : List Slot} {ex : List (V × Slot)}
theorem Cells.snoc {x : Option V} {s : Slot} {A1 : List Addr} : ∀ {σ : L2.St} {ρ : List Slot} {A : List Addr}, Cells K B G H σ ρ A → Cell K B G H x s A1 → Cells K B G H (σ ++ [x]) (ρ ++ [s]) (A ++ A1)
  | _, _, _, .nil, h => by
    have := Cells.cons h (Cells.nil (K := K) (B := B) (G := G) (H := H))
    rw [List.append_nil] at this
    exact this
  | _, _, _, .cons c r, h => by
    rw [List.append_assoc]
    exact .cons c (Cells.snoc r h)
theorem Cells.unsnoc : ∀ {σ : L2.St} {ρ : List Slot} {x : Option V} {s : Slot} {A : List Addr}, Cells K B G H (σ ++ [x]) (ρ ++ [s]) A → σ.length = ρ.length → ∃ A', Cells K B G H σ ρ A' ∧ A'.Sublist A
  | [], [], _, _, _, _, _ => ⟨[], .nil, List.nil_sublist _⟩
  | _ :: σ, _ :: ρ, _, _, _, .cons (A := A1) c r, hl => by
    obtain ⟨A', h1, h2⟩ := Cells.unsnoc (σ := σ) (ρ := ρ) r (by simpa using hl)
    exact ⟨A1 ++ A', .cons c h1, h2.append_left _⟩
  | [], _ :: _, _, _, _, _, hl => by simp at hl
  | _ :: _, [], _, _, _, _, hl => by simp at hl
theorem En.toSlot {v : V} {o : OT} (E : En K B G H σ ρ [(v, .own 0 o)]) (hal : noAlis ρ = true) : En K B G H (σ ++ [some v]) (ρ ++ [.own 0 o]) [] := by
  obtain ⟨A0, c, n, g⟩ := E.own
  cases c with
  | @cons _ _ A1 _ _ A2 c1 cr =>
    have c3 := Cells.snoc (show Cells K B G H σ ρ A2 from cr) c1
    have pm : (A2 ++ A1).Perm (A1 ++ A2) := List.perm_append_comm
    refine ⟨E.anc, ⟨A2 ++ A1, c3, pm.nodup_iff.mpr n, fun a m => g a (pm.mem_iff.mp m)⟩, by simp [E.len], fun k j p e => ?_⟩
    by_cases hk : k < ρ.length
    · rw [List.getElem?_append_left hk] at e
      exact absurd e (noAlis_get hal)
    · rw [List.getElem?_append_right (by omega)] at e
      match h : k - ρ.length, e with
      | 0, e => simp at e
      | _ + 1, e => simp at e
theorem En.dropSlot {x : Option V} {s : Slot} {v : V} {s' : Slot} (E : En K B G H (σ ++ [x]) (ρ ++ [s]) [(v, s')]) (hal : noAlis ρ = true) (hl : σ.length = ρ.length) : En K B G H σ ρ [(v, s')] := by
  obtain ⟨A0, c, n, g⟩ := E.own
  cases c with
  | @cons _ _ A1 _ _ A2 c1 cr =>
    obtain ⟨A', h1, h2⟩ := Cells.unsnoc (show Cells K B G H (σ ++ [x]) (ρ ++ [s]) A2 from cr) hl
    have sub : (A1 ++ A').Sublist (A1 ++ A2) := h2.append_left A1
    exact ⟨E.anc, ⟨A1 ++ A', .cons c1 h1, sub.nodup n, fun a m => g a (sub.subset m)⟩, hl, fun k j p e => absurd e (noAlis_get hal)⟩
theorem insAt_vals : ∀ {as : List Ar} {n : Nat} {ρ ρ' : List Slot}, noSlots as = true → insAt n ρ as = insAt n ρ' as
  | [], _, _, _, _ => by rw [insAt, insAt]
  | .val d :: as, n, ρ, ρ', h => by
    rw [insAt, insAt, insAt_vals (as := as) (ρ := ρ) (ρ' := ρ') h]
theorem goodIn_vals : ∀ {as : List Ar} {ρ : List Slot}, noSlots as = true → goodIn ρ as = true
  | [], _, _ => by rw [goodIn]
  | .val d :: as, ρ, h => by
    rw [goodIn]
    exact goodIn_vals (as := as) h
theorem ArOk.re {σ' : L2.St} : ∀ {vs : List V} {as : List Ar}, ArOk K G σ vs as → noSlots as = true → ArOk K G σ' vs as
  | _, _, .nil, _ => .nil
  | _, _, .val r q, h => .val r (ArOk.re q h)
theorem noAlis_snoc : ∀ {ρ : List Slot} {l : Nat} {o : OT}, noAlis ρ = true → noAlis (ρ ++ [.own l o]) = true
  | [], _, _, _ => rfl
  | s :: ρ, l, o, h => by
    cases s with
    | ali _ _ => simp [noAlis] at h
    | non => exact noAlis_snoc (ρ := ρ) h
    | val _ => exact noAlis_snoc (ρ := ρ) h
    | own _ _ => exact noAlis_snoc (ρ := ρ) h
end
section
variable {X : Cx} {B : Base} {ρ : List Slot} {e0 : Expr} {es : List Expr} {pos : Pos} {CX : CXT} {k : Nat} {f : Addr} {fd : FuncData} {ps : List Str} {EE : XK} {x : Str} {p : Pos}
end
section
variable {X : Cx} {B : Base} {ρ : List Slot} {pos : Pos} {a : Expr} {β : Type}
theorem je_nameO (i : Nat) {x : Str} {o : OT} (h : ρ[i]? = some (.own 0 o) := by rfl) (hal : noAlis ρ = true := by rfl) (hN : X.N[i]? = some x := by rfl) (hv : Vis X.env.scope x := by first | exact Or.inl rfl | exact Or.inr (Or.inl rfl) | exact Or.inr (Or.inr rfl))
    (hd : (x == ("__debug__" : Str)) = false := by decide) (hcd : (x == ("__classdict__" : Str)) = false := by decide) : JE X B ρ (.Name x pos) (.ok ()) (fun _ => .own 0 o) (fun _ => ρ.set i .non) :=
  PE_imp (pv i hN hv hd hcd) fun σ H Q ⟨G, E, q⟩ => by
    obtain ⟨A, c, n, g⟩ := E.own
    obtain ⟨v, A1, A2, e1, hO, hl, c2, pm⟩ := Cells.take1 (show Cells X.K B G H σ ρ A from c) h
    exact ⟨v, e1, q v G H (Ex.refl _) ⟨E.anc, ⟨A1 ++ A2, .cons (.own hO hl.1 hl.2) c2, pm.nodup_iff.mp n, fun a m => g a (pm.mem_iff.mpr m)⟩, by rw [List.length_set]; exact E.len, fun k j p e => by
      by_cases hk : i = k
      · subst hk
        rw [List.getElem?_set_self (List.getElem?_eq_some_iff.mp h).1] at e
        cases e
      · rw [List.getElem?_set_ne hk] at e
        exact absurd e (noAlis_get hal)⟩⟩
end
end DL
namespace HT
open PySem PySem.Spec PyProof.Rows
section
variable {prog : Program} {w : World} {A : Around} {E : Value → Shared → Prop} {s : Shared}
end
end HT
namespace L2
open PySem PySem.Spec PyProof.Rows
section
variable {X : Cx}
def tRevT (K : PySem.W.Frag) (j : Nat) (te : TE) : TE := fun σ H Q => te σ H fun x H1 => ∃ a xs, x = .ref a ∧ SqT K H1 a xs ∧ j ≤ xs.length ∧ ∀ p, H1 p = none → Q (.ref p) (upd H1 p (.tup (xs.drop j).reverse))
end
end L2
namespace DL
open PySem PySem.Spec L2
section
variable {X : Cx} {B : Base} {ρ : List Slot} {pos : Pos} {a : Expr} {β α : Type} {K : PySem.W.Frag}
end
end DL
namespace DL
def nub : List Int → List Int
  | [] => []
  | x :: l => if x ∈ l then nub l else x :: nub l
end DL
namespace L2
open PySem PySem.Spec PyProof.Rows
section
variable {X : Cx}
def rSetTI (K : PySem.W.Frag) : List V → Hp → VK → Prop := fun xs H Q => ∃ (a : Addr) (ns : List Int), xs = [V.ref a] ∧ SqT K H a (ns.map V.int) ∧ ns.length ≤ 1000 ∧
  ∀ p S, H p = none → Q (.ref p) (upd H p (.set S (DL.nub ns).length))
def rLenSet : List V → Hp → VK → Prop := fun xs H Q => ∃ (p : Addr) (S : Int → Bool) (n : Nat), xs = [V.ref p] ∧ H p = some (.set S n) ∧ Q (.int n) H
end
end L2
namespace DL
open PySem PySem.Spec L2
section
variable {X : Cx} {B : Base} {ρ : List Slot} {pos : Pos} {a : Expr}
end
end DL
namespace DL
open PySem PySem.Spec L2
section
variable {K : PySem.W.Frag} {B : Base}
end
section
variable {X : Cx} {B : Base} {ρ : List Slot} {a b c e : Expr}
end
end DL
namespace L2
open PySem PySem.Spec PyProof.Rows
section
variable {X : Cx}
def rMinTI (K : PySem.W.Frag) : List V → Hp → VK → Prop := fun vs H Q => ∃ (a : Addr) (ns : List Int), vs = [V.ref a] ∧ SqT K H a (ns.map V.int) ∧ ns ≠ [] ∧ ∀ m, m ∈ ns → (∀ y, y ∈ ns → m ≤ y) → Q (.int m) H
end
end L2
namespace DL
open PySem PySem.Spec L2
section
variable {K : PySem.W.Frag} {B : Base} {ρ : List Slot}
end
end DL
namespace DL
open PySem PySem.Spec L2
@[reducible] def eK2 (p : Int × Int) : D := .key [p.1, p.2]
def kyP (p : Int × Int) : List Key := [Sum.inl p.1, Sum.inl p.2]
theorem Rp.key_inv {K : PySem.W.Frag} {G : Hp} {v : V} {p : Int × Int} (h : Rp K G v (eK2 p)) : ∃ a, v = .ref a ∧ G a = some (.tup ((kyP p).map kV)) := by
  cases h with
  | key h => exact ⟨_, rfl, h⟩
section
variable {β : Type}
@[reducible] def odT (f : β → D) (kvs : List ((Int × Int) × β)) : OT := .dt (kvs.map fun p => (kyP p.1, f p.2))
def hasT (k : Int × Int) (kvs : List ((Int × Int) × β)) : Bool := kvs.any fun p => decide (p.1 = k)
def putT (kvs : List ((Int × Int) × β)) (k : Int × Int) (v : β) : List ((Int × Int) × β) := if hasT k kvs = true then kvs.map (fun p => if p.1 = k then (p.1, v) else p) else kvs ++ [(k, v)]
def mergeT (kvs more : List ((Int × Int) × β)) : List ((Int × Int) × β) := more.foldl (fun acc p => putT acc p.1 p.2) kvs
end
section
variable {K : PySem.W.Frag} {G : Hp} {β : Type} {f : β → D}
end
section
variable {K : PySem.W.Frag} {B : Base} {G H : Hp} {σ : L2.St} {ρ : List Slot} {ex : List (V × Slot)}
end
section
variable {X : Cx} {B : Base} {ρ : List Slot} {e a b o2 val : Expr} {es : List Expr} {pos pos' : Pos} {β γ : Type}
end
end DL
namespace L2
open PySem PySem.Spec PyProof.Rows
def mergeL (kvs more : List (List Key × V)) : List (List Key × V) := more.foldl (fun acc kv => putK acc kv.1 kv.2) kvs
section
variable {X : Cx}
def rDictT (K : PySem.W.Frag) : List V → Hp → VK → Prop := fun xs H Q => ∃ (a : Addr) (ps : List Addr) (kvs : List (List Key × V)), xs = [.ref a] ∧ SqL K H a (ps.map V.ref) ∧
  Paired (fun p (kv : List Key × V) => ∃ b, SqT K H p [.ref b, kv.2] ∧ H b = some (.tup (kv.1.map kV))) ps kvs ∧ ∀ p, H p = none → Q (.ref p) (upd H p (.dT (mergeL [] kvs)))
end
end L2
namespace L2
open PySem PySem.Spec PyProof.Rows
section
variable {X : Cx}
def rUpdT (P : Program) (w : World) : V → List V → Hp → VK → Prop := fun x xs H Q => ∃ (a b : Addr) (kvs kws : List (List Key × V)), x = .ref a ∧ xs = [.ref b] ∧ a ≠ b ∧ H a = some (.dT kvs) ∧ H b = some (.dT kws) ∧
  (kvs ≠ [] ∨ (kws.map fun p => (tupleKind (mixKind P w)).hash p.1).Nodup) ∧ kvs.length + kws.length ≤ sizeLine ∧ Q .non (upd H a (.dT (mergeL kvs kws)))
end
end L2
namespace DL
open PySem PySem.Spec L2
def khash (p : Int × Int) : Int := reduceHash (Builtin.Tuple.tupleHashOf [hashInt p.1, hashInt p.2])
section
variable {K : PySem.W.Frag} {B : Base} {ρ : List Slot} {β : Type} {f : β → D}
end
section
variable {X : Cx} {B : Base} {ρ : List Slot} {pos : Pos} {e : Expr}
end
end DL
namespace DL
open PySem PySem.Spec L2 PySem.W PyProof.Rows
noncomputable def srtD {α : Type} (f : α → D) (xs : List α) : List α := xs.mergeSort (dataLe false fun x => pdOf (f x))
def SortOk {α : Type} (f : α → D) (xs : List α) : Prop := (∀ x ∈ xs, plainD (f x) = true) ∧ AllAlike (xs.map fun x => pdOf (f x)) ∧ Sortable (xs.map fun x => pdOf (f x)) ∧ ∀ x ∈ xs, (pdOf (f x)).depth ≤ 50
section
variable {X : Cx} {pins : List (Addr × Obj)} {σ : L2.St} {G H : Hp} {s : Shared} {α : Type} {f : α → D}
def VR (K : PySem.W.Frag) (G : Hp) (f : α → D) (v : Value) (b : α) : Prop := ∃ x, RelV x v ∧ Rp K G x (f b)
def rSortD (K : PySem.W.Frag) (f : α → D) (xs : List α) : List V → Hp → VK → Prop := fun vs H Q => ∃ (a : Addr) (G : Hp) (ys : List V), vs = [V.ref a] ∧ Ex G H ∧ Rd G a (.lst ys) ∧ RpAll K G ys (xs.map f) ∧ SortOk f xs ∧
  ∀ (zs : List V) (p : Addr), RpAll K G zs ((srtD f xs).map f) → H p = none → Q (.ref p) (upd H p (.lst zs))
end
section
variable {K : PySem.W.Frag} {B : Base} {ρ : List Slot} {α : Type} {f : α → D}
open Classical in
theorem cb_sortD {xs : List α} {c : Prop} [Decidable c] (hc : c → SortOk f xs) : CbD K B ρ (rSortD K f xs) [.val (eL f xs)] (R.guard c) (fun _ => .own 0 (oL f (srtD f xs))) := fun G H σ vs Q E ok q => by
  obtain ⟨h1, q⟩ := R.post_guard q
  obtain ⟨v, rfl, r⟩ := ok.one
  obtain ⟨p, ws, rfl, hS, hr⟩ := r.lst_inv
  exact ⟨p, G, ws, rfl, E.sub, hS, hr, hc h1, fun zs p' a hp => q _ G _ (Ex.refl G) (E.newL hp a)⟩
end
end DL
namespace DL
open PySem PySem.Spec L2 PySem.W PyProof.Rows
def minP : List (Int × Int) → Int × Int
  | [] => (0, 0)
  | x :: xs => minOf x xs
section
variable {X : Cx} {pins : List (Addr × Obj)} {σ : L2.St} {G H : Hp} {s : Shared}
def rMinK2 (K : PySem.W.Frag) : List V → Hp → VK → Prop := fun vs H Q => ∃ (a : Addr) (G : Hp) (ys : List V) (x : Int × Int) (xs : List (Int × Int)), vs = [V.ref a] ∧ Ex G H ∧ Rd G a (.lst ys) ∧ RpAll K G ys ((x :: xs).map eK2) ∧ ∀ v, Rp K G v (eK2 (minOf x xs)) → Q v H
end
section
variable {K : PySem.W.Frag} {B : Base} {ρ : List Slot}
end
end DL
namespace DL
open PySem PySem.Spec L2 PySem.W PyProof.Rows
section
variable {K : PySem.W.Frag} {B : Base} {ρ : List Slot}
end
end DL
namespace DL
open PySem PySem.Spec L2
section
variable {X : Cx} {B : Base} {ρ : List Slot} {pos : Pos} {obj e : Expr}
end
end DL
namespace L2
open PySem PySem.Spec PyProof.Rows
section
variable {X : Cx} {es : List Expr} {pos : Pos} {t : TA}
def tTupF (t : TA) : TE := fun σ H Q => t σ H fun vs H1 => vs.length ≤ sizeLine ∧ ∀ p ob, H1 p = none → ob.dict = none → Q (.ref p) (upd H1 p (.frz ob (.tup vs)))
end
end L2
namespace DL
open PySem PySem.Spec L2
section
variable {X : Cx} {B : Base} {ρ : List Slot} {pos : Pos}
end
end DL
namespace DL
open PySem PySem.Spec L2
section
variable {X : Cx} {B : Base} {ρ : List Slot} {pos : Pos}
end
section
variable {X : Cx} {B : Base} {ρ : List Slot} {pos : Pos} {a : Expr} {β : Type}
end
end DL
namespace L2
open PySem PySem.Spec PyProof.Rows
section
variable {X : Cx}
def rSetLI (K : PySem.W.Frag) : List V → Hp → VK → Prop := fun xs H Q => ∃ (a : Addr) (ns : List Int), xs = [V.ref a] ∧ SqL K H a (ns.map V.int) ∧ ns.length ≤ 1000 ∧
  ∀ p S, H p = none → Q (.ref p) (upd H p (.set S (DL.nub ns).length))
end
end L2
namespace DL
open PySem PySem.Spec L2
section
variable {X : Cx} {B : Base} {ρ : List Slot} {pos : Pos} {a : Expr}
end
end DL
namespace DL
open PySem PySem.Spec L2
section
variable {X : Cx} {B : Base} {ρ : List Slot} {pos : Pos} {obj e : Expr} {es : List Expr}
end
section
variable {K : PySem.W.Frag}
def popAt {α : Type} (xs : List α) (i : Int) : Option (α × Nat) := if 0 ≤ i ∧ i < 2 ^ 62 then (xs[i.toNat]?).map fun x => (x, i.toNat) else none
end
end DL
namespace DL
open PySem PySem.Spec PyProof.Rows L2
section
variable {X : Cx} {B : Base} {ρ : List Slot} {pos : Pos} {e obj : Expr}
end
end DL
namespace DL
open PySem PySem.Spec PyProof.Rows L2
def asI : D → Option Int
  | .int i => some i
  | _ => none
def asT : D → Option (List D)
  | .tuple ds => some ds
  | .row ds => some ds
  | .key ks => some (ks.map D.int)
  | _ => none
def asIs : List D → Option (List Int)
  | [] => some []
  | d :: ds => match asI d, asIs ds with
    | some i, some l => some (i :: l)
    | _, _ => none
def asTI (d : D) : Option (List Int) := (asT d).bind asIs
def as3I (d : D) : Option (Int × Int × Int) := match asTI d with
  | some [a, b, c] => some (a, b, c)
  | _ => none
section
variable {X : Cx} {B : Base} {ρ : List Slot} {pos : Pos} {a b c e : Expr}
end
section
variable {K : PySem.W.Frag} {B : Base} {ρ : List Slot}
def strI (i : Int) : Str := toString i
end
end DL
namespace L2
open PySem PySem.Spec PyProof.Rows HT
section
variable {X : Cx}
def rSlR (K : PySem.W.Frag) : V → Option Int → Option Int → Hp → VK → Prop := fun x lo hi H Q => ∃ a ob xs, x = .ref a ∧ H a = some (.frz ob (.tup xs)) ∧
  (HT.sIx xs.length 0 lo = 0 ∧ HT.sIx xs.length xs.length hi = xs.length → Q (.ref a) H) ∧ (¬ (HT.sIx xs.length 0 lo = 0 ∧ HT.sIx xs.length xs.length hi = xs.length) → ∀ p ob', H p = none → ob'.dict = none → Q (.ref p) (upd H p (.frz ob' (.tup (cutV xs lo hi)))))
def rCatRw (K : PySem.W.Frag) : R2 := fun x y H Q => ∃ a b ob xs ys, x = .ref a ∧ y = .ref b ∧ H a = some (.frz ob (.tup xs)) ∧ SqT K H b ys ∧ xs ≠ [] ∧ xs.length + ys.length ≤ sizeLine ∧
  (ys = [] → Q (.ref a) H) ∧ (ys ≠ [] → ∀ p ob', H p = none → ob'.dict = none → Q (.ref p) (upd H p (.frz ob' (.tup (xs ++ ys)))))
end
end L2
namespace DL
open PySem PySem.Spec L2
section
variable {X : Cx} {B : Base} {ρ : List Slot} {pos : Pos} {a e e2 tg : Expr} {β α γ : Type} {K : PySem.W.Frag}
theorem ji_zipT {m : R β} {as : β → List Ar} {xs : β → List α} {ys : β → List γ} {f : α → D} {g : γ → D} {ρ' : β → List Slot} {p tpos : Pos} {elts : List Expr} {kk : Nat} (hg : Gl X "zip") (hm : X.mg "zip" = none) (h : JA X B ρ [e, e2] m as ρ') (ha : ∀ b, as b = [.val (eT f (xs b)), .val (eT g (ys b))] := by intro _; rfl)
    (hs : starEach [e, e2] X.env = (false, eval e X.env) :: starEach [e2] X.env := by rfl) (hpl : (backTo pos (starEach [e2] X.env)).any (·.1) = false := by rfl) :
    JI X B ρ (.Tuple elts kk tpos) (.Call (.Name "zip" p) [e, e2] [] pos) m (fun b => ((xs b).zip (ys b)).map (eP2 f g)) ρ' :=
  PI_imp (RZ.pi_zipA hg hm h hs hpl) fun σ H Q ⟨G, E, q⟩ => ⟨G, E, R.post_mono q fun b q1 vs G' H' x E' ok => by
    rw [ha b] at ok
    cases ok with
    | val r ok =>
      cases ok with
      | val r2 ok =>
        cases ok
        obtain ⟨a, us, rfl, hS, hr⟩ := r.tup_inv
        obtain ⟨c, ws, rfl, hS2, hr2⟩ := r2.tup_inv
        have l1 : us.length = (xs b).length := by rw [hr.len, List.length_map]
        have l2 : ws.length = (ys b).length := by rw [hr2.len, List.length_map]
        have hl : (((xs b).zip (ys b)).map (eP2 f g)).length = min us.length ws.length := by rw [List.length_map, List.length_zip, l1, l2]
        refine ⟨a, c, us, ws, rfl, .inr ⟨E'.sub.t hS, E'.sub.t hS2, q1 _ G' H' x E' ⟨fun i H hi e => ?_, fun i H hi e => ?_, fun B i G1 H1 σ ρ w H' e E hy d hd => ?_⟩⟩⟩
        · rw [hl] at hi
          exact ⟨us, ws, us[i]'(by omega), ws[i]'(by omega), e.t hS, e.t hS2, List.getElem?_eq_getElem _, List.getElem?_eq_getElem _⟩
        · rw [hl] at hi
          exact ⟨us, ws, e.t hS, e.t hS2, by omega⟩
        · obtain ⟨T, y1, y2, rfl, hT, rfl, hy1, hy2⟩ := hy
          have i1 := hy1 us ((e.trans E.sub).t hS)
          have i2 := hy2 ws ((e.trans E.sub).t hS2)
          obtain ⟨d1, h1, h2⟩ := hr.getV i1
          obtain ⟨d2, h3, h4⟩ := hr2.getV i2
          rw [List.getElem?_map] at h1 h3 hd
          cases hx : (xs b)[i]? with
          | none => rw [hx] at h1; cases h1
          | some z1 =>
            cases hx2 : (ys b)[i]? with
            | none => rw [hx2] at h3; cases h3
            | some z2 =>
              have hz : ((xs b).zip (ys b))[i]? = some (z1, z2) := by
                rw [List.getElem?_zip_eq_some]
                exact ⟨hx, hx2⟩
              rw [hx] at h1
              rw [hx2] at h3
              rw [hz] at hd
              injection h1 with h1
              injection h3 with h3
              injection hd with hd
              subst h1
              subst h3
              subst hd
              have e1 := Ex.new (o := HO.tup [y1, y2]) (E.sub.back hT)
              exact ⟨_, e1, E.new hT _, .tup (.inl (.inl upd_same)) (.cons (h2.ex (e.trans e1)) (.cons (h4.ex (e.trans e1)) .nil))⟩⟩
theorem ji_zipL {m : R β} {as : β → List Ar} {xs : β → List α} {ys : β → List γ} {f : α → D} {g : γ → D} {ρ' : β → List Slot} {p tpos : Pos} {elts : List Expr} {kk : Nat} (hg : Gl X "zip") (hm : X.mg "zip" = none) (h : JA X B ρ [e, e2] m as ρ') (ha : ∀ b, as b = [.val (eL f (xs b)), .val (eL g (ys b))] := by intro _; rfl)
    (hs : starEach [e, e2] X.env = (false, eval e X.env) :: starEach [e2] X.env := by rfl) (hpl : (backTo pos (starEach [e2] X.env)).any (·.1) = false := by rfl) :
    JI X B ρ (.Tuple elts kk tpos) (.Call (.Name "zip" p) [e, e2] [] pos) m (fun b => ((xs b).zip (ys b)).map (eP2 f g)) ρ' :=
  PI_imp (RZ.pi_zipA hg hm h hs hpl) fun σ H Q ⟨G, E, q⟩ => ⟨G, E, R.post_mono q fun b q1 vs G' H' x E' ok => by
    rw [ha b] at ok
    cases ok with
    | val r ok =>
      cases ok with
      | val r2 ok =>
        cases ok
        obtain ⟨a, us, rfl, hS0, hr⟩ := r.lst_inv
        obtain ⟨c, ws, rfl, hS20, hr2⟩ := r2.lst_inv
        have hS : SqL X.K G' a us := .inl hS0
        have hS2 : SqL X.K G' c ws := .inl hS20
        have l1 : us.length = (xs b).length := by rw [hr.len, List.length_map]
        have l2 : ws.length = (ys b).length := by rw [hr2.len, List.length_map]
        have hl : (((xs b).zip (ys b)).map (eP2 f g)).length = min us.length ws.length := by rw [List.length_map, List.length_zip, l1, l2]
        refine ⟨a, c, us, ws, rfl, .inl ⟨E'.sub.l hS, E'.sub.l hS2, q1 _ G' H' x E' ⟨fun i H hi e => ?_, fun i H hi e => ?_, fun B i G1 H1 σ ρ w H' e E hy d hd => ?_⟩⟩⟩
        · rw [hl] at hi
          exact ⟨us, ws, us[i]'(by omega), ws[i]'(by omega), e.l hS, e.l hS2, List.getElem?_eq_getElem _, List.getElem?_eq_getElem _⟩
        · rw [hl] at hi
          exact ⟨us, ws, e.l hS, e.l hS2, by omega⟩
        · obtain ⟨T, y1, y2, rfl, hT, rfl, hy1, hy2⟩ := hy
          have i1 := hy1 us ((e.trans E.sub).l hS)
          have i2 := hy2 ws ((e.trans E.sub).l hS2)
          obtain ⟨d1, h1, h2⟩ := hr.getV i1
          obtain ⟨d2, h3, h4⟩ := hr2.getV i2
          rw [List.getElem?_map] at h1 h3 hd
          cases hx : (xs b)[i]? with
          | none => rw [hx] at h1; cases h1
          | some z1 =>
            cases hx2 : (ys b)[i]? with
            | none => rw [hx2] at h3; cases h3
            | some z2 =>
              have hz : ((xs b).zip (ys b))[i]? = some (z1, z2) := by
                rw [List.getElem?_zip_eq_some]
                exact ⟨hx, hx2⟩
              rw [hx] at h1
              rw [hx2] at h3
              rw [hz] at hd
              injection h1 with h1
              injection h3 with h3
              injection hd with hd
              subst h1
              subst h3
              subst hd
              have e1 := Ex.new (o := HO.tup [y1, y2]) (E.sub.back hT)
              exact ⟨_, e1, E.new hT _, .tup (.inl (.inl upd_same)) (.cons (h2.ex (e.trans e1)) (.cons (h4.ex (e.trans e1)) .nil))⟩⟩
end
def asRI : D → Option (List Int)
  | .row ds => asIs ds
  | _ => none
def asTIs : List D → Option (List (List Int))
  | [] => some []
  | d :: ds => match asTI d, asTIs ds with
    | some i, some l => some (i :: l)
    | _, _ => none
def asTTI (d : D) : Option (List (List Int)) := (asT d).bind asTIs
def as2TT (d : D) : Option (List (List Int) × List (List Int)) := match asT d with
  | some [x, y] => match asTTI x, asTTI y with
    | some a, some b => some (a, b)
    | _, _ => none
  | _ => none
end DL
namespace DL
open PySem PySem.Spec L2
section
variable {X : Cx} {B : Base} {ρ : List Slot} {pos : Pos} {a e : Expr} {β β1 β2 α : Type} {K : PySem.W.Frag}
def tJOm (K : PySem.W.Frag) (B : Base) (ρ : List Slot) (m : R β) (o : β → Option Int) : TO := fun σ H Q => ∃ G, En K B G H σ ρ [] ∧ m.post (fun b => ∀ G' H', Ex G G' → En K B G' H' σ ρ [] → Q (o b) H') B.rs
def JOm (X : Cx) (B : Base) (ρ : List Slot) (e : Option Expr) (m : R β) (o : β → Option Int) : Prop := PO X e (tJOm X.K B ρ m o)
end
end DL
namespace RT
open PySem PySem.Spec PyProof.Rows
section
variable {prog : Program} {w : World} {A : Around} {E : Value → Shared → Prop} {s : Shared}
end
section
variable {prog : Program} {w : World} {A : Around} {E : Value → Shared → Prop} {s : Shared}
end
open L2
def tTupRevT (K : PySem.W.Frag) (te : TE) : TE := fun σ H Q => te σ H fun v H1 => ∃ (a : Addr) (xs : List V), v = .ref a ∧ SqT K H1 a xs ∧ ∀ q ob, H1 q = none → ob.dict = none → Q (.ref q) (upd H1 q (.frz ob (.tup xs.reverse)))
section
variable {X : Cx}
end
end RT
namespace DL
open PySem PySem.Spec L2 RT
section
variable {X : Cx} {B : Base} {ρ : List Slot} {pos : Pos} {e : Expr}
end
end DL
namespace DL
open PySem PySem.Spec L2
section
variable {X : Cx} {B : Base} {ρ : List Slot} {pos : Pos} {a : Expr}
end
end DL
namespace DL
open PySem PySem.Spec L2
section
variable {K : PySem.W.Frag} {B : Base}
end
end DL
namespace SrtO
open PySem PyProof.Rows Srt
section
variable {prog : Program} {w : World} {A : Around} {E : Value → Shared → Prop} {s : Shared}
end
end SrtO
namespace L2
open PySem PySem.Spec PyProof.Rows
section
variable {X : Cx}
def rSortTup (K : PySem.W.Frag) : List V → Hp → VK → Prop := fun vs H Q => ∃ (a : Addr) (ns : List Int), vs = [V.ref a] ∧ SqT K H a (ns.map V.int) ∧
  ∀ (ns' : List Int) (p : Addr), ns'.Perm ns → ns'.Pairwise (· ≤ ·) → H p = none → Q (.ref p) (upd H p (.lst (ns'.map V.int)))
end
end L2
namespace DL
open PySem PySem.Spec L2
section
variable {B : Base} {ρ : List Slot}
end
end DL
namespace DL
open PySem PySem.Spec L2
section
variable {X : Cx} {B : Base} {ρ : List Slot} {pos : Pos} {a : Expr} {α β β1 β2 : Type}
end
end DL
namespace DL
open PySem PySem.Spec L2
end DL
namespace DL
open PySem PySem.Spec L2 PyProof.Rows
def numI : Value → Option Int
  | .int i _ => some i
  | _ => none
def gtupB (K : PySem.W.Frag) (x : Str) (ns : List Int) : Bool := match PySem.W.nsIn K mainGlobals x with
  | some (some (.ref a)) => (match K.lookup a with
    | some ⟨.type c, _, .seq its _, _⟩ => decide (c = "tuple") && (decide (its.size ≤ 1000) && decide (its.toList.map numI = ns.map some))
    | _ => false)
  | _ => false
def GTup (K : PySem.W.Frag) (mg : Str → Option Value) (x : Str) (ns : List Int) : Prop := ∃ a, mg x = some (.ref a) ∧ ∃ (o : Obj) (its : Array Value) (n : Nat), K.lookup a = some o ∧ o.cls = .type "tuple" ∧ o.data = .seq its n ∧ its.size ≤ sizeLine ∧ Vals (ns.map V.int) its.toList
section
variable {X : Cx} {B : Base} {ρ : List Slot} {pos : Pos}
end
abbrev AlE : Type := He.AlD × Bool
def obsEG (n : Nat) (fa : List He.Fa) (fn : List He.DefD) (ex : PySem.W.Frag → Bool) (g : Addr → Option Obj) : AlE := (He.obsDG n fa fn g, ex (He.frG g (He.asD g n)))
def hookE (n : Nat) (fa : List He.Fa) (fn : List He.DefD) (ex : PySem.W.Frag → Bool) : PySem.W.Hook where
  α := AlE
  obs := fun s => obsEG n fa fn ex s.heap.get?
  val := fun _ => (He.valD fn, true)
  says := fun _ h => ∃ K : PySem.W.Frag, K.In h ∧ He.SaysD fa fn K ∧ ex K = true
  of := fun _ _ e => ⟨_, He.frG_in, congrArg (fun z : AlE => z.1) e, congrArg (fun z : AlE => z.2) e⟩
  keeps := fun _ _ _ ⟨K, hK, c⟩ k => ⟨K, PySem.W.Frag.In.keeps hK k, c⟩
def lookT {β : Type} (kvs : List ((Int × Int) × β)) (k : Int × Int) : Option β := (kvs.find? fun p => decide (p.1 = k)).map (·.2)
section
variable {X : Cx} {B : Base} {ρ : List Slot} {pos pos' ap cp : Pos} {e2 e3 o2 val : Expr} {β : Type} {K : PySem.W.Frag} {G : Hp} {f : β → D}
end
@[reducible] def eDct {β : Type} (f : β → D) (kvs : List ((Int × Int) × β)) : D := .dict (kvs.map fun p => (D.tuple [D.int p.1.1, D.int p.1.2], f p.2))
theorem toD_odT {β : Type} (f : β → D) (kvs : List ((Int × Int) × β)) : (odT f kvs).toD = eDct f kvs := by
  rw [odT, OT.toD, eDct, List.map_map]
  rfl
mutual
def pd2 : D → PyData
  | .none => .none
  | .bool b => .bool b
  | .int i => .int i
  | .str x => .str x
  | .list _ => .none
  | .tuple ds => .tuple (pd2s ds)
  | .row ds => .tuple (pd2s ds)
  | .scr _ => .none
  | .key ns => .tuple (ns.map PyData.int)
  | .dict kvs => .dict (pd2kv kvs)
  | .exn _ _ _ => .none
  | .ddk kvs => pd2k kvs
def pd2k : List (D × D) → PyData
  | [] => .none
  | _ :: r => .dict (pd2kv r)
def pd2s : List D → List PyData
  | [] => []
  | d :: ds => pd2 d :: pd2s ds
def pd2kv : List (D × D) → List (PyData × PyData)
  | [] => []
  | (k, v) :: r => (pd2 k, pd2 v) :: pd2kv r
end
mutual
def plain2 : D → Bool
  | .none => true
  | .bool _ => true
  | .int _ => true
  | .str _ => true
  | .list _ => false
  | .tuple ds => plain2s ds
  | .row ds => plain2s ds
  | .scr _ => false
  | .key _ => true
  | .dict kvs => plain2kv kvs
  | .exn _ _ _ => false
  | .ddk kvs => plain2k kvs
def plain2k : List (D × D) → Bool
  | [] => false
  | (k, _) :: r => isNoneD k && plain2kv r
def plain2s : List D → Bool
  | [] => true
  | d :: ds => plain2 d && plain2s ds
def plain2kv : List (D × D) → Bool
  | [] => true
  | (k, v) :: r => isTupD k && (plain2 v && plain2kv r)
def isNoneD : D → Bool
  | .none => true
  | _ => false
def isTupD : D → Bool
  | .tuple _ => true
  | _ => false
end
section
variable {X : Cx} {pins : List (Addr × Obj)} {σ : L2.St} {G H : Hp} {s : Shared}
abbrev kyD (k : Key) : D := match k with | .inl i => D.int i | .inr x => D.str x
theorem reads_keys (h : Heap) : ∀ (ks : List Key) (us : List Value), Vals (ks.map kV) us → ReadsAll h us (pd2s (ks.map kyD)) []
  | [], _, .nil => by
    rw [List.map_nil, pd2s]
    exact .nil
  | .inl i :: ks, _, .cons r t => by
    obtain ⟨tk, rfl⟩ := r
    rw [List.map_cons, pd2s]
    show ReadsAll h _ (pd2 (D.int i) :: _) ([] ++ [])
    rw [pd2]
    exact .cons (.int i tk) (reads_keys h ks _ t)
  | .inr x :: ks, _, .cons r t => by
    obtain ⟨tk, rfl⟩ := r
    rw [List.map_cons, pd2s]
    show ReadsAll h _ (pd2 (D.str x) :: _) ([] ++ [])
    rw [pd2]
    exact .cons (.str x tk) (reads_keys h ks _ t)
theorem reads_ints2 (h : Heap) : ∀ (ns : List Int) (us : List Value), Vals (ns.map V.int) us → ReadsAll h us (ns.map PyData.int) []
  | [], _, .nil => .nil
  | n :: ns, _, .cons r t => by
    obtain ⟨tk, rfl⟩ := r
    exact .cons (as := []) (bs := []) (.int n tk) (reads_ints2 h ns _ t)
theorem reads_kt (I : Inv X pins σ H s) : ∀ {kvs : List (List Key × V)} {xs : List (List Key × Addr × Value)}, KT H kvs xs → ∃ as, ReadsAll s.heap (xs.map fun x => Value.ref x.2.1) (kvs.map fun p => PyData.tuple (pd2s (p.1.map kyD))) as ∧ as = []
  | _, _, .nil => ⟨_, .nil, rfl⟩
  | _, _, .cons h t => by
    obtain ⟨as, r, rfl⟩ := reads_kt I t
    obtain ⟨h1, h2, h3⟩ := h
    obtain ⟨its, vs, ⟨o, g1, g2, n, g4⟩, _⟩ := I.tuple (.inl (.inl h2))
    exact ⟨_, .cons (as := []) (.tuple g1 g2 g4 (by simpa using reads_keys s.heap _ _ vs)) r, rfl⟩
mutual
theorem Rp.reads2 (I : Inv X pins σ H s) (e : Ex G H) : ∀ {v : V} {d : D}, Rp X.K G v d → ∀ {u : Value}, RelV v u → plain2 d = true → ∃ as, Reads s.heap u (pd2 d) as ∧ sysModules ∉ as
  | _, _, .non, u, r, _ => by
    cases r
    rw [pd2]
    exact ⟨_, .none, fun z => nomatch z⟩
  | _, _, .bl b, u, r, _ => by
    cases r
    rw [pd2]
    exact ⟨_, .bool b, fun z => nomatch z⟩
  | _, _, .int i, u, r, _ => by
    obtain ⟨t, rfl⟩ := r
    rw [pd2]
    exact ⟨_, .int i t, fun z => nomatch z⟩
  | _, _, .str x, u, r, _ => by
    obtain ⟨t, rfl⟩ := r
    rw [pd2]
    exact ⟨_, .str x t, fun z => nomatch z⟩
  | _, _, .lst h q, u, r, p => by
    rw [plain2] at p
    cases p
  | _, _, .tup h q, u, r, p => by
    cases r
    rw [pd2]
    rw [plain2] at p
    obtain ⟨its, vs, ⟨o, g1, g2, n, g4⟩, _⟩ := I.tuple (e.t h)
    obtain ⟨as, ra, ns⟩ := RpAll.reads2 I e q vs p
    exact ⟨_, .tuple g1 g2 g4 (by simpa using ra), ns⟩
  | _, _, .row h d q, u, r, p => by
    cases r
    rw [pd2]
    rw [plain2] at p
    obtain ⟨its, vs, ⟨o, g1, g2, n, g4⟩, _⟩ := I.tuple (.inl (.inr ⟨_, e _ _ h⟩))
    obtain ⟨as, ra, ns⟩ := RpAll.reads2 I e q vs p
    exact ⟨_, .tuple g1 g2 g4 (by simpa using ra), ns⟩
  | _, _, .scr h, u, r, p => by
    rw [plain2] at p
    cases p
  | _, _, .key h, u, r, _ => by
    cases r
    rw [pd2]
    obtain ⟨its, vs, ⟨o, g1, g2, n, g4⟩, _⟩ := I.tuple (.inl (.inl (e _ _ h)))
    exact ⟨[], .tuple g1 g2 g4 (by simpa using reads_ints2 s.heap _ _ vs), List.not_mem_nil⟩
  | _, _, .ddk _ q, u, r, p => by
    rw [plain2] at p
    exfalso
    cases q with
    | nil =>
      rw [plain2k] at p
      cases p
    | @cons k _ _ _ _ _ _ =>
      rw [plain2k] at p
      cases k <;> simp [isNoneD] at p
  | _, _, .ddt (a := a) (kvs := kvs) (ds := ds) h q, u, r, p => by
    cases r
    rw [plain2, plain2k, isNoneD, Bool.true_and] at p
    obtain ⟨g0, _, z, xs, kv, o, es, ep, g1, g2, g3, g4, _⟩ := I.hok _ _ (e _ _ h)
    obtain ⟨as, r1, rfl⟩ := reads_kt I kv
    obtain ⟨bs, r2, e1, ns⟩ := RpT.reads2 I e q kv p
    rw [pd2, pd2k]
    refine ⟨_, .dict (as := []) (bs := bs) g1 g2.1 g3 ?_ ?_, ?_⟩
    · rw [g4, List.map_map, e1]
      exact r1
    · rw [g4, List.map_map]
      exact r2
    · intro m
      have m2 : sysModules = a ∨ sysModules ∈ bs := by simpa using m
      rcases m2 with m2 | m2
      · rw [m2] at z
        simp at z
      · exact ns m2
  | _, _, .exn0 _ _, u, r, p => by
    rw [plain2] at p
    cases p
  | _, _, .exn1 _ _ _ _, u, r, p => by
    rw [plain2] at p
    cases p
  | _, _, .any _, u, r, p => by
    rw [plain2, plain2k] at p
    simp [isNoneD] at p
  | _, _, .dK (a := a) (kvs := kvs) h q, u, r, p => by
    cases r
    rw [plain2] at p
    cases q with
    | nil =>
      obtain ⟨_, z, vs, kv, dd⟩ := dk_of (I.hok) (e _ _ h)
      cases kv
      obtain ⟨o, es, ep, g1, g2, g3, _, g4, _⟩ := dd
      have e0 : es.toList = [] := by
        generalize es.toList = l at g4
        cases l with
        | nil => rfl
        | cons a b => cases g4
      rw [pd2, pd2kv]
      refine ⟨_, .dict (as := []) (bs := []) g1 g2.1 g3 (by rw [e0]; exact .nil) (by rw [e0]; exact .nil), ?_⟩
      intro m
      have m2 : sysModules = a := by simpa using m
      rw [m2] at z
      simp at z
    | @cons k v r d ds h1 h2 =>
      rw [plain2kv] at p
      exfalso
      cases k <;> (rw [isTupD] at p <;> first | (simp at p; done) | (intro _ z; cases z))
  | _, _, .dT (a := a) (kvs := kvs) (ds := ds) h q, u, r, p => by
    cases r
    rw [plain2] at p
    obtain ⟨_, z, xs, kv, o, es, ep, g1, g2, g3, g4, _⟩ := dt_of (I.hok) (e _ _ h)
    obtain ⟨as, r1, rfl⟩ := reads_kt I kv
    obtain ⟨bs, r2, e1, ns⟩ := RpT.reads2 I e q kv p
    rw [pd2]
    refine ⟨_, .dict (as := []) (bs := bs) g1 g2.1 g3 ?_ ?_, ?_⟩
    · rw [g4, List.map_map, e1]
      exact r1
    · rw [g4, List.map_map]
      exact r2
    · intro m
      have m2 : sysModules = a ∨ sysModules ∈ bs := by simpa using m
      rcases m2 with m2 | m2
      · rw [m2] at z
        simp at z
      · exact ns m2
theorem RpAll.reads2 (I : Inv X pins σ H s) (e : Ex G H) : ∀ {vs : List V} {ds : List D}, RpAll X.K G vs ds → ∀ {us : List Value}, Vals vs us → plain2s ds = true → ∃ as, ReadsAll s.heap us (pd2s ds) as ∧ sysModules ∉ as
  | _, _, .nil, _, .nil, _ => by
    rw [pd2s]
    exact ⟨_, .nil, fun z => nomatch z⟩
  | _, _, .cons h q, _, .cons r t, p => by
    rw [plain2s, Bool.and_eq_true] at p
    rw [pd2s]
    obtain ⟨as, a, n1⟩ := Rp.reads2 I e h r p.1
    obtain ⟨bs, b, n2⟩ := RpAll.reads2 I e q t p.2
    exact ⟨_, .cons a b, fun m => (List.mem_append.mp m).elim n1 n2⟩
theorem RpT.reads2 (I : Inv X pins σ H s) (e : Ex G H) : ∀ {kvs : List (List Key × V)} {ds : List (D × D)}, RpT X.K G kvs ds → ∀ {xs : List (List Key × Addr × Value)}, KT H kvs xs → plain2kv ds = true →
    ∃ bs, ReadsAll s.heap (xs.map fun x => x.2.2) ((pd2kv ds).map (·.2)) bs ∧ (pd2kv ds).map (·.1) = kvs.map (fun p => PyData.tuple (pd2s (p.1.map kyD))) ∧ sysModules ∉ bs
  | _, _, .nil, _, .nil, _ => by
    rw [pd2kv]
    exact ⟨_, .nil, rfl, fun z => nomatch z⟩
  | _, _, .cons h q, _, .cons r t, p => by
    rw [plain2kv, Bool.and_eq_true, Bool.and_eq_true] at p
    obtain ⟨as, a, n1⟩ := Rp.reads2 I e h r.2.2 p.2.1
    obtain ⟨bs, b, e2, n2⟩ := RpT.reads2 I e q t p.2.2
    rw [pd2kv]
    refine ⟨_, .cons a b, ?_, fun m => (List.mem_append.mp m).elim n1 n2⟩
    rename_i k _ _ _ _ _ _
    rw [List.map_cons, List.map_cons, e2, pd2]
    all_goals exact congrArg (fun l => PyData.tuple (pd2s l) :: _) (List.map_congr_left fun x _ => by cases x <;> rfl)
end
def repOk2 (d : D) : Prop := plain2 d = true ∧ isRefD d = true ∧ (pd2 d).showable = true ∧ (pd2 d).shown.length ≤ sizeLine ∧ (pd2 d).depth ≤ 60
instance (d : D) : Decidable (repOk2 d) := by unfold repOk2; exact inferInstance
def reprD2 (d : D) : Str := (pd2 d).shown
def rRep2 (K : PySem.W.Frag) : List V → Hp → VK → Prop := fun xs H Q => ∃ v G d, xs = [v] ∧ Ex G H ∧ Rp K G v d ∧ repOk2 d ∧ Q (.str (reprD2 d)) H
end
end DL
namespace DL
open PySem PySem.Spec L2 PyProof.Rows
section
variable {X : Cx} {B : Base} {ρ : List Slot} {ie e : Expr} {es : List Expr} {pos lp sp p1 p2 : Pos} {CX : CXT} {k1 k2 : Nat} {f1 f2 : Addr} {fd1 fd2 : FuncData} {ps1 ps2 : List Str} {EE : XK} {x1 x2 : Str}
end
end DL
namespace DL
open PySem PySem.Spec L2
section
variable {X : Cx} {B : Base} {ρ : List Slot} {pos : Pos}
end
end DL
namespace DL
open PySem PySem.Spec L2
def isx (c t : Str) : Bool := decide (c = t) || (decide (t = "DrawError") || decide (t = "ValueError"))
structure XcOk (K : PySem.W.Frag) (mg : Str → Option Value) (x : Str) : Prop where
  g : mg x = some (.ref (He.ga K x))
  kp : PySem.W.keepIn K (.ref (He.ga K x)) = true
  bx : PySem.W.subIn K (.ref (He.ga K x)) (.type "BaseException") = some true
  ty : PySem.W.typeIn K (.ref (He.ga K x)) = some (.type "type")
  hd : PySem.W.hasDictIn K (He.ga K x) = true
  ga : PySem.W.findIn K (.ref (He.ga K x)) "__getattribute__" = some (some (.builtin "BaseException.__getattribute__"))
  gg : PySem.W.findIn K (.ref (He.ga K x)) "__getattr__" = some none
  ca : PySem.W.findIn K (.ref (He.ga K x)) "__class__" = some (some (.builtin "object.__class__"))
  om : PySem.W.mroIn K (He.ga K x) (.type "object") = some true
  nm : ClsNm K x (He.ga K x)
  un : ∀ C : Addr, ClsNm K x C → C = He.ga K x
  sg : PySem.W.specialIn K (.builtin "object.__class__") "__get__" = some (some (.builtin "getset_descriptor.__get__"))
  tk : PySem.W.takesIn K (.builtin "object.__class__") = some true
def nmB (x : Str) (o : Obj) : Bool := match o with
  | ⟨_, _, .cls cd, _⟩ => decide (cd.name = x)
  | _ => false
def xcB (K : PySem.W.Frag) (x : Str) : Bool :=
  decide (PySem.W.nsIn K mainGlobals x = some (some (.ref (He.ga K x)))) && (PySem.W.keepIn K (.ref (He.ga K x)) && (decide (PySem.W.subIn K (.ref (He.ga K x)) (.type "BaseException") = some true) && (decide (PySem.W.typeIn K (.ref (He.ga K x)) = some (.type "type")) && (PySem.W.hasDictIn K (He.ga K x) &&
    (decide (PySem.W.findIn K (.ref (He.ga K x)) "__getattribute__" = some (some (.builtin "BaseException.__getattribute__"))) && (decide (PySem.W.findIn K (.ref (He.ga K x)) "__getattr__" = some none) && (decide (PySem.W.findIn K (.ref (He.ga K x)) "__class__" = some (some (.builtin "object.__class__"))) &&
      (decide (PySem.W.mroIn K (He.ga K x) (.type "object") = some true) && (decide ((PySem.W.clsIn K (He.ga K x)).map (·.name) = some x) && (K.all (fun p => !nmB x p.2 || decide (p.1 = He.ga K x)) &&
        (decide (PySem.W.specialIn K (.builtin "object.__class__") "__get__" = some (some (.builtin "getset_descriptor.__get__"))) && decide (PySem.W.takesIn K (.builtin "object.__class__") = some true))))))))))))
structure XAll (K : PySem.W.Frag) (mg : Str → Option Value) (L : List Str) (T : List Str) (Fs : List Str) : Prop where
  l : ∀ c ∈ L, XcOk K mg c
  t : ∀ t ∈ T, XcOk K mg t
  k : ∀ c ∈ L, ∀ t ∈ T, PySem.W.kitOne K (.ref (He.ga K c)) (.ref (He.ga K t)) = some (isx c t)
  m : ∀ c ∈ L, ∀ t ∈ T, PySem.W.exmOne K (.ref (He.ga K c)) (.ref (He.ga K t)) = some (isx c t)
  v : ∀ c ∈ L, PySem.W.kitOne K (.ref (He.ga K c)) (.type "ValueError") = some true
  f : ∀ c ∈ L, ∀ f ∈ Fs, PySem.W.findIn K (.ref (He.ga K c)) f = some none
def xallB (K : PySem.W.Frag) (L T Fs : List Str) : Bool :=
  L.all (xcB K) && (T.all (xcB K) && (L.all (fun c => T.all fun t => decide (PySem.W.kitOne K (.ref (He.ga K c)) (.ref (He.ga K t)) = some (isx c t))) && (L.all (fun c => T.all fun t => decide (PySem.W.exmOne K (.ref (He.ga K c)) (.ref (He.ga K t)) = some (isx c t))) &&
    (L.all (fun c => decide (PySem.W.kitOne K (.ref (He.ga K c)) (.type "ValueError") = some true)) && L.all fun c => Fs.all fun f => decide (PySem.W.findIn K (.ref (He.ga K c)) f = some none)))))
def XDict (H : Hp) (d : Option Addr) : Prop := d = none ∨ ∃ dx fs, d = some dx ∧ H dx = some (.xd fs)
def rIsX (K : PySem.W.Frag) (mg : Str → Option Value) : List V → Hp → VK → Prop := fun xs H Q => ∃ (a : Addr) (d : Option Addr) (c : Str) (t : V) (tv : Value) (b : Bool), xs = [.ref a, t] ∧ H a = some (exq a (He.ga K c) d) ∧ XDict H d ∧ XcOk K mg c ∧ (∀ u, RelV t u → u = tv) ∧ PySem.W.kitOne K (.ref (He.ga K c)) tv = some b ∧ Q (.bl b) H
abbrev eX : Exn → D := Exn.d
def inL (x : Str) (L : List Str) : Bool := L.any fun y => decide (y = x)
section
variable {X : Cx} {B : Base} {ρ : List Slot} {a : Expr} {p p2 pos : Pos} {β : Type} {m : R β} {e : β → Exn} {ρ' : β → List Slot} {L T Fs : List Str}
def rIsXT (K : PySem.W.Frag) (mg : Str → Option Value) : List V → Hp → VK → Prop := fun xs H Q => ∃ (a tp : Addr) (d : Option Addr) (c : Str) (ts : List Str), xs = [.ref a, .ref tp] ∧ H a = some (exq a (He.ga K c) d) ∧ XDict H d ∧ XcOk K mg c ∧ H tp = some (.tup (ts.map fun t => V.ref (He.ga K t))) ∧ (∀ t ∈ ts, PySem.W.kitOne K (.ref (He.ga K c)) (.ref (He.ga K t)) = some (isx c t)) ∧ Q (.bl (ts.any (isx c))) H
def tXfd (K : PySem.W.Frag) (mg : Str → Option Value) (n : Str) (te : TE) : TE := fun σ H Q => te σ H fun x H1 => ∃ (a dd : Addr) (c : Str) (fs : List (Str × V)) (v : V), x = .ref a ∧ H1 a = some (exq a (He.ga K c) (some dd)) ∧ H1 dd = some (.xd fs) ∧ XcOk K mg c ∧ PySem.W.findIn K (.ref (He.ga K c)) n = some none ∧ fs.lookup n = some v ∧ Q v H1
end
end DL
namespace DL
open PySem PySem.Spec L2
def Base.rsAs (B : Base) (rs : Exn → Prop) : Base := ⟨B.H0, B.G0, B.Mo, B.m0, B.pv, rs⟩
theorem Anc.rsAs {B : Base} {G H : Hp} {rs : Exn → Prop} (h : Anc B G H) : Anc (B.rsAs rs) G H := ⟨h.keep, h.there, h.gsub, h.gnew, h.sub⟩
theorem Cell.rsAs {K : PySem.W.Frag} {B : Base} {G H : Hp} {rs : Exn → Prop} {x : Option V} {s : Slot} {A : List Addr} (h : Cell K B G H x s A) : Cell K (B.rsAs rs) G H x s A := by
  cases h with
  | non => exact .non
  | val h => exact .val h
  | own h l p => exact .own h l p
  | ali => exact .ali
theorem Cells.rsAs {K : PySem.W.Frag} {B : Base} {G H : Hp} {rs : Exn → Prop} {σ : L2.St} {ρ : List Slot} {A : List Addr} (h : Cells K B G H σ ρ A) : Cells K (B.rsAs rs) G H σ ρ A := by
  induction h with
  | nil => exact .nil
  | cons c _ ih => exact .cons c.rsAs ih
theorem En.rsAs {K : PySem.W.Frag} {B : Base} {G H : Hp} {rs : Exn → Prop} {σ : L2.St} {ρ : List Slot} {ex : List (V × Slot)} (E : En K B G H σ ρ ex) : En K (B.rsAs rs) G H σ ρ ex := by
  obtain ⟨A, c, n, f⟩ := E.own
  exact ⟨E.anc.rsAs, ⟨A, c.rsAs, n, f⟩, E.len, E.ali⟩
abbrev Base.calm (B : Base) : Base := B.rsAs fun _ => False
def noE {α : Type} : R α → R α
  | .ok a => .ok a
  | _ => .bad
section
variable {X : Cx} {B : Base} {ρ : List Slot} {e : Expr} {β : Type} {m : R β} {sl : β → Slot} {ρ' : β → List Slot} {bn : β → Bool} {st : Stmt} {sts : List Stmt} {N L T : Type}
end
structure ExnAt (K : PySem.W.Frag) (L : List Str) (G : Hp) (cls : Value) (d : Option Addr) (e : Exn) : Prop where
  l : e.cls ∈ L
  c : cls = .ref (He.ga K e.cls)
  n : ClsNm K e.cls (He.ga K e.cls)
  f : (e.ds = [] ∧ d = none) ∨ ∃ dx y z, d = some dx ∧ e.ds = [z] ∧ G dx = some (.xd [(e.fn, y)]) ∧ Rp K G y z
theorem ExnAt.ex {K : PySem.W.Frag} {L : List Str} {G G' : Hp} {cls : Value} {d : Option Addr} {e : Exn} (h : ExnAt K L G cls d e) (x : Ex G G') : ExnAt K L G' cls d e := by
  refine ⟨h.l, h.c, h.n, ?_⟩
  rcases h.f with f | ⟨dx, y, z, f1, f2, f3, f4⟩
  · exact .inl f
  · exact .inr ⟨dx, y, z, f1, f2, x _ _ f3, f4.ex x⟩
structure Rz (X : Cx) (B : Base) (L : List Str) (ρx : List Slot) (W : WX) : Prop where
  calm : X.calm = true
  tk : Takes X W
  w : ∀ e, B.rs e → ∀ (σ : L2.St) (G H : Hp) (cls : Value) (d : Option Addr), En X.K B G H σ ρx [] → ExnAt X.K L G cls d e → W cls d σ H
def nons (n : Nat) : List Slot := List.replicate n .non
def spX (K : PySem.W.Frag) (L : List Str) {α β : Type} (ins : α → List Slot) (m : α → R β) (sl : β → Slot) (outs : β → List Slot) : Sp := fun vs H Q E =>
  ∃ (a : α) (G : Hp) (As : List (List Addr)), En K (baseOf H G As vs fun _ => False) G H (vs.map some) (ins a) [] ∧
    (m a).post (fun b => ∀ v G' H', En K (baseOf H G As vs fun _ => False) G' H' (vs.map some) (outs b) [(v, sl b)] → Q v H') fun e => ∀ cls d G' H', En K (baseOf H G As vs fun _ => False) G' H' (vs.map some) (nons vs.length) [] → ExnAt K L G' cls d e → E cls d H'
section
variable {K : PySem.W.Frag} {B : Base} {G H : Hp} {σ : L2.St} {ρ : List Slot} {as : List Ar} {vs : List V}
end
abbrev FnX (P : Program) (w : World) (K : PySem.W.Frag) (mg : Str → Option Value) (bs : Heap) (k : Nat) (fa : Addr) (fd : FuncData) (ps : List Str) (sp : Sp) : Prop := FnG P w K mg bs (L2.CX P w) k fa fd ps sp
section
variable {X : Cx} {B : Base} {ρ : List Slot} {k : Nat} {f : Addr} {fd : FuncData} {ps : List Str} {sp : Sp} {x : Str} {p pos : Pos} {e : Expr} {es : List Expr} {t : TA}
end
section
variable {X : Cx} {B : Base} {ρ ρx : List Slot} {L : List Str} {W : WX} {N M T : Type} {F : Fin N M T} {pos pos2 p p2 : Pos} {x : Str}
end
end DL
namespace DL
open PySem PySem.Spec L2
def oxB (K : PySem.W.Frag) (C : Addr) : Bool := match K.lookup C with
  | some ⟨t, _, .cls cd, sl⟩ => decide (t = .type "type") && (match cd.mro with
    | .ref c :: bm => decide (c = C) && PySem.HandSPX.refsVE bm
    | _ => false) && (match sl.toList with
    | [_, _, _, _, some (.builtin n), _] => decide (n = "ValueError.__new__")
    | _ => false) && (!cd.hasDel && cd.hasDict)
  | _ => false
structure XiOk (K : PySem.W.Frag) (x f : Str) : Prop where
  o : OexC K (He.ga K x)
  i : PySem.W.findIn K (.ref (He.ga K x)) "__init__" = some (some (.ref (He.ma K (He.ga K x) "__init__")))
  t : PySem.W.typeIn K (.ref (He.ma K (He.ga K x) "__init__")) = some (.type "function")
  n : PySem.W.findIn K (.ref (He.ga K x)) f = some none
structure XbOk (K : PySem.W.Frag) (mg : Str → Option Value) (x : Str) : Prop where
  g : mg x = some (.ref (He.ga K x))
  s : PySem.W.specialIn K (.ref (He.ga K x)) "__getattribute__" = some (some (.builtin "type.__getattribute__"))
  r : PySem.W.readsIn K (He.ga K x) (.type "type") = true
  f : PySem.W.findCls K (.ref (He.ga K x)) (.type "type") "__init__" = some (.val (.builtin "ValueError.__init__"))
def xiB (K : PySem.W.Frag) (x f : Str) : Bool :=
  oxB K (He.ga K x) && (decide (PySem.W.findIn K (.ref (He.ga K x)) "__setattr__" = some (some (.builtin "object.__setattr__"))) && (decide (PySem.W.subIn K (.ref (He.ga K x)) (.type "BaseException") = some true) && (decide (PySem.W.typeIn K (.ref (He.ga K x)) = some (.type "type")) && (PySem.W.keepIn K (.ref (He.ga K x)) &&
    (decide (PySem.W.findIn K (.ref (He.ga K x)) "__init__" = some (some (.ref (He.ma K (He.ga K x) "__init__")))) && (decide (PySem.W.typeIn K (.ref (He.ma K (He.ga K x) "__init__")) = some (.type "function")) && decide (PySem.W.findIn K (.ref (He.ga K x)) f = some none)))))))
def xbB (K : PySem.W.Frag) (x : Str) : Bool :=
  decide (PySem.W.nsIn K mainGlobals x = some (some (.ref (He.ga K x)))) && (decide (PySem.W.specialIn K (.ref (He.ga K x)) "__getattribute__" = some (some (.builtin "type.__getattribute__"))) && (PySem.W.readsIn K (He.ga K x) (.type "type") &&
    (match PySem.W.findCls K (.ref (He.ga K x)) (.type "type") "__init__" with
      | some (.val v) => decide (v = .builtin "ValueError.__init__")
      | _ => false)))
section
variable {X : Cx} {e : Expr} {es : List Expr} {ta : TA} {p1 p2 pos : Pos} {x : Str}
end
def spI (K : PySem.W.Frag) (x f : Str) : Sp := fun vs H Q _ => ∃ (a : Addr) (y : V), vs = [.ref a, y] ∧ H a = some (exo a (He.ga K x) none) ∧ ∀ dx, H dx = none → dx ≠ a → Q .non (upd (upd H dx (exd dx [(f, y)])) a (exo a (He.ga K x) (some dx)))
def tI (K : PySem.W.Frag) (x f : Str) : TS := fun D σ H => ∃ (a : Addr) (y : V), σ[0]? = some (some (.ref a)) ∧ σ[1]? = some (some y) ∧ H a = some (exo a (He.ga K x) none) ∧ ∀ dx, H dx = none → dx ≠ a → D.nx σ (upd (upd H dx (exd dx [(f, y)])) a (exo a (He.ga K x) (some dx)))
section
variable {X : Cx} {B : Base} {ρ ρx : List Slot} {L : List Str} {W : WX} {N M T : Type} {F : Fin N M T} {pos pos2 p p2 : Pos} {x f v : Str} {e : Expr} {β : Type} {m : R β} {d : β → D} {ρ' : β → List Slot} {k : Nat} {fd : FuncData}
end
end DL
namespace DL
open PySem PySem.Spec L2
section
variable {P : Program} {w : World} {K : PySem.W.Frag} {mg : Str → Option Value} {base : Heap} {x : Str} {st : Stmt} {f : Addr} {fd : FuncData} {N ps : List Str} {k : Nat} {L : List Str}
end
abbrev heldX (X : Cx) (a : Addr) (pn : List (Addr × Obj)) : Cx := X.suite a pn
section
variable {X : Cx} {pins : List (Addr × Obj)} {σ : L2.St} {H : Hp} {s : Shared} {a C : Addr} {d : Option Addr} {oe : Obj} {vs : Array Value}
end
def wTry (K : PySem.W.Frag) (c : Value) (i : Nat) (ts : TS) (Wo : WX) (D : Ends) : WX := fun cls d σ H =>
  ∃ b, PySem.W.exmOne K cls c = some b ∧ (b = false → Wo cls d σ H) ∧ (b = true → ∃ C, cls = .ref C ∧ ∀ a, H a = none → ts { nx := fun σ' => D.nx (σ'.set i none), rt := D.rt, bk := fun σ' => D.bk (σ'.set i none), ct := fun σ' => D.ct (σ'.set i none) } (σ.set i (some (.ref a))) (upd H a (exq a C d)))
section
variable {X : Cx} {x n : Str} {c : Value} {i : Nat} {body suite : List Stmt} {b0 : Stmt} {np p1 p2 : Pos} {tb : WX → TS} {ts : TS} {Wo : WX}
end
end DL
namespace DL
open PySem PySem.Spec L2
def tryR {N M T : Type} (m : R (Fl N M T)) (c : Str) (h : Exn → R (Fl N M T)) : R (Fl N M T) := match m with
  | .ok x => .ok x
  | .err e => if isx e.cls c = true then h e else .err e
  | .bad => .bad
def Base.now (B : Base) (G : Hp) (rs : Exn → Prop) : Base := ⟨B.H0, G, B.Mo, B.m0, B.pv, rs⟩
theorem Cell.now {K : PySem.W.Frag} {B B' : Base} {G H : Hp} {x : Option V} {s : Slot} {A : List Addr} (h : Cell K B G H x s A) (e1 : B'.H0 = B.H0) (e2 : B'.Mo = B.Mo) (e3 : B'.pv = B.pv) : Cell K B' G H x s A := by
  cases h with
  | non => exact .non
  | val h => exact .val h
  | own h l p => exact .own h (fun a m => by rw [e1, e2]; exact l a m) (by rw [e3]; exact p)
  | ali => exact .ali
theorem Cells.now {K : PySem.W.Frag} {B B' : Base} {G H : Hp} {σ : L2.St} {ρ : List Slot} {A : List Addr} (h : Cells K B G H σ ρ A) (e1 : B'.H0 = B.H0) (e2 : B'.Mo = B.Mo) (e3 : B'.pv = B.pv) : Cells K B' G H σ ρ A := by
  induction h with
  | nil => exact .nil
  | cons c _ ih => exact .cons (c.now e1 e2 e3) ih
theorem En.now {K : PySem.W.Frag} {B : Base} {G H : Hp} {rs : Exn → Prop} {σ : L2.St} {ρ : List Slot} {ex : List (V × Slot)} (E : En K B G H σ ρ ex) : En K (B.now G rs) G H σ ρ ex := by
  obtain ⟨A, c, n, f⟩ := E.own
  exact ⟨⟨E.anc.keep, E.anc.there, Ex.refl G, fun _ _ z => .inl z, E.anc.sub⟩, ⟨A, c.now rfl rfl rfl, n, f⟩, E.len, E.ali⟩
section
variable {X : Cx} {B : Base} {ρ ρx : List Slot} {L T Fs : List Str} {N M U : Type} {F : Fin N M U} {x n : Str} {body suite : List Stmt} {b0 : Stmt} {np p1 p2 : Pos}
end
end DL
namespace DL
open PySem PySem.Spec L2
def eqA (x y : D) : Bool := PyData.eqv (toPy x) (toPy y)
def shA (x : D) : Prop := (toPy x).canLay0 = true ∧ SeqAt.shaped (toPy x) = true
instance (x : D) : Decidable (shA x) := by unfold shA; exact inferInstance
section
variable {K : PySem.W.Frag} {B : Base}
end
def asX (g : Addr → Option Obj) (n : Nat) : List Addr := cStatics :: He.asD g n
def obsXG (n : Nat) (fa : List He.Fa) (fn : List He.DefD) (ex : PySem.W.Frag → Bool) (g : Addr → Option Obj) : AlE := (He.obsD fa fn (He.frG g (asX g n)), ex (He.frG g (asX g n)))
def hookX (n : Nat) (fa : List He.Fa) (fn : List He.DefD) (ex : PySem.W.Frag → Bool) : PySem.W.Hook where
  α := AlE
  obs := fun s => obsXG n fa fn ex s.heap.get?
  val := fun _ => (He.valD fn, true)
  says := fun _ h => ∃ K : PySem.W.Frag, K.In h ∧ He.SaysD fa fn K ∧ ex K = true
  of := fun _ _ e => ⟨_, He.frG_in, congrArg (fun z : AlE => z.1) e, congrArg (fun z : AlE => z.2) e⟩
  keeps := fun _ _ _ ⟨K, hK, c⟩ k => ⟨K, PySem.W.Frag.In.keeps hK k, c⟩
end DL
namespace DL
open PySem PySem.Spec L2
def clsS (s : Stmt) (k : Nat) : Stmt := match s with
  | .ClassDef _ _ _ body _ _ _ _ _ _ _ => body.getD k (.Pass ⟨0, 0, 0, 0⟩)
  | _ => .Pass ⟨0, 0, 0, 0⟩
structure DI (K : PySem.W.Frag) (x : Str) (st : Stmt) (ps : List Str) where
  q : Str
  d : FuncData
  f : FunD K "__init__" q (defArgs st) (defBody st) (defScope st) [] [] (He.ma K (He.ga K x) "__init__") d
  b : Binds K d ps []
section
variable {X : Cx} {B : Base} {ρ : List Slot} {es : List Expr} {β : Type} {m : R β} {as : β → List Ar} {ρ' : β → List Slot}
end
end DL
namespace DL
open PySem PySem.Spec L2 PyProof.Rows
structure RoomW (k : Nat) (A : Around) : Prop where
  dp : A.depth + 3 * k + 5 < recursionLimit
  un : A.units + 16 * k + 200 < cLine
theorem RoomW.mono {j k : Nat} {A : Around} (h : RoomW k A) (l : j ≤ k) : RoomW j A := ⟨by have := h.dp; omega, by have := h.un; omega⟩
theorem RoomW.deeper {k : Nat} {A : Around} (h : RoomW (k + 1) A) (env : PySem.Env) : RoomW k (A.deeper env) :=
  ⟨by have := h.dp; show A.depth + 1 + 3 * k + 5 < _; omega, by have := h.un; show A.units + 3 + 16 * k + 200 < _; omega⟩
structure FnW (P : Program) (w : World) (K : PySem.W.Frag) (mg : Str → Option Value) (bs : Heap) (CX : CXT) (k : Nat) (fa : Addr) (fd : FuncData) (ps : List Str) (sp : Sp) : Prop where
  many : ∀ xs G Z W, sp xs G Z W → xs.length = ps.length
  go : ∀ (A : Around) (out : List PySem.Env) (t : Shared) (G : Hp) (ar : Args) (us : List Value) (xs : List V) (Z : VK) (W : XK), RoomW k A → Env0 P w K mg bs A out t G → BindsTo t fd ar (ps.zip us) → Vals xs us →
    sp xs G Z W → codeAny (model P w) A (.call (.ref fa) ar) (CR CX out P w G t Z W) t
abbrev cxW (CX : CXT) (P : Program) (w : World) (K : PySem.W.Frag) (mg : Str → Option Value) (base : Heap) (N : List Str) (qual : Str) (scope : Scope) (f : Addr) (cd : Value) (A : Around) (outer : List PySem.Env) (s : Shared) (H : Hp) (E : XK) : Cx :=
  { cxOf CX P w K mg base N qual scope f cd A outer s H E with calm := false }
section
variable {P : Program} {w : World} {K : PySem.W.Frag} {mg : Str → Option Value} {bs : Heap} {CX : CXT} {k : Nat} {fa : Addr} {fd : FuncData} {ps : List Str} {sp : Sp}
end
section
variable {X : Cx} {CX : CXT} {k : Nat} {f : Addr} {fd : FuncData} {ps : List Str} {sp : Sp} {W : XK} {x : Str} {p pos : Pos} {e : Expr} {es : List Expr} {t : TA}
end
section
variable {X : Cx} {B : Base} {ρ : List Slot} {e : Expr} {es : List Expr} {pos p : Pos} {CX : CXT} {k : Nat} {f : Addr} {fd : FuncData} {ps : List Str} {EE : XK} {x : Str}
end
section
variable {P : Program} {w : World} {K : PySem.W.Frag} {mg : Str → Option Value} {base : Heap} {x : Str} {st : Stmt} {f : Addr} {fd : FuncData} {N ps : List Str} {k : Nat}
end
end DL
namespace DL
open PySem PySem.Spec L2 PyProof.Rows
def sameB (k : Bool) : Value → Bool
  | .bool b => b == k
  | _ => false
section
variable {X : Cx}
def rCntB (K : PySem.W.Frag) : V → List V → Hp → VK → Prop := fun x xs H Q => ∃ (p : Addr) (bs : List Bool) (k : Bool), x = .ref p ∧ xs = [.bl k] ∧ SqL K H p (bs.map V.bl) ∧ Q (.int (bs.count k : Nat)) H
end
section
variable {X : Cx} {B : Base} {ρ : List Slot} {pos : Pos} {e obj : Expr}
end
end DL
namespace DL
open PySem PySem.Spec L2
section
variable {K : PySem.W.Frag} {B : Base} {G H : Hp} {σ : L2.St} {ρ : List Slot}
end
@[reducible] def oTP {α γ : Type} (f : α → D) (g : γ → D) (p : α × List γ) : OT := .tp [.dat (f p.1), oL g p.2]
section
variable {X : Cx} {B : Base} {ρ : List Slot} {pos : Pos} {e : Expr} {es : List Expr} {β : Type} {m : R β} {ρ' : β → List Slot}
end
end DL
namespace DL
open PySem PySem.Spec L2
section
variable {K : PySem.W.Frag} {B : Base} {ρ : List Slot}
abbrev rAddS : R2 := fun x y H Q => ∃ i j, x = .str i ∧ y = .str j ∧ i.length + j.length ≤ sizeLine ∧ Q (.str (i ++ j)) H
def partS (i j : Str) : Bool := !(Builtin.Str.occurrences j i 0 j.length 1).isEmpty
abbrev rInS : R2 := fun x y H Q => ∃ i j, x = .str i ∧ y = .str j ∧ Q (.bl (!(Builtin.Str.occurrences j i 0 j.length 1).isEmpty)) H
abbrev rNiS : R2 := fun x y H Q => ∃ i j, x = .str i ∧ y = .str j ∧ Q (.bl (!(!(Builtin.Str.occurrences j i 0 j.length 1).isEmpty))) H
def sgAt (z : Str) (i : Int) : R Str := (R.guard (z.length ≤ sizeLine)).bind fun _ => (R.some (atI z.cps.toList i)).bind fun c => R.ok ⟨#[c]⟩
def sgs (z : Str) : List Str := z.cps.toList.map fun c => ⟨#[c]⟩
end
def asS : D → Option Str
  | .str z => some z
  | _ => none
section
variable {X : Cx} {B : Base} {ρ : List Slot} {pos : Pos} {e obj tg it : Expr}
def firstS (a b : Str) : Option Nat := (Builtin.Str.occurrences a b 0 a.length 1).head?
end
section
variable {K : PySem.W.Frag} {B : Base} {G H : Hp}
theorem Cells.wkAt {d d' : D} (w : Wk d d') {σ : L2.St} {ρ : List Slot} {A : List Addr} (h : Cells K B G H σ ρ A) : ∀ {i : Nat}, ρ[i]? = some (.val d) → Cells K B G H σ (ρ.set i (.val d')) A := by
  induction h with
  | nil => exact fun e => nomatch e
  | cons c r ih =>
    intro i e
    cases i with
    | zero =>
      simp at e
      subst e
      cases c with
      | val h => exact .cons (.val (w K G _ h)) r
    | succ i => exact .cons c (ih (by simpa using e))
theorem En.wkAt {d d' : D} (w : Wk d d') {σ : L2.St} {ρ : List Slot} (E : En K B G H σ ρ []) {i : Nat} (h : ρ[i]? = some (.val d)) : En K B G H σ (ρ.set i (.val d')) [] := by
  obtain ⟨A, c, n, g⟩ := E.own
  refine ⟨E.anc, ⟨A, Cells.wkAt w (show Cells K B G H σ ρ A from c) h, n, g⟩, by rw [List.length_set]; exact E.len, fun k j p e => E.ali k j p ?_⟩
  rw [List.getElem?_set] at e
  split at e
  · split at e
    · injection e with e
      cases e
    · cases e
  · exact e
end
section
variable {X : Cx} {B : Base} {ρ : List Slot}
end
end DL
namespace L2
open PySem PySem.Spec PyProof.Rows HT
section
variable {X : Cx}
def rCatF (K : PySem.W.Frag) : R2 := fun x y H Q => ∃ a b xs ys, x = .ref a ∧ y = .ref b ∧ SqT K H a xs ∧ SqT K H b ys ∧ (xs ≠ [] ∧ ys ≠ []) ∧ xs.length + ys.length ≤ sizeLine ∧
  ∀ p ob', H p = none → ob'.dict = none → Q (.ref p) (upd H p (.frz ob' (.tup (xs ++ ys))))
end
end L2
namespace DL
open PySem PySem.Spec L2
section
variable {X : Cx} {B : Base} {ρ : List Slot} {pos : Pos} {a e e2 tg : Expr} {β α γ : Type} {K : PySem.W.Frag}
end
end DL
namespace L2
open PySem PySem.Spec PyProof.Rows
section
variable {X : Cx}
def rListR : List V → Hp → VK → Prop := fun xs H Q => ∃ p kvs, xs = [.ref p] ∧ Rd H p (.dK kvs) ∧ ∀ q, H q = none → Q (.ref q) (upd H q (.lst (kvs.map fun kv => kV kv.1)))
def tFrz (t : TE) : TE := fun σ H Q => t σ H fun v H1 => ∃ d u, v = .ref d ∧ H1 d = some u ∧ Mut (some u) ∧ ∀ od, Q v (upd H1 d (.frz od u))
end
end L2
namespace DL
open PySem PySem.Spec L2
section
variable {β : Type}
@[reducible] def eDK (f : β → D) (kvs : List (Int × β)) : D := .ddk (kvs.map fun p => (D.int p.1, f p.2))
@[reducible] def eDl (f : β → D) (kvs : List (Int × β)) : D := .dict (kvs.map fun p => (D.int p.1, f p.2))
theorem toD_odK (f : β → D) (kvs : List (Int × β)) : (odK f kvs).toD = eDl f kvs := by
  rw [odK, OT.toD, eDl, List.map_map]
  rfl
def lookI (kvs : List (Int × β)) (k : Int) : Option β := (kvs.find? fun p => decide (p.1 = k)).map (·.2)
def dropI (kvs : List (Int × β)) (k : Int) : List (Int × β) := kvs.filter fun p => decide (p.1 ≠ k)
end
section
variable {K : PySem.W.Frag} {B : Base} {G H : Hp} {σ : L2.St} {ρ : List Slot} {ex : List (V × Slot)}
end
section
variable {K : PySem.W.Frag} {G : Hp} {β : Type} {f : β → D}
end
section
variable {X : Cx} {B : Base} {ρ : List Slot} {e a o o2 e2 tg it val : Expr} {pos pos' ap cp : Pos} {β γ : Type} {f : β → D}
def rDGet : R2 := fun x y H Q => ∃ a v, x = .ref a ∧ DGet H a y (some v) ∧ Q v H
def rDIn (c : Bool) : R2 := fun y x H Q => ∃ a o, x = .ref a ∧ DGet H a y o ∧ Q (.bl (if c then o.isSome else !o.isSome)) H
section
variable {x : Str} {px : Pos} {l : Nat} {kvs : List (Int × β)} {k : Int}
end
end
end DL
namespace DL
open PySem PySem.Spec L2 PyProof.Rows
def atomD : D → Bool
  | .none => true
  | .int _ => true
  | _ => false
def sameD : D → D → Bool
  | .int k, .int i => i == k
  | .none, .none => true
  | _, _ => false
def cntD (xs : List D) (k : D) : Int := ((xs.countP (sameD k) : Nat) : Int)
inductive AtV : V → D → Prop
  | non : AtV .non .none
  | int (i : Int) : AtV (.int i) (.int i)
def sameA : D → Value → Bool
  | .int k, .int i _ => i == k
  | .none, .none => true
  | _, _ => false
theorem AtV.val {v : V} {d : D} (h : AtV v d) {u : Value} (r : RelV v u) (k : D) : sameA k u = sameD k d := by
  cases h with
  | non =>
    have r : u = .none := r
    subst r
    cases k <;> rfl
  | int i =>
    obtain ⟨t, r⟩ : ∃ t, u = .int i t := r
    subst r
    cases k <;> rfl
theorem AtV.eq {v w : V} {d k : D} (h : AtV v d) (g : AtV w k) {u x : Value} (r : RelV v u) (q : RelV w x) {A : Around} {s : Shared} : SeqAt.EqAt A s u x (sameA k u) := by
  cases h with
  | non =>
    have r : u = .none := r
    subst r
    cases g with
    | non =>
      have q : x = .none := q
      subst q
      exact SeqAt.EqAt.same _
    | int j =>
      obtain ⟨t, q⟩ : ∃ t, x = .int j t := q
      subst q
      exact SeqAt.EqAt.none_int j t
  | int i =>
    obtain ⟨t, r⟩ : ∃ t, u = .int i t := r
    subst r
    cases g with
    | non =>
      have q : x = .none := q
      subst q
      exact SeqAt.EqAt.int_none i t
    | int j =>
      obtain ⟨t', q⟩ : ∃ t, x = .int j t := q
      subst q
      exact SeqAt.EqAt.int_int i t j t'
section
variable {X : Cx}
def rCntD (K : PySem.W.Frag) : V → List V → Hp → VK → Prop := fun x xs H Q => ∃ (p : Addr) (vs : List V) (ds : List D) (k : D) (w : V), x = .ref p ∧ xs = [w] ∧ SqL K H p vs ∧ Paired AtV vs ds ∧ AtV w k ∧ Q (.int (cntD ds k)) H
end
section
variable {X : Cx} {B : Base} {ρ : List Slot} {pos : Pos} {e obj : Expr}
end
end DL
namespace DL
open PySem PySem.Spec L2
def Base.cover (B : Base) (H : Hp) (A : List Addr) : Base := { B with H0 := fun a => if a ∈ A then H a else B.H0 a, Mo := fun l => (B.Mo l).filter (fun a => decide (a ∉ A)), m0 := by rw [B.m0]; rfl }
section
variable {K : PySem.W.Frag} {B B' : Base} {G G' H H' G1 G2 H1 : Hp}
theorem Cells.lab : ∀ {σ : List (Option V)} {ρ : List Slot} {A : List Addr}, Cells K B G H σ ρ A → ∀ a ∈ A, (∃ l, a ∈ B.Mo l) ∨ B.H0 a = none
  | _, _, _, .nil, _, m => nomatch m
  | _, _, _, .cons c r, a, m => by
    rcases List.mem_append.mp m with m | m
    · cases c with
      | own _ k _ => exact (k a m).imp (fun z => ⟨_, z⟩) id
      | non => cases m
      | val _ => cases m
      | ali => cases m
    · exact Cells.lab r a m
theorem En.hide {σ : L2.St} {ρ : List Slot} (E : En K B G H σ ρ []) {i l : Nat} {o : OT} (h : ρ[i]? = some (.own l o)) (hal : noAlis ρ = true) : ∃ B' : Base, B'.rs = B.rs ∧ En K B' G H σ (ρ.set i .non) [] ∧
    ∀ G1 H1 ρ1 ex, Ex G G1 → En K B' G1 H1 σ ρ1 ex → ρ1[i]? = some .non → noAlis ρ1 = true → En K B G1 H1 σ (ρ1.set i (.own l o)) ex := by
  obtain ⟨A0, c, n, g⟩ := E.own
  obtain ⟨v, A, A2, e1, hO, ⟨hl, hp⟩, c2, pm⟩ := Cells.take1 (show Cells K B G H σ ρ A0 from c) h
  have nn := pm.nodup_iff.mp n
  have n1 := List.nodup_append.mp nn
  have hA : ∀ a ∈ A, G a = none := fun a m => g a (pm.mem_iff.mpr (List.mem_append_left _ m))
  have hA2 : ∀ a ∈ A2, G a = none := fun a m => g a (pm.mem_iff.mpr (List.mem_append_right _ m))
  have hT : ∀ a ∈ A, H a ≠ none := fun a m z => by
    obtain ⟨vs, e, _⟩ := hO.thereL a m
    rw [e] at z
    cases z
  have c3 : Cells K (B.cover H A) G H σ (ρ.set i .non) A2 := by
    refine Cells.reb (B := B) c2 (fun l a m k => ?_) rfl
    have ha : a ∉ A := fun z => n1.2.2 a z a m rfl
    rcases k with k | k
    · exact .inl (List.mem_filter.mpr ⟨k, decide_eq_true ha⟩)
    · refine .inr ?_
      show (if a ∈ A then H a else B.H0 a) = _
      rw [if_neg ha, k]
  have hi : i < ρ.length := (List.getElem?_eq_some_iff.mp h).1
  have an : Anc (B.cover H A) G H := by
    refine ⟨fun a u hm e => ?_, fun a l hm => E.anc.there a l (List.mem_filter.mp hm).1, E.anc.gsub, fun a e1 e2 => ?_, E.anc.sub⟩
    · have e : (if a ∈ A then H a else B.H0 a) = some u := e
      by_cases ha : a ∈ A
      · rw [if_pos ha] at e
        exact e
      · rw [if_neg ha] at e
        exact E.anc.keep a u (fun l m => hm l (List.mem_filter.mpr ⟨m, decide_eq_true ha⟩)) e
    · by_cases ha : a ∈ A
      · exact .inl (hA a ha)
      · have e1 : (if a ∈ A then H a else B.H0 a) ≠ none := e1
        rw [if_neg ha] at e1
        exact E.anc.gnew a e1 e2
  refine ⟨B.cover H A, rfl, ⟨an, ⟨A2, c3, n1.2.1, hA2⟩, by rw [List.length_set]; exact E.len, fun k j p e => ?_⟩, fun G1 H1 ρ1 ex x E1 h2 ha2 => ?_⟩
  · by_cases hk : i = k
    · subst hk
      rw [List.getElem?_set_self hi] at e
      cases e
    · rw [List.getElem?_set_ne hk] at e
      exact absurd e (noAlis_get hal)
  · obtain ⟨A5, c5, n5, g5⟩ := E1.own
    have kp : ∀ a ∈ A, ∀ u, H a = some u → H1 a = some u := fun a m u e => E1.anc.keep a u (fun l z => by
      have z := (List.mem_filter.mp z).2
      simp at z
      exact z m) (by
      show (if a ∈ A then H a else B.H0 a) = _
      rw [if_pos m, e])
    have hG0 : ∀ a ∈ A, B.G0 a = none := fun a m => by
      cases e : B.G0 a with
      | none => rfl
      | some u =>
        have := E.anc.gsub a u e
        rw [hA a m] at this
        cases this
    have hG1 : ∀ a ∈ A, G1 a = none := fun a m => E1.anc.gnone (by
      show (if a ∈ A then H a else B.H0 a) ≠ none
      rw [if_pos m]
      exact hT a m) (hG0 a m) (fun xs z => (hO.ex x kp).nt a m xs z)
    have disj : ∀ a ∈ A5, a ∉ A := fun a m ha => by
      rcases c5.lab a m with ⟨l', z⟩ | z
      · have z := (List.mem_filter.mp z).2
        simp at z
        exact z ha
      · have z : (if a ∈ A then H a else B.H0 a) = none := z
        rw [if_pos ha] at z
        exact hT a ha z
    have c7 : Cells K B G1 H1 (ex.map (fun p => some p.1) ++ σ) (ex.map (·.2) ++ ρ1) A5 := by
      refine Cells.reb (B := B.cover H A) c5 (fun l a m k => ?_) rfl
      have ha := disj a m
      rcases k with k | k
      · exact .inl (List.mem_filter.mp k).1
      · refine .inr ?_
        have k : (if a ∈ A then H a else B.H0 a) = none := k
        rw [if_neg ha] at k
        exact k
    have hO1 : Own K G1 H1 v o A := hO.ex x kp
    obtain ⟨A8, c8, p8⟩ := c7.put1 (i := ex.length + i) (l := l) (o := o) (v := v) (A1 := A) (by
      rw [List.getElem?_append_right (by simp), List.length_map]
      simpa using h2) (by
      rw [List.getElem?_append_right (by simp), List.length_map]
      simpa using e1) hO1 ⟨hl, hp⟩
    rw [List.set_append_right _ _ (by simp), List.length_map, Nat.add_sub_cancel_left] at c8
    have hi2 : i < ρ1.length := (List.getElem?_eq_some_iff.mp h2).1
    have an1 : Anc B G1 H1 := by
      refine ⟨fun a u hm e => ?_, fun a l' hm => ?_, E1.anc.gsub, fun a e1 e2 => ?_, E1.anc.sub⟩
      · have ha : a ∉ A := fun ha => by
          rcases hl a ha with k | k
          · exact hm l k
          · rw [k] at e
            cases e
        exact E1.anc.keep a u (fun l m => hm l (List.mem_filter.mp m).1) (by
          show (if a ∈ A then H a else B.H0 a) = _
          rw [if_neg ha, e])
      · by_cases ha : a ∈ A
        · obtain ⟨u, e, _⟩ := hO.thereL a ha
          rw [kp a ha u e]
          exact fun z => nomatch z
        · exact E1.anc.there a l' (List.mem_filter.mpr ⟨hm, decide_eq_true ha⟩)
      · by_cases ha : a ∈ A
        · exact .inl (hG1 a ha)
        · exact E1.anc.gnew a (by
            show (if a ∈ A then H a else B.H0 a) ≠ none
            rw [if_neg ha]
            exact e1) e2
    refine ⟨an1, ⟨A8, c8, p8.nodup_iff.mpr (List.nodup_append.mpr ⟨n1.1, n5, fun a m b m2 e => ?_⟩), fun a m => ?_⟩, ?_, fun k j p e => ?_⟩
    · subst e
      exact disj a m2 m
    · rcases List.mem_append.mp (p8.mem_iff.mp m) with m | m
      · exact hG1 a m
      · exact g5 a m
    · rw [List.length_set]
      exact E1.len
    · by_cases hk : i = k
      · subst hk
        rw [List.getElem?_set_self hi2] at e
        cases e
      · rw [List.getElem?_set_ne hk] at e
        exact absurd e (noAlis_get ha2)
end
section
variable {X : Cx} {B : Base} {ρ : List Slot} {pos : Pos} {e : Expr}
end
section
variable {K : PySem.W.Frag} {B : Base} {β : Type} {f : β → D} {kvs : List (Int × β)} {k : Int}
end
section
variable {X : Cx} {B : Base} {ρ : List Slot} {pos : Pos} {obj e : Expr}
end
section
variable {X : Cx} {a o : Expr} {pos : Pos}
end
end DL
namespace DL
open PySem PySem.Spec L2 PySem.W PyProof.Rows
section
variable {K : PySem.W.Frag} {B : Base} {ρ : List Slot}
end
end DL
namespace L2
open PySem PySem.Spec PyProof.Rows HT
section
variable {X : Cx}
def rCatRR : R2 := fun x y H Q => ∃ a b oa ob xs ys, x = .ref a ∧ y = .ref b ∧ H a = some (.frz oa (.tup xs)) ∧ H b = some (.frz ob (.tup ys)) ∧ xs.length + ys.length ≤ sizeLine ∧
  (xs = [] → Q (.ref b) H) ∧ (xs ≠ [] → ys = [] → Q (.ref a) H) ∧ (xs ≠ [] → ys ≠ [] → ∀ p ob', H p = none → ob'.dict = none → Q (.ref p) (upd H p (.frz ob' (.tup (xs ++ ys)))))
def reprB (b : Bool) : Str := if b then "True" else "False"
end
end L2
namespace DL
open PySem PySem.Spec L2
section
variable {X : Cx} {B : Base} {ρ : List Slot} {pos : Pos} {a e e2 tg : Expr} {β α γ : Type} {K : PySem.W.Frag}
end
def asRIs : List D → Option (List (List Int))
  | [] => some []
  | d :: ds => match asRI d, asRIs ds with
    | some i, some l => some (i :: l)
    | _, _ => none
def asTRI (d : D) : Option (List (List Int)) := (asT d).bind asRIs
section
variable {K : PySem.W.Frag} {B : Base} {ρ : List Slot}
end
end DL
namespace L2
open PySem PySem.Spec PyProof.Rows
section
variable {X : Cx}
inductive Locked : Hp → List Addr → Hp → Prop
  | nil (H : Hp) : Locked H [] H
  | cons {H H' : Hp} {d : Addr} {od : Obj} {u : HO} {L : List Addr} : H d = some u → Locked (upd H d (.frz od u)) L H' → Locked H (d :: L) H'
def tFrzA (t : TE) : TE := fun σ H Q => t σ H fun v H1 => ∃ L : List Addr, L.Nodup ∧ (∀ d ∈ L, ∃ u, H1 d = some u ∧ Mut (some u)) ∧ ∀ H2, Locked H1 L H2 → Q v H2
theorem Locked.out : ∀ {L : List Addr} {H H2 : Hp}, Locked H L H2 → ∀ a, a ∉ L → H2 a = H a
  | _, _, _, .nil _, _, _ => rfl
  | _, _, _, .cons (d := d) h l, a, ha => by
    rw [l.out a fun m => ha (List.mem_cons_of_mem _ m), upd_ne (fun z => ha (by rw [z]; exact List.mem_cons_self))]
end
end L2
namespace DL
open PySem PySem.Spec L2
section
variable {β : Type}
@[reducible] def odd (f : β → D) (kds : List (Int × List (Int × β))) : OT := .dko (kds.map fun p => Sum.inl p.1) (kds.map fun p => odK f p.2)
end
section
variable {K : PySem.W.Frag} {B : Base} {G H : Hp} {σ : L2.St} {ρ : List Slot} {ex : List (V × Slot)} {β : Type} {f : β → D}
theorem own_pairs : ∀ {xs : List (Int × OT)} {vs : List V} {A : List Addr}, OwnAll K G H vs (xs.map fun p => OT.tp [.dat (.int p.1), p.2]) A → ∃ (ps : List Addr) (kvs : List (Key × V)), vs = ps.map V.ref ∧ Paired (fun p kv => SqT K G p [kV kv.1, kv.2]) ps kvs ∧ kvs.map (·.1) = xs.map (fun p => (Sum.inl p.1 : Key)) ∧ OwnAll K G H (kvs.map (·.2)) (xs.map (·.2)) A
  | [], _, _, .nil => ⟨[], [], rfl, .nil, rfl, .nil⟩
  | x :: xs, _, _, .cons h r => by
    obtain ⟨ps, kvs, e1, e2, e3, e4⟩ := own_pairs r
    cases h with
    | @tp a ws _ A1 hS hall =>
      cases hall with
      | cons h1 r1 =>
        cases r1 with
        | cons h2 r2 =>
          cases r2
          cases h1 with
          | dat h1 =>
            have h1 := h1.int_inv
            subst h1 e1
            refine ⟨a :: ps, (Sum.inl x.1, _) :: kvs, rfl, .cons hS e2, by rw [List.map_cons, e3]; rfl, ?_⟩
            have := OwnAll.cons h2 e4
            simpa using this
theorem mergeK_new : ∀ {more kvs : List (Key × V)}, (more.map (·.1)).Nodup → (∀ k ∈ more.map (·.1), k ∉ kvs.map (·.1)) → mergeK kvs more = kvs ++ more
  | [], kvs, _, _ => by rw [List.append_nil]; rfl
  | (k, v) :: more, kvs, nd, h => by
    have n2 := List.nodup_cons.mp nd
    have no : (kvs.any fun kv => decide (kv.1 = k)) = false := by
      rw [List.any_eq_false]
      intro kv hkv
      have := h k List.mem_cons_self
      simp only [decide_eq_true_eq]
      intro e
      exact this (List.mem_map.mpr ⟨kv, hkv, e⟩)
    have e : putK kvs k v = kvs ++ [(k, v)] := by
      unfold putK
      rw [no]
      rfl
    show mergeK (putK kvs k v) more = _
    rw [e, mergeK_new n2.2 fun k2 hk2 => ?_, List.append_assoc]
    · rfl
    · rw [List.map_append]
      intro m
      rcases List.mem_append.mp m with m | m
      · exact h k2 (List.mem_cons_of_mem _ hk2) m
      · have : k2 = k := List.mem_singleton.mp m
        exact n2.1 (by rw [← this]; exact hk2)
theorem En.dko {v : V} {xs : List (Int × OT)} (E : En K B G H σ ρ ((v, .own 0 (.lst (xs.map fun p => OT.tp [.dat (.int p.1), p.2]))) :: ex)) : ∃ a ps kvs, v = .ref a ∧ H a = some (.lst (ps.map V.ref)) ∧ Paired (fun p kv => SqT K G p [kV kv.1, kv.2]) ps kvs ∧ kvs.map (·.1) = xs.map (fun p => (Sum.inl p.1 : Key)) ∧
    ∀ p, H p = none → En K B G (upd H p (.dK kvs)) σ ρ ((.ref p, .own 0 (.dko (xs.map fun p => Sum.inl p.1) (xs.map (·.2)))) :: ex) := by
  obtain ⟨A, cs, n, g⟩ := E.own
  cases cs with
  | @cons _ _ A1 _ _ A2 c0 cr =>
    cases c0 with
    | own hO hl hp =>
      cases hO with
      | @lst a vs _ A3 hH hall =>
        obtain ⟨ps, kvs, e1, e2, e3, e4⟩ := own_pairs hall
        subst e1
        refine ⟨a, ps, kvs, rfl, hH, e2, e3, fun p hp0 => ?_⟩
        have hG := E.sub.back hp0
        have h0 := E.fresh hp0
        have ht := E.own
        have nin : ∀ b ∈ (a :: A3) ++ A2, b ≠ p := fun b m z => by
          obtain ⟨u, hu⟩ := (Cells.cons (Cell.own (Own.lst hH hall) hl hp) cr).there b m
          rw [z, hp0] at hu
          cases hu
        have n1 := List.nodup_append.mp n
        have n2 := List.nodup_cons.mp n1.1
        have keep : ∀ b ∈ A3 ++ A2, ∀ u, H b = some u → upd H p (.dK kvs) b = some u := fun b m u e => by
          rw [upd_ne (nin b (by
            rcases List.mem_append.mp m with m | m
            · exact List.mem_append_left _ (List.mem_cons_of_mem _ m)
            · exact List.mem_append_right _ m))]
          exact e
        refine ⟨E.anc.put hG (.inr h0) _, ⟨(p :: A3) ++ A2, .cons (.own (.dko upd_same e3 (e4.ex (Ex.refl G) fun b m u e => keep b (List.mem_append_left _ m) u e)) (fun b m => ?_) (.inl rfl)) (cr.ex (Ex.refl G) fun b m u e => keep b (List.mem_append_right _ m) u e), ?_, fun b m => ?_⟩, E.len, fun i j q e => ?_⟩
        · rcases List.mem_cons.mp m with rfl | m
          · exact .inr h0
          · exact hl b (List.mem_cons_of_mem _ m)
        · refine List.nodup_append.mpr ⟨List.nodup_cons.mpr ⟨fun m => nin p (List.mem_append_left _ (List.mem_cons_of_mem _ m)) rfl, n2.2⟩, n1.2.1, fun x hx y hy => ?_⟩
          rcases List.mem_cons.mp hx with rfl | hx
          · exact fun z => nin y (List.mem_append_right _ hy) z.symm
          · exact n1.2.2 x (List.mem_cons_of_mem _ hx) y hy
        · rcases List.mem_append.mp m with m | m
          · rcases List.mem_cons.mp m with rfl | m
            · exact hG
            · exact g b (List.mem_append_left _ (List.mem_cons_of_mem _ m))
          · exact g b (List.mem_append_right _ m)
        · obtain ⟨v, w, h1, h2, h3⟩ := E.ali i j q e
          exact ⟨v, w, h1, h2, h3.ex (Ex.new hp0)⟩
end
section
variable {X : Cx} {B : Base} {ρ : List Slot} {e a o o2 e1 e2 tg it val : Expr} {pos pos' p1 ap cp : Pos} {β γ : Type} {f : β → D}
@[reducible] def oTK (f : β → D) (p : Int × List (Int × β)) : OT := .tp [.dat (.int p.1), odK f p.2]
theorem je_dictDD {E0 : Expr} {m : R γ} {xs : γ → List (Int × List (Int × β))} {ρ' : γ → List Slot} (hp : ∀ t, PA X [e] t → PE X E0 (tCB (rDictP X.K) t)) (h : JE X B ρ e m (fun b => .own 0 (.lst ((xs b).map (oTK f)))) ρ') (hst : starEach [e] X.env = (false, eval e X.env) :: starEach [] X.env := by rfl) :
    JE X B ρ E0 (m.bind fun b => (R.guard ((xs b).map (·.1)).Nodup).bind fun _ => .ok b) (fun b => .own 0 (odd f (xs b))) ρ' :=
  PE_imp (hp _ (pa_cons h pa_nil hst)) fun σ H Q ⟨G, E, q⟩ => ⟨G, E, R.post_mono (R.post_bind.mp q) fun b q v G1 H1 x1 E1 => by
    obtain ⟨nd, q⟩ := R.post_guard (R.post_bind.mp q)
    have E1' : En X.K B G1 H1 σ (ρ' b) ((v, .own 0 (.lst (((xs b).map fun p => (p.1, odK f p.2)).map fun p => OT.tp [.dat (.int p.1), p.2]))) :: []) := by
      rw [List.map_map]
      exact E1
    obtain ⟨a, ps, kvs, hv, hH, hpr, hk, mk⟩ := E1'.dko
    rw [List.map_map, List.map_map] at mk
    rw [List.map_map] at hk
    refine ⟨a, ps, kvs, by rw [hv], .inl (.inl hH), paired_ex E1.sub hpr, fun p hp0 => ?_⟩
    have kn : (kvs.map (·.1)).Nodup := by
      rw [hk]
      have e : ((xs b).map ((fun p : Int × OT => (Sum.inl p.1 : Key)) ∘ fun p => (p.1, odK f p.2))) = ((xs b).map (·.1)).map Sum.inl := by rw [List.map_map]; rfl
      rw [e]
      exact List.Pairwise.map _ (fun x y ne z => ne (Sum.inl.inj z)) nd
    have em : mergeK [] kvs = kvs := by rw [mergeK_new kn fun k _ => by simp, List.nil_append]
    rw [em]
    exact q _ G1 _ x1 (mk p hp0)⟩
end
def asLI : D → Option (List Int)
  | .list ds => asIs ds
  | _ => none
section
variable {X : Cx} {B : Base} {ρ : List Slot} {a b : Expr} {pos : Pos}
end
section
variable {X : Cx} {B : Base} {ρ : List Slot} {e a b elt tg it : Expr} {pos : Pos} {st : Stmt}
def JV (X : Cx) (B : Base) (ρ : List Slot) (st : Stmt) (i : Nat) {β : Type} (m : R β) (sl : β → Slot) (ρ' : β → List Slot) : Prop := PS X st (fun D σ H => tJ X.K B ρ m sl ρ' σ H fun x H1 => D.nx (σ.set i (some x)) H1)
end
end DL
namespace DL
open PySem PySem.Spec L2
@[reducible] def eKR (p : List Int) : D := .key p
def kyR (p : List Int) : List Key := p.map Sum.inl
section
variable {β : Type}
@[reducible] def odR (f : β → D) (kvs : List ((List Int) × β)) : OT := .dt (kvs.map fun p => (kyR p.1, f p.2))
def hasR (k : List Int) (kvs : List ((List Int) × β)) : Bool := kvs.any fun p => decide (p.1 = k)
def putR (kvs : List ((List Int) × β)) (k : List Int) (v : β) : List ((List Int) × β) := if hasR k kvs = true then kvs.map (fun p => if p.1 = k then (p.1, v) else p) else kvs ++ [(k, v)]
def mergeR (kvs more : List ((List Int) × β)) : List ((List Int) × β) := more.foldl (fun acc p => putR acc p.1 p.2) kvs
end
section
variable {K : PySem.W.Frag} {G : Hp} {β : Type} {f : β → D}
end
section
variable {K : PySem.W.Frag} {B : Base} {G H : Hp} {σ : L2.St} {ρ : List Slot} {ex : List (V × Slot)}
end
section
variable {X : Cx} {B : Base} {ρ : List Slot} {e a b o2 val : Expr} {es : List Expr} {pos pos' : Pos} {β γ : Type}
end
section
variable {X : Cx}
def tDispT (tk tv : TE) : TE := fun σ H Q => ∀ p, H p = none → tPairs [(tk, tv)] σ (upd H p (.dT [])) fun ps H2 => ∃ ks b y, ps = [(.ref b, y)] ∧ H2 p = some (.dT []) ∧ H2 b = some (.tup (ks.map kV)) ∧ Q (.ref p) (upd H2 p (.dT [(ks, y)]))
end
section
variable {X : Cx} {B : Base} {ρ : List Slot} {pos : Pos} {e val : Expr} {β γ : Type}
end
section
variable {B : Base} {ρ : List Slot}
end
section
variable {X : Cx} {B : Base} {ρ : List Slot} {pos : Pos} {a : Expr} {β : Type}
end
section
variable {X : Cx} {B : Base} {ρ : List Slot} {e a b o2 val : Expr} {pos pos' : Pos} {β : Type}
end
end DL
namespace RZ
open PySem
open PySem.Sem (wp)
section
variable {prog : Program} {w : World} {A : Around} {E : Value → Shared → Prop} {s : Shared}
end
end RZ
namespace L2
open PySem PySem.Spec PyProof.Rows RZ
def kZip (S : Addr) (Q : Hp → Prop) : List (V × V) → List V → Hp → Prop
  | [], _, H => Q H
  | p :: r, acc, H => ∀ q, H q = none → kZip S Q r (acc ++ [.ref q]) (upd (upd H q (.tup [p.1, p.2])) S (.lst (acc ++ [.ref q])))
section
variable {X : Cx} {pins : List (Addr × Obj)} {σ : St} {A1 : Around} {a b z TI TO i1 i2 S : Addr}
def ZSt (z TI TO i1 i2 a b : Addr) (i : Nat) (h : Heap) (H : Hp) : Prop :=
  IsPair h TI (.ref i1) (.ref i2) ∧ h.IsTupleIter i1 a i ∧ h.IsTupleIter i2 b i ∧ ((IsZip h z TI TO .none ∧ ∃ x y, IsPair h TO x y) ∨ ∃ T f ls, IsZipHeld h z TI TO T f ∧ H T = some (.tup ls)) 
end
section
variable {X : Cx} {e e2 : Expr} {ta : TA}
def tLZip (K : PySem.W.Frag) (ta : TA) : TE := fun σ H Q => ta σ H fun vs H1 => ∃ a b xs ys, vs = [.ref a, .ref b] ∧ SqT K H1 a xs ∧ SqT K H1 b ys ∧ ∀ S, H1 S = none → kZip S (fun H2 => Q (.ref S) H2) (xs.zip ys) [] (upd H1 S (.lst []))
end
end L2
namespace DL
open PySem PySem.Spec L2
section
variable {K : PySem.W.Frag} {B : Base} {σ : L2.St} {ρ : List Slot} {α γ : Type} {f : α → D} {g : γ → D}
end
section
variable {X : Cx} {B : Base} {ρ : List Slot} {e e2 : Expr} {α γ : Type}
end
end DL
namespace RZ
open PySem PySem.Spec PyProof.Rows L2
section
variable {prog : Program} {w : World} {A : Around}
end
def ItzM (K : PySem.W.Frag) (a b : Addr) : It :=
  ⟨fun i H => ∃ (xs ys : List V) (x y : V), SqT K H a xs ∧ SqL K H b ys ∧ xs[i]? = some x ∧ ys[i]? = some y,
    fun i H v H' => ∃ T x y, v = .ref T ∧ H T = none ∧ H' = upd H T (.tup [x, y]) ∧ (∀ xs, SqT K H a xs → xs[i]? = some x) ∧ ∀ ys, SqL K H b ys → ys[i]? = some y,
    fun i H => ∃ xs ys : List V, SqT K H a xs ∧ SqL K H b ys ∧ (xs.length ≤ i ∨ ys.length ≤ i)⟩
def iZipM (K : PySem.W.Frag) (ta : TA) : TI := fun σ H R => ta σ H fun vs H1 => ∃ a b xs ys, vs = [.ref a, .ref b] ∧ SqT K H1 a xs ∧ SqL K H1 b ys ∧ R (ItzM K a b) H1
end RZ
namespace DL
open PySem PySem.Spec L2 PyProof.Rows
section
variable {X : Cx} {B : Base} {ρ : List Slot} {e e2 : Expr} {pos : Pos} {α β γ : Type}
end
end DL
namespace L2
open PySem PySem.Spec PyProof.Rows
section
variable {X : Cx}
def rRemD (K : PySem.W.Frag) : V → List V → Hp → VK → Prop := fun x xs H Q => ∃ (a : Addr) (vs : List V) (y : V) (d : PyData) (ds : List PyData) (j : Nat) (z : PyData), x = V.ref a ∧ xs = [y] ∧ H a = some (.lst vs) ∧ Dp K H (V.ref a) (.list ds) ∧ Dp K H y d ∧
  SeqAt.shaped (.list ds) = true ∧ SeqAt.shaped d = true ∧ ds[j]? = some z ∧ PyData.eqv z d = true ∧ (∀ (m : Nat) (z' : PyData), m < j → ds[m]? = some z' → PyData.eqv z' d = false) ∧ Q .non (upd H a (.lst (vs.eraseIdx j)))
theorem mt_removeD (hu : X.A.units + 65 < cLine) : MtM X "list.remove" (rRemD X.K) := by
  intro pins s σ H x xs v us Q I rx rxs h
  obtain ⟨a, vs, y, d, ds, j, z, rfl, rfl, hH, hl, hy, sl, sd, hz, hzj, hno, q⟩ := h
  cases rx
  cases rxs with
  | cons ry rt =>
    rename_i uy ut
    cases rt
    obtain ⟨bs, r1⟩ := Dp.reads I d y uy hy ry
    have hxs : PyData.canLayAll0 ds = true := SeqAt.canLay_of_shaped sl
    have hroom : X.A.units + 1 + min (PyData.depthAll ds) d.depth < cLine := room_in_shaped sd hu
    cases hl with
    | lst hs ha =>
      have ev := I.list_inj hs (.inl (.inl hH))
      subst ev
      obtain ⟨zl, its, n, rv, hlen, ho⟩ := I.lstM hH
      obtain ⟨as, h4⟩ := Dp.readsAll I ds _ its ha rv
      have hn : its.length = ds.length := SeqAt.ReadsAll.length ds its as h4
      have hmap : its.map (SeqAt.readOf s.heap) = ds := SeqAt.readsAll_map ds its as hxs h4
      have hsl := sizeLine_eq
      obtain ⟨hjd, _⟩ := List.getElem?_eq_some_iff.mp hz
      have hjl : j < its.length := by omega
      have hj : j < its.toArray.size := by simpa using hjl
      have at_ : ∀ (m : Nat) (hm : m < its.toArray.size) (z' : PyData), ds[m]? = some z' → SeqAt.readOf s.heap its.toArray[m] = z' := by
        intro m hm z' hz'
        have hml : m < its.length := by simpa using hm
        rw [← hmap, List.getElem?_map, List.getElem?_eq_getElem hml] at hz'
        have e1 : SeqAt.readOf s.heap its[m] = z' := Option.some.inj (show some (SeqAt.readOf s.heap its[m]) = some z' from hz')
        simpa using e1
      refine call_meets PySem.F.slot_list_remove ⟨_, ho, rfl⟩ PySem.F.entry_list_remove (PySem.F.args_list_remove_2 _ _)
        (SeqAt.list_removeAt a its.toArray n none #[] uy (fun u => PyData.eqv (SeqAt.readOf s.heap u) d) j hj ?_ ?_ (by rw [List.size_toArray]; omega)) ⟨ho, SeqAt.items_eqAt (vs := its.toArray) (show ReadsAll s.heap its.toArray.toList ds as from h4) r1 hxs (SeqAt.canLay_of_shaped sd) hroom, ?_⟩
      · show PyData.eqv (SeqAt.readOf s.heap its.toArray[j]) d = true
        rw [at_ j hj z hz]
        exact hzj
      · intro m hm hmj
        have hmd : m < ds.length := by omega
        have hz' : ds[m]? = some ds[m] := List.getElem?_eq_getElem hmd
        show PyData.eqv (SeqAt.readOf s.heap its.toArray[m]) d = false
        rw [at_ m hm _ hz']
        exact hno m _ hmj hz'
      · refine ⟨.non, _, I.lset (its' := its.eraseIdx j) (t' := s.toks) hH ho ?_ (rv.eraseIdx j) ?_, rfl, q⟩
        · show its.toArray.eraseIdxIfInBounds j = (its.eraseIdx j).toArray
          rw [List.eraseIdxIfInBounds_toArray]
        · exact Nat.le_trans (List.length_eraseIdx_le _ _) zl
end
end L2
namespace DL
open PySem PySem.Spec L2 PyProof.Rows
section
variable {K : PySem.W.Frag} {α : Type} {f : α → D} {n : Nat}
theorem toPys_getF (f : α → D) : ∀ (l : List α) (j : Nat), (toPy.toPys (l.map f))[j]? = (l[j]?).map fun x => toPy (f x)
  | [], j => by simp [toPy.toPys]
  | x :: l, 0 => by simp [toPy.toPys]
  | x :: l, j + 1 => by
    rw [List.map_cons, toPy.toPys, List.getElem?_cons_succ, List.getElem?_cons_succ]
    exact toPys_getF f l j
theorem rpAll_erase {G : Hp} {vs : List V} {ds : List D} (h : RpAll K G vs ds) (j : Nat) : RpAll K G (vs.eraseIdx j) (ds.eraseIdx j) := by
  induction ds generalizing vs j with
  | nil =>
    cases h
    exact .nil
  | cons d ds ih =>
    cases h with
    | cons a r =>
      cases j with
      | zero => exact r
      | succ j => exact .cons a (ih r j)
theorem map_erase (f : α → D) (l : List α) (j : Nat) : (l.map f).eraseIdx j = (l.eraseIdx j).map f := by
  induction l generalizing j with
  | nil => simp
  | cons x l ih =>
    cases j with
    | zero => rfl
    | succ j => simp [ih]
theorem md_removeD [DecidableEq α] (h : EqE n f) (hn : n + 1 ≤ 64 := by decide) {xs : List α} {k : α} : MtD K (rRemD K) (xs.map f) [f k] (R.some (ixOf k xs)) (fun _ => .none) (fun j => (xs.eraseIdx j).map f) := fun G H a vs args Q rs e hH hr ha q => by
  obtain ⟨w, rfl, h2⟩ := rp1 ha
  obtain ⟨j, hj, q⟩ := R.post_some q
  obtain ⟨g1, g2⟩ := ixOf_some hj
  have hL := ee_L h
  have r0 : Rp K H (.ref a) (eL f xs) := .lst (.of hH) (RpAll.ex e hr)
  have d2 := r0.dp (Ex.refl H) (hL.lay xs)
  have s2 := hL.shaped hn xs
  rw [toPy] at d2 s2
  refine ⟨a, vs, w, _, _, j, toPy (f k), rfl, rfl, hH, d2, h2.dp e (h.lay k), s2, h.shaped (by omega) k, ?_, ?_, fun m z hm hz => ?_, q _ _ .non ?_⟩
  · rw [toPys_getF, g1]
    rfl
  · rw [h.eqv]
    exact decide_eq_true rfl
  · rw [toPys_getF] at hz
    cases hx : xs[m]? with
    | none => rw [hx] at hz; cases hz
    | some x =>
      rw [hx] at hz
      injection hz with hz
      subst hz
      rw [h.eqv]
      exact decide_eq_false fun e => g2 m hm (by rw [hx, e])
  · have := rpAll_erase hr j
    rw [map_erase] at this
    exact this
end
end DL
namespace DL
open PySem PySem.Spec L2 PyProof.Rows
@[reducible] def oTL {α : Type} (f : α → D) (rows : List (List α)) : OT := .tp (rows.map (oL f))
theorem toD_oTL {α : Type} (f : α → D) (rows : List (List α)) : (oTL f rows).toD = eT (eL f) rows := by
  rw [oTL, OT.toD, toDs_LL]
section
variable {K : PySem.W.Frag} {B : Base} {G H : Hp} {σ : L2.St} {ρ : List Slot}
theorem Cells.setNon {H : Hp} : ∀ {σ : L2.St} {ρ : List Slot} {A : List Addr} {j : Nat} {x : Option V}, Cells K B G H σ ρ A → ρ[j]? = some .non → Cells K B G H (σ.set j x) ρ A
  | _, _, _, j, x, .nil, e => by simp at e
  | _, _, _, 0, x, .cons c r, e => by
    simp at e
    subst e
    cases c
    exact .cons .non r
  | _, _, _, j + 1, x, .cons c r, e => .cons c (Cells.setNon r (by simpa using e))
theorem En.setNon (E : En K B G H σ ρ []) {j : Nat} {x : Option V} (h : ρ[j]? = some .non) (hal : noAlis ρ = true) : En K B G H (σ.set j x) ρ [] := by
  obtain ⟨A, c, n, g⟩ := E.own
  exact ⟨E.anc, ⟨A, Cells.setNon (show Cells K B G H σ ρ A from c) h, n, g⟩, by rw [List.length_set]; exact E.len, fun k j q e => absurd e (noAlis_get hal)⟩
end
section
variable {K : PySem.W.Frag} {B : Base} {G H : Hp}
end
section
variable {X : Cx} {B : Base} {ρ : List Slot} {pos : Pos}
end
section
variable {K : PySem.W.Frag} {B : Base} {G H : Hp} {σ : L2.St} {ρ : List Slot}
end
section
variable {X : Cx} {B : Base} {ρ : List Slot} {pos : Pos} {e : Expr} {β : Type} {m : R β} {ρ' : β → List Slot}
end
end DL
namespace L2
open PySem PySem.Spec PyProof.Rows
section
variable {X : Cx} {pins : List (Addr × Obj)} {σ : St} {H : Hp} {s : Shared} {d : Addr} {o : Obj}
end
def ItTi (d : Addr) (o : Obj) (kvs : List (List Key × V)) : It :=
  ⟨fun i H => H d = some (.frz o (.dT kvs)) ∧ i < kvs.length, fun i H x H' => ∃ T k v q, kvs[i]? = some (k, v) ∧ x = .ref T ∧ H q = some (.tup (k.map kV)) ∧ H T = none ∧ H' = upd H T (.tup [.ref q, v]), fun i H => H d = some (.frz o (.dT kvs)) ∧ kvs.length ≤ i⟩
section
variable {P : Program} {w : World} {K : PySem.W.Frag} {d : Addr} {o : Obj} {es : Array DictEntry} {ep : Nat}
end
def iPairsT (td : TE) : TI := fun σ H R => td σ H fun x H1 => ∃ d o kvs, x = .ref d ∧ H1 d = some (.frz o (.dT kvs)) ∧ R (ItTi d o kvs) H1
section
variable {X : Cx} {e : Expr} {td : TE} {apos cpos : Pos}
end
end L2
namespace DL
open PySem PySem.Spec L2
section
variable {β : Type}
@[reducible] def eDR (f : β → D) (kvs : List ((List Int) × β)) : D := .ddk ((D.none, D.none) :: kvs.map fun p => (D.tuple (p.1.map D.int), f p.2))
def lookR (kvs : List ((List Int) × β)) (k : List Int) : Option β := (kvs.find? fun p => decide (p.1 = k)).map (·.2)
end
section
variable {K : PySem.W.Frag} {G H : Hp}
def adoptT (G H : Hp) : Hp := fun a => match H a with | some (.tup xs) => some (.tup xs) | _ => G a
theorem adopt_tup {a : Addr} {xs : List V} (h : H a = some (.tup xs)) : adoptT G H a = some (.tup xs) := by
  unfold adoptT
  rw [h]
theorem adopt_ne {a : Addr} (h : ∀ xs, H a ≠ some (.tup xs)) : adoptT G H a = G a := by
  unfold adoptT
  cases e : H a with
  | none => rfl
  | some u =>
    cases u with
    | tup xs => exact absurd e (h xs)
    | _ => rfl
theorem adopt_ex (s : Ex G H) : Ex G (adoptT G H) := fun a u e => by
  have h := s a u e
  cases u with
  | tup xs => exact adopt_tup h
  | _ =>
    rw [adopt_ne fun xs z => by rw [h] at z; cases z]
    exact e
theorem adopt_sub (s : Ex G H) : Ex (adoptT G H) H := fun a u e => by
  unfold adoptT at e
  cases h : H a with
  | none =>
    rw [h] at e
    have := s a u e
    rw [h] at this
    cases this
  | some o =>
    rw [h] at e
    cases o with
    | tup xs => exact e
    | _ =>
      have := s a u e
      rw [h] at this
      exact this
theorem Anc.adopt {B : Base} (h : Anc B G H) : Anc B (adoptT G H) H := by
  refine ⟨h.keep, h.there, h.gsub.trans (adopt_ex h.sub), fun a e1 e2 => ?_, adopt_sub h.sub⟩
  by_cases t : ∃ xs, H a = some (.tup xs)
  · exact .inr t
  · rw [adopt_ne fun xs z => t ⟨xs, z⟩]
    exact h.gnew a e1 e2
theorem En.adopt {B : Base} {σ : L2.St} {ρ : List Slot} {ex : List (V × Slot)} (E : En K B G H σ ρ ex) : En K B (adoptT G H) H σ ρ ex := by
  obtain ⟨A, c, n, f⟩ := E.own
  exact ⟨E.anc.adopt, ⟨A, c.ex (adopt_ex E.sub) fun a _ u e => e, n, fun a m => by rw [adopt_ne (c.nt a m)]; exact f a m⟩, E.len, E.ali⟩
end
section
variable {K : PySem.W.Frag} {B : Base} {G H : Hp} {σ : L2.St} {ρ : List Slot} {ex : List (V × Slot)}
end
section
variable {K : PySem.W.Frag} {G : Hp} {β : Type} {f : β → D}
end
section
variable {X : Cx} {B : Base} {ρ : List Slot} {e a o o2 e2 e3 tg it val : Expr} {pos pos' ap cp : Pos} {β γ : Type} {f : β → D}
end
end DL
namespace L2
open PySem PySem.Spec PyProof.Rows
section
variable {X : Cx} {pos : Pos} {es : List Expr} {t : TA}
def tTupG (X : Cx) (t : TA) : TE := fun σ H Q => t σ H fun xs H1 => xs.length ≤ sizeLine ∧ ∀ q ob, H1 q = none → ob.dict = none → (∀ o2 u2, X.H_0 q ≠ some (.frz o2 u2)) → Q (.ref q) (upd H1 q (.frz ob (.tup xs)))
def tThaw (X : Cx) (t : TS) : TS := fun D σ H => ∃ a o u, H a = some (.frz o u) ∧ (∀ o2 u2, X.H_0 a ≠ some (.frz o2 u2)) ∧ t D σ (upd H a u)
end
end L2
namespace DL
open PySem PySem.Spec L2
section
variable {X : Cx} {B : Base} {ρ : List Slot} {rest : List Stmt} {N L T β : Type} {F : Fin N L T}
end
section
variable {X : Cx} {B : Base} {ρ : List Slot} {pos : Pos} {a : Expr} {β : Type} {K : PySem.W.Frag}
end
section
variable {K : PySem.W.Frag} {B : Base} {ρ : List Slot} {β : Type} {f : β → D}
end
end DL
namespace DL
open PySem PySem.Spec L2
section
variable {X : Cx} {B : Base} {ρ : List Slot} {o2 val : Expr} {pos pos' : Pos} {β : Type} {f : β → D}
end
end DL
namespace DL
open PySem PySem.Spec L2
section
variable {X : Cx} {B : Base} {ρ : List Slot} {e tg : Expr} {pos p : Pos}
end
end DL
namespace DL
def as2I (d : D) : Option (Int × Int) := match asTI d with
  | some [a, b] => some (a, b)
  | _ => none
end DL
namespace L2
open PySem PySem.Spec PyProof.Rows
section
variable {X : Cx}
def rSumT (K : PySem.W.Frag) : List V → Hp → VK → Prop := fun vs H Q => ∃ (a : Addr) (ns : List Int), vs = [V.ref a] ∧ SqT K H a (ns.map V.int) ∧ Q (.int ns.sum) H
end
end L2
namespace DL
open PySem PySem.Spec L2
end DL
namespace PySem.W
open PySem PySem.Calls PyProof.Rows PyProof.V PySem.Spec
section
variable {prog : Program} {w : World} {A : Around} {E : Value → Shared → Prop} {s : Shared}
end
end PySem.W
namespace L2
open PySem PySem.Spec PyProof.Rows
section
variable {X : Cx}
def rEqE : R2 := fun x y H Q => ∃ a b, ∃ ks ls : List (List Key × V), x = .ref a ∧ y = .ref b ∧ Rd H a (.dT ks) ∧ Rd H b (.dT ls) ∧ ls = [] ∧ Q (.bl (ks.length == 0)) H
end
end L2
namespace DL
open PySem PySem.Spec L2
section
variable {B : Base} {β : Type} {f : β → D}
end
end DL
namespace DL
open PySem PySem.Spec L2
def as3s : List D → Option (List (Int × Int × Int))
  | [] => some []
  | d :: ds => match as3I d, as3s ds with
    | some i, some l => some (i :: l)
    | _, _ => none
def asL3 : D → Option (List (Int × Int × Int))
  | .list ds => as3s ds
  | _ => none
end DL
namespace PySem
open PySem.W PySem.SeqAt PyProof.Rows
section
variable {prog : Program} {w : World} {A : Around} {E : Value → Shared → Prop} {s : Shared}
end
end PySem
namespace L2
open PySem PySem.Spec PyProof.Rows PySem.SeqAt PySem.W
section
variable {X : Cx}
def rMax2D (K : PySem.W.Frag) (c : PyData → PyData → Bool) : List V → Hp → VK → Prop := fun vs H Q => ∃ x y d e, vs = [x, y] ∧ Dp K H x d ∧ Dp K H y e ∧ AlikeAll [d, e] ∧ PyData.depthAll [d, e] ≤ 60 ∧ Q (if c d e = true then y else x) H
end
end L2
namespace DL
open PySem PySem.Spec L2 PySem.W PySem.SeqAt
def ltQ (p q : Int × Int) : Bool := decide (p.1 < q.1) || (decide (p.1 = q.1) && decide (p.2 < q.2))
def grtP (p q : Int × Int) : Int × Int := if ltQ p q = true then q else p
def lesP (p q : Int × Int) : Int × Int := if ltQ q p = true then q else p
section
variable {K : PySem.W.Frag} {B : Base} {ρ : List Slot}
end
end DL
namespace DL
open PySem PySem.Spec L2
end DL
namespace HashT
def M : Nat := 18446744073709551616
def st (acc h : Nat) : Nat := ((((acc + h * 14029467366897019727) % M * 2147483648) % M + (acc + h * 14029467366897019727) % M / 8589934592) * 11400714785074694791) % M
def V (x y : Nat) : Nat := st (st 2870177450012600261 x) y * 839798700976720815 % M
inductive Bt where
  | lf
  | nd (l : Bt) (v : Nat) (r : Bt)
def ins (v : Nat) : Bt → Bt
  | .lf => .nd .lf v .lf
  | .nd l u r => if v < u then .nd (ins v l) u r else .nd l u (ins v r)
def flat : Bt → List Nat → List Nat
  | .lf, acc => acc
  | .nd l v r, acc => flat l (v :: flat r acc)
def chk : List Nat → Bool
  | a :: b :: l => decide (a + 40 ≤ b) && chk (b :: l)
  | _ => true
def T : Nat := 16680575644954319924
def prs : List (Nat × Nat) := (List.range 40).flatMap fun x => (List.range 40).map fun y => (x, y)
def vals : List Nat := T :: prs.map fun p => V p.1 p.2
def bt : List Nat → Bt → Bt
  | [], t => t
  | v :: l, t => bt l (ins v t)
theorem all_apart : chk (flat (bt vals .lf) []) = true := by decide +kernel
theorem all_below : (vals.all fun v => decide (v + 40 ≤ M)) = true := by decide +kernel
theorem flat_ins (v : Nat) : ∀ (t : Bt) (acc : List Nat), (flat (ins v t) acc).Perm (v :: flat t acc)
  | .lf, acc => by
    show (v :: acc).Perm (v :: acc)
    exact .refl _
  | .nd l u r, acc => by
    rw [ins]
    split
    · show (flat (ins v l) (u :: flat r acc)).Perm (v :: flat l (u :: flat r acc))
      exact flat_ins v l _
    · show (flat l (u :: flat (ins v r) acc)).Perm (v :: flat l (u :: flat r acc))
      have h1 := flat_ins v r acc
      have fp : ∀ (t : Bt) {a b : List Nat}, a.Perm b → (flat t a).Perm (flat t b) := fun t => by
        induction t with
        | lf => exact fun h => h
        | nd l w r ih1 ih2 => exact fun h => ih1 ((ih2 h).cons w)
      have fc : ∀ (t : Bt) (x : Nat) (a : List Nat), (flat t (x :: a)).Perm (x :: flat t a) := fun t => by
        induction t with
        | lf => exact fun x a => .refl _
        | nd l w r ih1 ih2 =>
          intro x a
          show (flat l (w :: flat r (x :: a))).Perm (x :: flat l (w :: flat r a))
          refine (fp l ((ih2 x a).cons w)).trans ?_
          refine (fp l (List.Perm.swap x w (flat r a))).trans ?_
          exact ih1 x _
      refine (fp l (h1.cons u)).trans ?_
      refine (fp l (List.Perm.swap v u (flat r acc))).trans ?_
      exact fc l v _
theorem bt_perm : ∀ (l : List Nat) (t : Bt), (flat (bt l t) []).Perm (l ++ flat t [])
  | [], t => .refl _
  | v :: l, t => by
    show (flat (bt l (ins v t)) []).Perm (v :: (l ++ flat t []))
    refine (bt_perm l (ins v t)).trans ?_
    refine ((flat_ins v t []).append_left l).trans ?_
    exact List.perm_middle
theorem chk_pw : ∀ l : List Nat, chk l = true → l.Pairwise fun a b => a + 40 ≤ b
  | [], _ => .nil
  | [a], _ => List.pairwise_singleton _ _
  | a :: b :: l, h => by
    rw [chk, Bool.and_eq_true, decide_eq_true_eq] at h
    have ih := chk_pw (b :: l) h.2
    refine List.pairwise_cons.mpr ⟨fun c hc => ?_, ih⟩
    rcases List.mem_cons.mp hc with e | hc
    · rw [e]; exact h.1
    · have := (List.pairwise_cons.mp ih).1 c hc
      omega
theorem vals_pw : vals.Pairwise fun a b => a + 40 ≤ b ∨ b + 40 ≤ a := by
  have p := bt_perm vals .lf
  rw [show flat .lf [] = ([] : List Nat) from rfl, List.append_nil] at p
  have h := (chk_pw _ all_apart).imp (S := fun a b => a + 40 ≤ b ∨ b + 40 ≤ a) fun h => .inl h
  exact (p.pairwise_iff fun h => h.symm).mp h
theorem prs_mem {x y : Nat} (hx : x < 40) (hy : y < 40) : (x, y) ∈ prs := List.mem_flatMap.mpr ⟨x, List.mem_range.mpr hx, List.mem_map.mpr ⟨y, List.mem_range.mpr hy, rfl⟩⟩
theorem V_le {x y : Nat} (hx : x < 40) (hy : y < 40) : V x y + 40 ≤ M := of_decide_eq_true (List.all_eq_true.mp all_below _ (List.mem_cons_of_mem _ (List.mem_map.mpr ⟨(x, y), prs_mem hx hy, rfl⟩)))
theorem V_T {x y : Nat} (hx : x < 40) (hy : y < 40) : T + 40 ≤ V x y ∨ V x y + 40 ≤ T := (List.pairwise_cons.mp vals_pw).1 _ (List.mem_map.mpr ⟨(x, y), prs_mem hx hy, rfl⟩)
theorem V_V {x y x' y' : Nat} (hx : x < 40) (hy : y < 40) (hx' : x' < 40) (hy' : y' < 40) (ne : (x, y) ≠ (x', y')) : V x y + 40 ≤ V x' y' ∨ V x' y' + 40 ≤ V x y := by
  have pw := List.pairwise_map.mp (List.pairwise_cons.mp vals_pw).2
  rw [List.pairwise_iff_getElem] at pw
  obtain ⟨i, hi, ei⟩ := List.mem_iff_getElem.mp (prs_mem hx hy)
  obtain ⟨j, hj, ej⟩ := List.mem_iff_getElem.mp (prs_mem hx' hy')
  rcases Nat.lt_trichotomy i j with k | k | k
  · have := pw i j hi hj k
    rw [ei, ej] at this
    exact this
  · subst k
    exact absurd (ei.symm.trans ej) ne
  · have := pw j i hj hi k
    rw [ei, ej] at this
    exact this.symm
theorem rot_inj {a b : Nat} (ha : a < M) (hb : b < M) (h : (a * 2147483648) % M + a / 8589934592 = (b * 2147483648) % M + b / 8589934592) : a = b := by
  have e : ∀ c : Nat, (c * 2147483648) % M = (c % 8589934592) * 2147483648 := fun c => by
    rw [show M = 8589934592 * 2147483648 by decide, Nat.mul_mod_mul_right]
  rw [e, e] at h
  unfold M at *
  omega
theorem rot_lt {a : Nat} (ha : a < M) : (a * 2147483648) % M + a / 8589934592 < M := by
  unfold M at *
  omega
theorem mul_back {b : Nat} {p q : Nat} (hb : b < M) (h : (p * q) % M = 1) : ((b * p) % M * q) % M = b := by
  rw [Nat.mod_mul_mod, Nat.mul_assoc, Nat.mul_mod, h, Nat.mul_one, Nat.mod_mod, Nat.mod_eq_of_lt hb]
theorem st_inj {a h a' h' : Nat} (e : st a h = st a' h') : (a + h * 14029467366897019727) % M = (a' + h' * 14029467366897019727) % M := by
  have mp : 0 < M := by decide
  have l1 := Nat.mod_lt (a + h * 14029467366897019727) mp
  have l2 := Nat.mod_lt (a' + h' * 14029467366897019727) mp
  unfold st at e
  have k := congrArg (fun t => (t * 614540362697595703) % M) e
  rw [mul_back (rot_lt l1) (by decide), mul_back (rot_lt l2) (by decide)] at k
  exact rot_inj l1 l2 k
theorem add_back (a z : Nat) : ((a + z * 14029467366897019727) % M * 839798700976720815) % M = (a * 839798700976720815 % M + z) % M := by
  rw [Nat.mod_mul_mod, Nat.add_mul, Nat.mul_assoc, Nat.add_mod, Nat.mul_mod z]
  rw [show 14029467366897019727 * 839798700976720815 % M = 1 by decide, Nat.mul_one, Nat.mod_mod]
  rw [← Nat.add_mod, Nat.mod_add_mod]
theorem st3 {x y z x' y' z' : Nat} (hx : x < 40) (hy : y < 40) (hz : z < 40) (hx' : x' < 40) (hy' : y' < 40) (hz' : z' < 40) (e : st (st (st 2870177450012600261 x) y) z = st (st (st 2870177450012600261 x') y') z') : x = x' ∧ y = y' ∧ z = z' := by
  have k := congrArg (fun t => (t * 839798700976720815) % M) (st_inj e)
  rw [add_back, add_back] at k
  have k : (V x y + z) % M = (V x' y' + z') % M := k
  have l1 := V_le hx hy
  have l2 := V_le hx' hy'
  rw [Nat.mod_eq_of_lt (by omega), Nat.mod_eq_of_lt (by omega)] at k
  by_cases q : (x, y) = (x', y')
  · injection q with q1 q2
    subst q1
    subst q2
    exact ⟨rfl, rfl, by omega⟩
  · rcases V_V hx hy hx' hy' q with h | h <;> omega
theorem st3_ne {x y z : Nat} (hx : x < 40) (hy : y < 40) (hz : z < 40) : st (st (st 2870177450012600261 x) y) z ≠ st (T * 14029467366897019727 % M) 0 := fun e => by
  have k := congrArg (fun t => (t * 839798700976720815) % M) (st_inj e)
  rw [add_back, add_back] at k
  have k : (V x y + z) % M = (T * 14029467366897019727 % M * 839798700976720815 % M + 0) % M := k
  rw [show (T * 14029467366897019727 % M * 839798700976720815 % M + 0) % M = T by decide] at k
  have l1 := V_le hx hy
  rw [Nat.mod_eq_of_lt (by omega)] at k
  rcases V_T hx hy with h | h <;> omega
open PySem in
def stp (acc : Nat) (h : Int) : Nat :=
  let acc := (acc + (h % ((2 ^ 64 : Nat) : Int)).toNat * 14029467366897019727) % 2 ^ 64
  let acc := (acc * 2 ^ 31) % 2 ^ 64 + acc / 2 ^ 33
  (acc * 11400714785074694791) % 2 ^ 64
def fin (acc : Nat) : Int := if acc == 2 ^ 64 - 1 then 1546275796 else if acc < 2 ^ 63 then acc else (acc : Int) - (2 ^ 64 : Nat)
open PySem in
theorem tho (hs : List Int) : Builtin.Tuple.tupleHashOf hs = fin ((hs.foldl stp 2870177450012600261 + (hs.length ^^^ (2870177450012600261 ^^^ 3527539))) % 2 ^ 64) := rfl
theorem toN {k : Nat} (h : k < 40) : ((k : Int) % ((2 ^ 64 : Nat) : Int)).toNat = k := by
  have e : ((2 ^ 64 : Nat) : Int) = 18446744073709551616 := by decide
  rw [e]
  omega
theorem stp_nat (acc : Nat) {k : Nat} (h : k < 40) : stp acc (k : Int) = st acc k := by
  have e1 : (2 : Nat) ^ 64 = M := by decide
  have e2 : (2 : Nat) ^ 31 = 2147483648 := by decide
  have e3 : (2 : Nat) ^ 33 = 8589934592 := by decide
  unfold stp st
  rw [toN h, e1, e2, e3]
open PySem in
theorem hash_is {x y z : Nat} (hx : x < 40) (hy : y < 40) (hz : z < 40) : Builtin.Tuple.tupleHashOf [(x : Int), (y : Int), (z : Int)] = fin ((st (st (st 2870177450012600261 x) y) z + 2870177450013471925) % M) := by
  have e1 : (2 : Nat) ^ 64 = M := by decide
  have e4 : (3 ^^^ (2870177450012600261 ^^^ 3527539) : Nat) = 2870177450013471925 := by decide
  rw [tho, List.foldl_cons, List.foldl_cons, List.foldl_cons, List.foldl_nil, stp_nat _ hx, stp_nat _ hy, stp_nat _ hz, e1]
  show fin ((_ + (3 ^^^ (2870177450012600261 ^^^ 3527539))) % M) = _
  rw [e4]
theorem fin_of {acc : Nat} (h : acc < M) (n : acc ≠ M - 1) : fin acc = if acc < 9223372036854775808 then (acc : Int) else (acc : Int) - 18446744073709551616 := by
  unfold fin
  have e1 : (2 : Nat) ^ 64 = M := by decide
  have e5 : (2 : Nat) ^ 63 = 9223372036854775808 := by decide
  rw [e1, e5, if_neg (by simpa using n)]
  rfl
open PySem in
theorem red_of {i : Int} (h0 : -9223372036854775808 ≤ i) (h1 : i < 9223372036854775808) (n : i ≠ -1) : reduceHash i = i := by
  unfold reduceHash
  have e : (2 : Int) ^ 63 = 9223372036854775808 := by decide
  rw [e, if_pos (by simp; omega), if_neg (by simpa using n)]
open PySem in
theorem hash_inj {x y z x' y' z' : Nat} (hx : x < 40) (hy : y < 40) (hz : z < 40) (hx' : x' < 40) (hy' : y' < 40) (hz' : z' < 40) (e : reduceHash (Builtin.Tuple.tupleHashOf [(x : Int), (y : Int), (z : Int)]) = reduceHash (Builtin.Tuple.tupleHashOf [(x' : Int), (y' : Int), (z' : Int)])) : x = x' ∧ y = y' ∧ z = z' := by
  have mp : 0 < M := by decide
  have lt : ∀ a h, st a h < M := fun a h => Nat.mod_lt _ mp
  have nm : ∀ {x y z : Nat}, x < 40 → y < 40 → z < 40 → (st (st (st 2870177450012600261 x) y) z + 2870177450013471925) % M ≠ M - 1 := fun {x y z} hx hy hz k => by
    refine st3_ne hx hy hz ?_
    have e2 : st (T * 14029467366897019727 % M) 0 = M - 1 - 2870177450013471925 := by decide
    rw [e2]
    have := lt (st (st 2870177450012600261 x) y) z
    unfold M at *
    omega
  have red : ∀ {x y z : Nat}, x < 40 → y < 40 → z < 40 → reduceHash (Builtin.Tuple.tupleHashOf [(x : Int), (y : Int), (z : Int)]) = (if (st (st (st 2870177450012600261 x) y) z + 2870177450013471925) % M < 9223372036854775808 then (((st (st (st 2870177450012600261 x) y) z + 2870177450013471925) % M : Nat) : Int) else (((st (st (st 2870177450012600261 x) y) z + 2870177450013471925) % M : Nat) : Int) - 18446744073709551616) := fun {x y z} hx hy hz => by
    have n := nm hx hy hz
    have l := Nat.mod_lt (st (st (st 2870177450012600261 x) y) z + 2870177450013471925) mp
    rw [hash_is hx hy hz]
    generalize (st (st (st 2870177450012600261 x) y) z + 2870177450013471925) % M = acc at n l
    rw [fin_of l n]
    unfold M at l n
    by_cases k : acc < 9223372036854775808
    · rw [if_pos k, red_of (by omega) (by omega) (by omega)]
    · rw [if_neg k, red_of (by omega) (by omega) (by omega)]
  rw [red hx hy hz, red hx' hy' hz'] at e
  have l1 := lt (st (st 2870177450012600261 x) y) z
  have l2 := lt (st (st 2870177450012600261 x') y') z'
  have k : st (st (st 2870177450012600261 x) y) z = st (st (st 2870177450012600261 x') y') z' := by
    generalize st (st (st 2870177450012600261 x) y) z = A at *
    generalize st (st (st 2870177450012600261 x') y') z' = A' at *
    unfold M at *
    split at e <;> split at e <;> omega
  exact st3 hx hy hz hx' hy' hz' k
end HashT
namespace PySem
open PySem.W
section
variable {prog : Program} {w : World} {A : Around} {E : Value → Shared → Prop} {s : Shared} {K : Type} [DecidableEq K] {knd : HeapKind prog w K}
end
end PySem
namespace L2
open PySem PySem.Spec PyProof.Rows
section
variable {X : Cx}
def k3 (k : List Key) : Prop := ∃ x y z : Nat, x < 40 ∧ y < 40 ∧ z < 40 ∧ k = [Sum.inl (x : Int), Sum.inl (y : Int), Sum.inl (z : Int)]
def rDCopyT : List V → Hp → VK → Prop := fun vs H Q => ∃ (a : Addr) (ks : List (List Key × V)), vs = [.ref a] ∧ Rd H a (.dT ks) ∧ (∀ kv ∈ ks, k3 kv.1) ∧ ∀ p, H p = none → Q (.ref p) (upd H p (.dT ks))
end
end L2
namespace DL
open PySem PySem.Spec L2
section
variable {B : Base} {β : Type} {f : β → D} {ρ : List Slot}
def row3 (r : List Int) : Bool := decide (r.length = 3) && r.all fun x => decide (0 ≤ x) && decide (x < 40)
end
end DL
namespace DL
open PySem PySem.Spec L2
section
variable {P : Program} {w : World} {K : PySem.W.Frag} {mg : Str → Option Value} {base : Heap} {x q : Str} {st : Stmt} {f : Addr} {fd : FuncData} {N ps : List Str} {k : Nat}
end
section
variable {K : PySem.W.Frag} {B : Base} {G H : Hp} {σ : L2.St} {ρ : List Slot} {ex : List (V × Slot)}
theorem OwnAll.snoc {v : V} {o : OT} {A1 : List Addr} : ∀ {vs : List V} {os : List OT} {A : List Addr}, OwnAll K G H vs os A → Own K G H v o A1 → OwnAll K G H (vs ++ [v]) (os ++ [o]) (A ++ A1)
  | _, _, _, .nil, h => by
    have := OwnAll.cons h (.nil (K := K) (G := G) (H := H))
    rw [List.append_nil] at this
    exact this
  | _, _, _, .cons c r, h => by
    rw [List.append_assoc]
    exact .cons c (OwnAll.snoc r h)
end
section
variable {X : Cx} {B : Base} {ρ : List Slot} {pos : Pos} {k1 k2 v1 v2 : Expr} {β γ1 γ2 γ3 γ4 : Type} {f : β → D}
end
end DL
namespace DL
open PySem PySem.Spec L2
structure ObOk (K : PySem.W.Frag) (mg : Str → Option Value) (c : Str) : Prop where
  g : mg c = some (.ref (He.ga K c))
  cl : Cls K (He.ga K c)
  mi : Mk K (He.ga K c) (He.ma K (He.ga K c) "__init__")
  nm : ClsNm K c (He.ga K c)
  un : ∀ C : Addr, ClsNm K c C → C = He.ga K c
def obB (K : PySem.W.Frag) (x : Str) : Bool :=
  decide (PySem.W.nsIn K mainGlobals x = some (some (.ref (He.ga K x)))) && (PySem.W.plainGet K (He.ga K x) Str.empty && (PySem.W.hasDictIn K (He.ga K x) && (PySem.W.plainOver K (He.ga K x) &&
    (decide (PySem.W.findIn K (.ref (He.ga K x)) "__setattr__" = some (some (.builtin "object.__setattr__"))) && (PySem.W.makesIn K (He.ga K x) &&
    (decide (PySem.W.findIn K (.ref (He.ga K x)) "__init__" = some (some (.ref (He.ma K (He.ga K x) "__init__")))) && (PySem.W.isFn K (.ref (He.ma K (He.ga K x) "__init__")) && (PySem.W.keepIn K (.ref (He.ga K x)) &&
      (decide ((PySem.W.clsIn K (He.ga K x)).map (·.name) = some x) && K.all (fun p => !nmB x p.2 || decide (p.1 = He.ga K x)))))))))))
def fldB (K : PySem.W.Frag) (c f : Str) : Bool := decide (PySem.W.findIn K (.ref (He.ga K c)) f = some none)
def FldOk (K : PySem.W.Frag) (c f : Str) : Prop := NoAttr K (He.ga K c) f
structure DM (K : PySem.W.Frag) (c m : Str) (st : Stmt) (ps : List Str) where
  q : Str
  d : FuncData
  f : FunD K m q (defArgs st) (defBody st) (defScope st) [] [] (He.ma K (He.ga K c) m) d
  b : Binds K d ps []
  h : Meth K (He.ga K c) m (He.ma K (He.ga K c) m)
abbrev DM.a {K : PySem.W.Frag} {c m : Str} {st : Stmt} {ps : List Str} (_ : DM K c m st ps) : Addr := He.ma K (He.ga K c) m
def mthB (K : PySem.W.Frag) (c m : Str) : Bool := decide (PySem.W.findIn K (.ref (He.ga K c)) m = some (some (.ref (He.ma K (He.ga K c) m)))) && (PySem.W.isFn K (.ref (He.ma K (He.ga K c) m)) && PySem.W.keepIn K (.ref (He.ma K (He.ga K c) m)))
section
variable {K : PySem.W.Frag} {B : Base} {G H : Hp} {σ : L2.St} {ρ : List Slot} {ex : List (V × Slot)}
end
section
variable {X : Cx} {CX : CXT} {k : Nat} {f C : Addr} {fd : FuncData} {ps : List Str} {sp : Sp} {W : XK} {x m : Str} {p pos apos : Pos} {e o : Expr} {es : List Expr} {ta : TE} {t : TA}
end
section
variable {X : Cx} {B : Base} {ρ : List Slot} {e e2 o2 val : Expr} {es : List Expr} {pos pos' px pf ap : Pos} {CX : CXT} {kk : Nat} {fa : Addr} {fd : FuncData} {ps : List Str} {EE : XK} {x m f c : Str} {fs : List Str} {os : List OT} {l : Nat} {β γ : Type} {g : β → D}
end
section
variable {K : PySem.W.Frag} {B : Base} {G H : Hp} {σ : L2.St} {ρ : List Slot}
end
section
variable {X : Cx} {B : Base} {ρ : List Slot} {e : Expr} {es : List Expr} {pos p : Pos} {CX : CXT} {kk : Nat} {fd : FuncData} {ps : List Str} {EE : XK} {c : Str} {γ : Type}
end
end DL
namespace DL
open PySem PySem.Spec L2
section
variable {X : Cx} {B : Base} {ρ : List Slot} {pos : Pos} {e : Expr}
end
@[reducible] def oDM {α : Type} (f : α → D) (p : List (Int × List α) × Int × List α) : OT := .dko ((p.1.map fun q => (Sum.inl q.1 : Key)) ++ [Sum.inl p.2.1]) ((p.1.map fun q => OT.dat (eL f q.2)) ++ [oL f p.2.2])
@[reducible] def oDMk {α : Type} (f : α → D) (k : Int) (p : List (Int × List α) × List α) : OT := oDM f (p.1, k, p.2)
section
variable {K : PySem.W.Frag} {B : Base} {G H : Hp} {σ : L2.St} {ρ : List Slot} {ex : List (V × Slot)} {α : Type} {f : α → D}
end
section
variable {X : Cx} {B : Base} {ρ : List Slot} {pos pos' px py kp kq ap : Pos} {e val : Expr} {α γ : Type} {f : α → D} {x kx qx : Str} {l : Nat}
end
end DL
namespace SrtO
open PySem PyProof.Rows Srt PySem.W
mutual
theorem reads_lt {h : Heap} : ∀ {d : PyData} {v : Value} {as : List Addr}, Reads h v d as → alike d d = true → ∀ a ∈ as, a < h.objs.size
  | _, _, _, .none, _ => fun _ m => nomatch m
  | _, _, _, .bool _, _ => fun _ m => nomatch m
  | _, _, _, .int _ _, _ => fun _ m => nomatch m
  | _, _, _, .str _ _, _ => fun _ m => nomatch m
  | _, _, _, .list h1 h2 h3 h4, al => fun a m => by
    rcases List.mem_cons.mp m with rfl | m
    · exact Heap.lt_size h1
    · exact readsAll_lt h4 (by simpa [alike] using al) a m
  | _, _, _, .tuple h1 h2 h3 h4, al => fun a m => readsAll_lt h4 (by simpa [alike] using al) a m
  | _, _, _, .dict _ _ _ _ _, al => absurd al (by simp [alike])
theorem readsAll_lt {h : Heap} : ∀ {ds : List PyData} {vs : List Value} {as : List Addr}, ReadsAll h vs ds as → alikeAll ds ds = true → ∀ a ∈ as, a < h.objs.size
  | _, _, _, .nil, _ => fun _ m => nomatch m
  | _, _, _, .cons h1 h2, al => fun a m => by
    rcases List.mem_append.mp m with m | m
    · exact reads_lt h1 (alike_all_cons al).1 a m
    · exact readsAll_lt h2 (alike_all_cons al).2 a m
end
section
variable {prog : Program} {w : World} {A : Around} {E : Value → Shared → Prop} {s : Shared} {β : Type} {bs : List β} {enc : β → PyData} {R : Value → β → Prop}
end
end SrtO
namespace DL
open PySem PySem.Spec L2 PySem.W PyProof.Rows
section
variable {X : Cx} {α : Type} {f : α → D}
def rSortTD (K : PySem.W.Frag) (f : α → D) : List V → Hp → VK → Prop := fun vs H Q => ∃ (xs : List α) (a : Addr) (G : Hp) (ys : List V), vs = [V.ref a] ∧ Ex G H ∧ SqT K H a ys ∧ RpAll K G ys (xs.map f) ∧ SortOk f xs ∧
  ∀ (zs : List V) (p : Addr), RpAll K G zs ((srtD f xs).map f) → H p = none → Q (.ref p) (upd H p (.lst zs))
end
section
variable {K : PySem.W.Frag} {B : Base} {ρ : List Slot}
end
section
variable {X : Cx} {B : Base} {ρ : List Slot} {pos px : Pos} {e2 : Expr} {β γ : Type} {f : β → D} {x : Str} {l : Nat} {kvs : List (Int × β)}
end
section
variable {X : Cx} {B : Base} {ρ : List Slot} {a b e : Expr} {rest : List Expr} {pos : Pos}
theorem je_andS {α S : Type} {ma : R α} {xa : α → Bool} (st : α → S) (ρS : S → List Slot) {mb : α → R (Bool × S)} (ha : JE X B ρ a ma (fun x => .val (.bool (xa x))) (fun x => ρS (st x))) (hb : ∀ x, JE X B (ρS (st x)) (.BoolOp .And (b :: rest) pos) (mb x) (fun p => .val (.bool p.1)) (fun p => ρS p.2)) :
    JE X B ρ (.BoolOp .And (a :: b :: rest) pos) (ma.bind fun x => if xa x = true then mb x else .ok (false, st x)) (fun p => .val (.bool p.1)) (fun p => ρS p.2) := by
  have hb' : PE X (.BoolOp .And (b :: rest) pos) (fun σ H Q => ∃ x, tJ X.K B (ρS (st x)) (mb x) (fun p => .val (.bool p.1)) (fun p => ρS p.2) σ H Q) := ⟨fun pins s σ H Q I ⟨x, q⟩ => (hb x).run pins s σ H Q I q⟩
  exact PE_imp (pe_and ha hb') fun σ H Q ⟨G, E, q⟩ => ⟨G, E, R.post_mono (R.post_bind.mp q) fun x k v G1 H1 x1 E1 => ⟨xa x, E1.top.bl_inv, by
    cases hx : xa x with
    | true =>
      rw [if_pos hx] at k
      exact ⟨x, G1, E1.pop, R.post_mono k fun b k v G2 H2 x2 E2 => k v G2 H2 (x1.trans x2) E2⟩
    | false =>
      rw [if_neg (by rw [hx]; decide)] at k
      exact k _ G1 H1 x1 (E1.pop.push (.bl false))⟩⟩
end
end DL
namespace DL
open PySem PySem.Spec L2
section
variable {X : Cx} {B : Base} {ρ : List Slot} {e a o o2 e2 tg it val : Expr} {pos pos' ap cp : Pos} {β γ : Type} {f : β → D}
end
end DL
namespace L2
open PySem PySem.Spec PyProof.Rows
section
variable {X : Cx}
def rLenSetT (P : Program) (w : World) : List V → Hp → VK → Prop := fun xs H Q => ∃ (p : Addr) (L : List (Addr × List Int)), xs = [V.ref p] ∧ H p = some (SetTO P w p L) ∧ (∀ q ∈ L, SqT X.K H q.1 (q.2.map V.int)) ∧ ((L.map (·.2)).Nodup → Q (.int L.length) H)
end
end L2
namespace DL
open PySem PySem.Spec L2
def nubP : List (Int × Int) → List (Int × Int)
  | [] => []
  | x :: l => if x ∈ l then nubP l else x :: nubP l
class PrEnc (f : Int × Int → D) : Prop where
  sq : ∀ {K : PySem.W.Frag} {G : Hp} {v : V} {x : Int × Int}, Rp K G v (f x) → ∃ a, v = .ref a ∧ SqT K G a [V.int x.1, V.int x.2]
instance prEnc_K2 : PrEnc eK2 := ⟨fun h => by
  obtain ⟨a, e, ha⟩ := h.key_inv
  exact ⟨a, e, .inl (.inl ha)⟩⟩
instance prEnc_P2 : PrEnc (eP2 D.int D.int) := ⟨fun {K G v x} h => by
  obtain ⟨a, us, e, ha, hr⟩ := Rp.tup_inv (ds := [D.int x.1, D.int x.2]) h
  have := RpAll.ints (ns := [x.1, x.2]) hr
  subst this
  exact ⟨a, e, ha⟩⟩
section
variable {X : Cx} {B : Base} {ρ : List Slot} {pos : Pos} {a : Expr}
end
end DL
namespace L2
open PySem PySem.Spec PyProof.Rows
section
variable {X : Cx} {e : Expr} {te : TE} {p apos cpos pos : Pos}
def tListVals (te : TE) : TE := fun σ H Q => te σ H fun x H1 => ∃ (d : Addr) (kvs : List (Key × V)), x = .ref d ∧ Rd H1 d (.dK kvs) ∧ ∀ q, H1 q = none → Q (.ref q) (upd H1 q (.lst (kvs.map (·.2))))
end
end L2
namespace DL
open PySem PySem.Spec L2
section
variable {X : Cx} {B : Base} {ρ : List Slot} {e : Expr} {β γ : Type} {f : β → D}
end
end DL
namespace RZ
open PySem PySem.W DL
open PySem.Sem (wp)
section
variable {prog : Program} {w : World} {A : Around} {E : Value → Shared → Prop} {s : Shared}
end
end RZ
namespace L2
open PySem PySem.Spec PyProof.Rows RZ
section
variable {X : Cx} {pins : List (Addr × Obj)} {σ : St} {A1 : Around} {a e it S : Addr}
def ESt (e it a : Addr) (i : Nat) (h : Heap) (H : Hp) : Prop :=
  h.IsTupleIter it a i ∧ e ≠ it ∧ ((∃ old, IsEnum h e it ((i : Nat) : Int) old) ∨ ∃ T f ls old, IsEnumHeld h e it ((i : Nat) : Int) old T f ∧ H T = some (.tup ls))
def numbV : Nat → List V → List (V × V)
  | _, [] => []
  | i, x :: xs => (.int (i : Nat), x) :: numbV (i + 1) xs
end
section
variable {X : Cx} {e : Expr} {ta : TA}
def tLEnum (K : PySem.W.Frag) (ta : TA) : TE := fun σ H Q => ta σ H fun vs H1 => ∃ a xs, vs = [.ref a] ∧ SqT K H1 a xs ∧ ∀ S, H1 S = none → kZip S (fun H2 => Q (.ref S) H2) (numbV 0 xs) [] (upd H1 S (.lst []))
end
end L2
namespace L2
open PySem PySem.Spec PyProof.Rows
section
variable {X : Cx}
def rLenD (K : PySem.W.Frag) : List V → Hp → VK → Prop := fun xs H Q => ∃ (a : Addr) (kvs : List (Key × V)), xs = [V.ref a] ∧ Rd H a (.dK kvs) ∧ Q (.int kvs.length) H
end
end L2
namespace DL
open PySem PySem.Spec L2
section
variable {K : PySem.W.Frag} {B : Base} {ρ : List Slot} {β : Type} {f : β → D}
end
end DL
namespace DL
open PySem PySem.Spec L2
section
variable {K : PySem.W.Frag} {B : Base} {σ : L2.St} {ρ : List Slot} {α : Type} {f : α → D}
end
section
variable {X : Cx} {B : Base} {ρ : List Slot} {e : Expr} {α : Type}
end
end DL
namespace DL
open PySem PySem.Spec L2
section
variable {α γ : Type}
end
section
variable {X : Cx} {B : Base} {ρ : List Slot} {e : Expr} {α β γ : Type}
end
end DL
namespace L2
open PySem PySem.Spec PyProof.Rows
section
variable {X : Cx} {a b c d : Expr} {ta tb tc td : TE} {pos : Pos}
def tChain3 (r r' r'' : R2) (ta tb tc td : TE) : TE := fun σ H Q => ta σ H fun x H1 => tb σ H1 fun y H2 => r x y H2 fun z H3 => ∃ k, z = .bl k ∧
  if k = true then tc σ H3 fun x2 H4 => r' y x2 H4 fun z2 H5 => ∃ k2, z2 = .bl k2 ∧ if k2 = true then td σ H5 fun x3 H6 => r'' x2 x3 H6 Q else Q (.bl false) H5 else Q (.bl false) H3
end
end L2
namespace DL
open PySem PySem.Spec L2
section
variable {X : Cx} {B : Base} {ρ : List Slot} {a b c d e : Expr}
end
end DL
namespace DL
open PySem PySem.Spec L2
section
variable {K : PySem.W.Frag} {B : Base} {G H : Hp} {σ : L2.St} {ρ : List Slot}
theorem En.over (E : En K B G H σ ρ []) {i : Nat} (x : Option V) (hi : i < ρ.length) (hal : noAlis (ρ.set i .non) = true) : En K B G H (σ.set i x) (ρ.set i .non) [] := by
  obtain ⟨A, c, n, g⟩ := E.own
  obtain ⟨A', C, c', p1, p2⟩ := (show Cells K B G H σ ρ A from c).set (x := x) (s := .non) .non hi
  rw [List.nil_append] at p1
  refine ⟨E.anc, ⟨A', c', p1.nodup_iff.mpr (p2.nodup n), fun x m => g x (p2.subset (p1.mem_iff.mp m))⟩, by rw [List.length_set, List.length_set]; exact E.len, fun k' j' p e => ?_⟩
  exact absurd e (noAlis_get hal)
end
section
variable {X : Cx} {B : Base} {ρ : List Slot}
def tAli (K : PySem.W.Frag) (B : Base) (ρ : List Slot) {β : Type} (m : R β) (v : β → Int) (i j l k : Nat) (rows : List (List Int)) (ρ2 : β → List Slot) : TE := fun σ H Q => ∃ G w a, En K B G H σ ρ [] ∧ σ[j]? = some (some w) ∧ σ[i]? = some (some (.ref a)) ∧ At H w [k] (.ref a) ∧
  m.post (fun b => ∀ G1 H1, Ex G G1 → En K B G1 H1 σ ((ρ2 b).set j (.own l (oLL D.int rows))) [] → At H1 w [k] (.ref a) → Q (.int (v b)) H1) B.rs
end
end DL
namespace DL
open PySem PySem.Spec L2
def baseMv (mv : Nat) (H G : Hp) (As : List (List Addr)) (vs : List V) (rs : Exn → Prop) : Base := ⟨fun a => match decide (a ∈ As.getD mv []) with | true => none | false => H a, G, fun l => match l with | 0 => [] | n + 1 => As.getD n [], rfl, fun l => match l with | 0 => none | n + 1 => vs[n]?, rs⟩
def spMv (K : PySem.W.Frag) (mv : Nat) {α β : Type} (ins : α → List Slot) (m : α → R β) (sl : β → Slot) (outs : β → List Slot) : Sp := fun vs H Q _ =>
  ∃ (a : α) (G : Hp) (As : List (List Addr)), En K (baseMv mv H G As vs fun _ => False) G H (vs.map some) (ins a) [] ∧
    (m a).post (fun b => ∀ v G' H', En K (baseMv mv H G As vs fun _ => False) G' H' (vs.map some) (outs b) [(v, sl b)] → Q v H') fun _ => False
def relMv (mv : Nat) : Nat → List Slot → List Slot
  | _, [] => []
  | n, .own l o :: r => (match n == mv with | true => .own 0 o | false => .own l o) :: relMv mv (n + 1) r
  | n, .val d :: r => .val d :: relMv mv (n + 1) r
  | n, .non :: r => .non :: relMv mv (n + 1) r
  | n, .ali j p :: r => .ali j p :: relMv mv (n + 1) r
def goodOutMv (mv : Nat) : Nat → List Ar → List Slot → Bool
  | _, [], [] => true
  | n, .val _ :: as, _ :: os => goodOutMv mv (n + 1) as os
  | n, .slot _ :: as, s :: os => (match n == mv with | true => true | false => isOwnL (n + 1) s) && goodOutMv mv (n + 1) as os
  | _, _, _ => false
def backMv (mv : Nat) (ρ0 : List Slot) : Nat → List Slot → List Ar → List Slot → List Slot
  | _, ρ, [], _ => ρ
  | _, ρ, _, [] => ρ
  | n, ρ, .val _ :: as, _ :: os => backMv mv ρ0 (n + 1) ρ as os
  | n, ρ, .slot i :: as, s :: os => backMv mv ρ0 (n + 1) (match n == mv with | true => ρ | false => ρ.set i (relab s ρ0[i]?)) as os
def isNew (ρ : List Slot) : Option Ar → Bool
  | some (.slot i) => (match ρ[i]? with | some (.own 0 _) => true | _ => false)
  | _ => false
theorem baseMv_no {mv : Nat} {H G : Hp} {As : List (List Addr)} {vs : List V} {rs : Exn → Prop} {a : Addr} (h : a ∉ As.getD mv []) : (baseMv mv H G As vs rs).H0 a = H a := by
  show (match decide (a ∈ As.getD mv []) with | true => none | false => H a) = _
  rw [decide_eq_false h]
theorem baseMv_in {mv : Nat} {H G : Hp} {As : List (List Addr)} {vs : List V} {rs : Exn → Prop} {a : Addr} (h : a ∈ As.getD mv []) : (baseMv mv H G As vs rs).H0 a = none := by
  show (match decide (a ∈ As.getD mv []) with | true => none | false => H a) = _
  rw [decide_eq_true h]
theorem baseMv_none {mv : Nat} {H G : Hp} {As : List (List Addr)} {vs : List V} {rs : Exn → Prop} {a : Addr} (h : H a = none) : (baseMv mv H G As vs rs).H0 a = none := by
  by_cases c : a ∈ As.getD mv []
  · exact baseMv_in c
  · rw [baseMv_no c, h]
section
variable {K : PySem.W.Frag} {B B' : Base} {G G' H H' : Hp}
theorem Cells.relMv {As : List (List Addr)} {vs : List V} {rs : Exn → Prop} {mv : Nat} {H0 G0 : Hp} : ∀ {as : List Ar} {ρ : List Slot} {σ : L2.St} {A : List Addr} (n : Nat), Cells K (baseOf H0 G0 As vs rs) G H σ (insAt n ρ as) A → Cells K (baseMv mv H0 G0 As vs rs) G H σ (relMv mv n (insAt n ρ as)) A
  | [], ρ, σ, A, n, h => by
    cases h
    exact .nil
  | .val d :: as, ρ, σ, A, n, h => by
    cases h with
    | cons c r =>
      cases c with
      | val h => exact .cons (.val h) (Cells.relMv (as := as) (n + 1) r)
  | .slot i :: as, ρ, σ, A, n, h => by
    have key : ∀ s : Slot, (s = .non ∨ ∃ o, s = .own (n + 1) o) → ∀ {σ A}, Cells K (baseOf H0 G0 As vs rs) G H σ (s :: insAt (n + 1) (ρ.set i .non) as) A → Cells K (baseMv mv H0 G0 As vs rs) G H σ (DL.relMv mv n (s :: insAt (n + 1) (ρ.set i .non) as)) A := by
      rintro s (rfl | ⟨o, rfl⟩) σ A h
      · cases h with
        | cons c r =>
          cases c
          exact .cons .non (Cells.relMv (as := as) (n + 1) r)
      · cases h with
        | cons c r =>
          cases c with
          | own hO hl hp =>
            refine .cons ?_ (Cells.relMv (as := as) (n + 1) r)
            cases e : n == mv with
            | true =>
              have e := beq_iff_eq.mp e
              subst e
              refine .own hO (fun a m => .inr ?_) (.inl rfl)
              rcases hl a m with z | z
              · exact baseMv_in z
              · exact baseMv_none z
            | false =>
              refine .own hO (fun a m => ?_) hp
              rcases hl a m with z | z
              · exact .inl z
              · exact .inr (baseMv_none z)
    refine key _ ?_ h
    split
    · exact .inr ⟨_, rfl⟩
    · exact .inl rfl
theorem Cells.backMv {σ : L2.St} {G0 : Hp} {mv : Nat} (ρ0 : List Slot) : ∀ {as : List Ar} {vs : List V} {os ρ : List Slot} {A A' : List Addr} (n : Nat), ArOk K G0 σ vs as → Cells K B' G' H' (vs.map some) os A' → Cells K B G' H' σ ρ A → goodOutMv mv n as os = true →
    (slotsOf as).Nodup → (∀ i ∈ slotsOf as, ρ[i]? = some .non) → (∀ (k i : Nat), n + k ≠ mv → as[k]? = some (.slot i) → ∃ l o, ρ0[i]? = some (.own l o) ∧ (∀ a, (a ∈ B'.Mo (n + 1 + k) ∨ B'.H0 a = none) → a ∈ B.Mo l ∨ B.H0 a = none) ∧ ∀ v, σ[i]? = some (some v) → l = 0 ∨ B.pv l = some v) →
    ∃ A2 C, Cells K B G' H' σ (DL.backMv mv ρ0 n ρ as os) A2 ∧ A2.Perm (C ++ A) ∧ C.Sublist A'
  | [], _, os, ρ, A, A', n, .nil, _, h, _, _, _, _ => ⟨A, [], by rw [DL.backMv]; exact h, List.Perm.refl _, List.nil_sublist _⟩
  | .val d :: as, v :: vs, os, ρ, A, A', n, .val r q, c, h, g, nd, hn, hl => by
    cases c with
    | @cons _ s A1 _ os A2 c1 cr =>
      obtain ⟨A3, C, h1, h2, h3⟩ := Cells.backMv ρ0 (n + 1) q cr h (by simpa [goodOutMv] using g) (by simpa [slotsOf] using nd) (by simpa [slotsOf] using hn) (fun k i hk e => by
        obtain ⟨l, o, e1, e2⟩ := hl (k + 1) i (by omega) (by simpa using e)
        rw [show n + 1 + (k + 1) = n + 1 + 1 + k by omega] at e2
        exact ⟨l, o, e1, e2⟩)
      exact ⟨A3, C, by rw [DL.backMv]; exact h1, h2, h3.trans (List.sublist_append_right _ _)⟩
  | .slot j :: as, v :: vs, os, ρ, A, A', n, .slot e0 q, c, h, g, nd, hn, hl => by
    cases c with
    | @cons _ s A1 _ os A2 c1 cr =>
      have g2 : (match n == mv with | true => true | false => isOwnL (n + 1) s) = true ∧ goodOutMv mv (n + 1) as os = true := by simpa [goodOutMv] using g
      have nd' : j ∉ slotsOf as ∧ (slotsOf as).Nodup := by simpa [slotsOf] using nd
      have hl' : ∀ (k i : Nat), n + 1 + k ≠ mv → as[k]? = some (.slot i) → ∃ l o, ρ0[i]? = some (.own l o) ∧ (∀ a, (a ∈ B'.Mo (n + 1 + 1 + k) ∨ B'.H0 a = none) → a ∈ B.Mo l ∨ B.H0 a = none) ∧ ∀ v, σ[i]? = some (some v) → l = 0 ∨ B.pv l = some v := fun k i hk e => by
        obtain ⟨l, o, e1, e2⟩ := hl (k + 1) i (by omega) (by simpa using e)
        rw [show n + 1 + (k + 1) = n + 1 + 1 + k by omega] at e2
        exact ⟨l, o, e1, e2⟩
      cases en : n == mv with
      | true =>
        obtain ⟨A3, C, h1, h2, h3⟩ := Cells.backMv ρ0 (n + 1) q cr h g2.2 nd'.2 (fun i m => hn i (by simp [slotsOf, m])) hl'
        refine ⟨A3, C, ?_, h2, h3.trans (List.sublist_append_right _ _)⟩
        rw [DL.backMv, en]
        exact h1
      | false =>
        rw [en] at g2
        obtain ⟨o, rfl⟩ := isOwnL_inv g2.1
        cases c1 with
        | own hO hr _ =>
          obtain ⟨l, o0, e1, e2, e3⟩ := hl 0 j (fun z => by
            have := beq_iff_eq.mpr (show n = mv by omega)
            rw [en] at this
            cases this) rfl
          have hj : ρ[j]? = some .non := hn j (by simp [slotsOf])
          obtain ⟨A4, c4, p4⟩ := h.put1 (l := l) hj e0 hO ⟨fun a m => e2 a (by simpa using hr a m), e3 _ e0⟩
          obtain ⟨A3, C, h1, h2, h3⟩ := Cells.backMv ρ0 (n + 1) q cr c4 g2.2 nd'.2 (fun i m => by
            have hij : j ≠ i := fun z => nd'.1 (z ▸ m)
            rw [List.getElem?_set_ne hij]
            exact hn i (by simp [slotsOf, m])) hl'
          refine ⟨A3, A1 ++ C, ?_, ?_, h3.append_left A1⟩
          · rw [DL.backMv, e1, en]
            exact h1
          · have p5 := h2.trans (p4.append_left C)
            refine p5.trans ?_
            rw [← List.append_assoc]
            exact List.perm_append_comm.append_right A
theorem backMv_len {mv : Nat} (ρ0 : List Slot) : ∀ (as : List Ar) (os ρ : List Slot) (n : Nat), (backMv mv ρ0 n ρ as os).length = ρ.length
  | [], _, _, _ => by rw [backMv]
  | .val _ :: _, [], _, _ => by rw [backMv]; exact fun h => nomatch h
  | .slot _ :: _, [], _, _ => by rw [backMv]; exact fun h => nomatch h
  | .val _ :: as, _ :: os, ρ, n => by
    rw [backMv]
    exact backMv_len ρ0 as os ρ _
  | .slot i :: as, _ :: os, ρ, n => by
    rw [backMv, backMv_len ρ0 as os]
    split
    · rfl
    · rw [List.length_set]
theorem backMv_noAlis {mv : Nat} {ρ0 : List Slot} : ∀ {as : List Ar} {os ρ : List Slot} {n : Nat}, (∀ {i j : Nat} {p : List Nat}, ρ[i]? ≠ some (.ali j p)) → ∀ {i j : Nat} {p : List Nat}, (backMv mv ρ0 n ρ as os)[i]? ≠ some (.ali j p)
  | [], _, _, _, h => by
    rw [backMv]
    exact h
  | .val _ :: _, [], _, _, h => by
    rw [backMv]
    exact h
    exact fun h => nomatch h
  | .slot _ :: _, [], _, _, h => by
    rw [backMv]
    exact h
    exact fun h => nomatch h
  | .val _ :: as, _ :: os, ρ, _, h => by
    rw [backMv]
    exact backMv_noAlis h
  | .slot k :: as, s :: os, ρ, n, h => by
    rw [backMv]
    refine backMv_noAlis fun {i j p} e => ?_
    split at e
    · exact h e
    · by_cases hk : k = i
      · subst hk
        by_cases hlt : k < ρ.length
        · rw [List.getElem?_set_self hlt] at e
          have e : relab s ρ0[k]? = .ali j p := Option.some.inj e
          cases s <;> simp [relab] at e
          split at e <;> cases e
        · rw [List.getElem?_eq_none (by simpa using hlt)] at e
          cases e
      · rw [List.getElem?_set_ne hk] at e
        exact h e
theorem relMv_noAli {mv : Nat} : ∀ {r : List Slot} {n : Nat}, (∀ {i j : Nat} {p : List Nat}, r[i]? ≠ some (.ali j p)) → ∀ {i j : Nat} {p : List Nat}, (DL.relMv mv n r)[i]? ≠ some (.ali j p)
  | [], n, h, i, j, p => fun e => by simp [DL.relMv] at e
  | s :: r, n, h, i, j, p => fun e => by
    have h' : ∀ {i j : Nat} {p : List Nat}, r[i]? ≠ some (.ali j p) := fun {i j p} e => h (i := i + 1) (by simpa using e)
    have ih : ∀ {i j : Nat} {p : List Nat}, (DL.relMv mv (n + 1) r)[i]? ≠ some (.ali j p) := relMv_noAli (mv := mv) (n := n + 1) h'
    cases s with
    | own l o =>
      rw [DL.relMv] at e
      cases i with
      | zero =>
        simp at e
        split at e <;> cases e
      | succ i => exact ih (by simpa using e)
    | val d =>
      rw [DL.relMv] at e
      cases i with
      | zero => simp at e
      | succ i => exact ih (by simpa using e)
    | non =>
      rw [DL.relMv] at e
      cases i with
      | zero => simp at e
      | succ i => exact ih (by simpa using e)
    | ali j' p' => exact h (i := 0) rfl
end
section
variable {K : PySem.W.Frag} {B : Base} {G H : Hp} {σ : L2.St} {ρ : List Slot} {as : List Ar} {vs : List V}
theorem call_enMv (mv : Nat) (En0 : En K B G H σ ρ []) (ok : ArOk K G σ vs as) (hi : goodIn ρ as = true) (hal : noAlis ρ = true) (hnew : isNew ρ as[mv]? = true) :
    ∃ As, En K (baseMv mv H G As vs fun _ => False) G H (vs.map some) (relMv mv 0 (insAt 0 ρ as)) [] ∧ ∀ (os : List Slot) (s : Slot) (v : V) (G' H' : Hp), goodOutMv mv 0 as os = true → resOk s = true → En K (baseMv mv H G As vs fun _ => False) G' H' (vs.map some) os [(v, s)] →
      Ex G G' ∧ En K B G' H' σ (backMv mv ρ 0 (movedAt ρ as) as os) [(v, s)] := by
  obtain ⟨A, c, nd, f⟩ := En0.own
  obtain ⟨As, Ar', h1, h2, h3, h4, h5⟩ := Cells.args (as := as) 0 (show Cells K B G H σ ρ A from c) ok hi
  have nd2 := List.nodup_append.mp (h4.nodup_iff.mp nd)
  have fA : ∀ x ∈ As.flatten, G x = none := fun x m => f x (h4.mem_iff.mpr (List.mem_append_left _ m))
  have fR : ∀ x ∈ Ar', G x = none := fun x m => f x (h4.mem_iff.mpr (List.mem_append_right _ m))
  have mo : ∀ k, (baseMv mv H G As vs fun _ => False).Mo (0 + 1 + k) = As.getD k [] := fun k => by
    show (match 0 + 1 + k with | 0 => [] | n + 1 => As.getD n []) = _
    rw [show 0 + 1 + k = k + 1 by omega]
  have inAs : ∀ k x, x ∈ As.getD k [] → x ∈ As.flatten := fun n x m => by
    rw [List.getD_eq_getElem?_getD] at m
    cases e : As[n]? with
    | none =>
      rw [e] at m
      exact nomatch m
    | some L =>
      rw [e] at m
      exact List.mem_flatten.mpr ⟨L, List.mem_of_getElem? e, m⟩
  have moIn : ∀ l x, x ∈ (baseMv mv H G As vs fun _ => False).Mo l → x ∈ As.flatten := fun l x m => by
    cases l with
    | zero => exact nomatch m
    | succ n => exact inAs n x m
  have cA := h2 (baseOf H G As vs fun _ => False) (fun k => by
    show (match 0 + 1 + k with | 0 => [] | n + 1 => As.getD n []) = _
    rw [show 0 + 1 + k = k + 1 by omega]) fun k => by
    show (match 0 + 1 + k with | 0 => none | n + 1 => vs[n]?) = _
    rw [show 0 + 1 + k = k + 1 by omega]
  have cM : Cells K (baseMv mv H G As vs fun _ => False) G H (vs.map some) (relMv mv 0 (insAt 0 ρ as)) As.flatten := Cells.relMv 0 cA
  have thA : ∀ x ∈ As.flatten, ∃ u, H x = some u := cA.there
  have thR : ∀ x ∈ Ar', ∃ u, H x = some u := h3.there
  -- the moved one's cells are new
  have new : ∀ x ∈ As.getD mv [], B.H0 x = none := by
    cases e : as[mv]? with
    | none =>
      rw [e] at hnew
      cases hnew
    | some a =>
      rw [e] at hnew
      cases a with
      | val d => cases hnew
      | slot i =>
        obtain ⟨l, o, e1, e2, e3⟩ := h5 mv i e
        have : (match ρ[i]? with | some (.own 0 _) => true | _ => false) = true := hnew
        rw [e1] at this
        cases l with
        | succ n => cases this
        | zero =>
          intro x m
          rcases e2 x m with z | z
          · rw [B.m0] at z
            exact nomatch z
          · exact z
  have h0 : ∀ x, (baseMv mv H G As vs fun _ => False).H0 x = none → B.H0 x = none := fun x e => by
    by_cases m : x ∈ As.getD mv []
    · exact new x m
    · rw [baseMv_no m] at e
      exact En0.fresh e
  refine ⟨As, ⟨⟨fun x o _ e => ?_, fun x l mx => ?_, Ex.refl G, fun x _ e => .inl e, En0.sub⟩, ⟨_, by
      exact cM, nd2.1, fA⟩, ?_, fun i j p e => ?_⟩, ?_⟩
  · by_cases m : x ∈ As.getD mv []
    · rw [baseMv_in m] at e
      cases e
    · rw [baseMv_no m] at e
      exact e
  · obtain ⟨u, hu⟩ := thA x (moIn l x mx)
    rw [hu]
    exact fun z => nomatch z
  · exact cM.len
  · exact absurd e (relMv_noAli insAt_noAli)
  · intro os s v G' H' ho hres E'
    have hG : Ex G G' := E'.anc.gsub
    refine ⟨hG, ?_⟩
    obtain ⟨A', c', n', f'⟩ := E'.own
    cases c' with
    | @cons _ _ A1 _ _ A2 cv cr =>
      have n1 := List.nodup_append.mp n'
      have keepH : ∀ x o, x ∉ As.flatten → H x = some o → H' x = some o := fun x o hx e => E'.anc.keep x o (fun l z => hx (moIn l x z)) (by rw [baseMv_no fun m => hx (inAs mv x m)]; exact e)
      have reg : ∀ x ∈ A1 ++ A2, x ∈ As.flatten ∨ H x = none := fun x mx => by
        have := Cells.region (Cells.cons cv cr) x mx
        rcases this with ⟨l, z⟩ | z
        · exact .inl (moIn l x z)
        · by_cases m : x ∈ As.getD mv []
          · exact .inl (inAs mv x m)
          · rw [baseMv_no m] at z
            exact .inr z
      have cR : Cells K B G' H' σ (movedAt ρ as) Ar' := h3.ex hG fun x mx u e => keepH x u (fun z => nd2.2.2 x z x mx rfl) e
      obtain ⟨gn1, gn2⟩ := goodIn_nodup hi
      obtain ⟨A3, C, b1, b2, b3⟩ := Cells.backMv (B := B) (mv := mv) ρ (n := 0) ok cr cR ho gn1 (fun i mi => movedAt_get mi (by
          have := gn2 i mi
          obtain ⟨l, o, e⟩ := isOwn_inv this
          exact (List.getElem?_eq_some_iff.mp e).1)) (fun k i hk e => by
          obtain ⟨l, o, e1, e2, e3⟩ := h5 k i e
          refine ⟨l, o, e1, fun x hx => ?_, e3⟩
          rcases hx with hx | hx
          · rw [mo] at hx
            exact e2 x hx
          · exact .inr (h0 x hx))
      have subC : (A1 ++ C).Sublist (A1 ++ A2) := b3.append_left A1
      have ndC : (A1 ++ C).Nodup := subC.nodup n'
      have dis : ∀ x ∈ A1 ++ A2, x ∉ Ar' := fun x mx mr => by
        rcases reg x mx with z | z
        · exact nd2.2.2 x z x mr rfl
        · obtain ⟨u, hu⟩ := thR x mr
          rw [hu] at z
          cases z
      have pA : (A1 ++ A3).Perm ((A1 ++ C) ++ Ar') := by
        rw [List.append_assoc]
        exact b2.append_left A1
      have cvB : Cell K B G' H' (some v) s A1 := by
        have cv2 : Cell K (baseMv mv H G As vs fun _ => False) G' H' (some v) s A1 := cv
        have hb := hres
        cases cv2 with
        | non => exact .non
        | val h => exact .val h
        | @own _ l o _ hO hl _ =>
          cases l with
          | succ n => cases hb
          | zero =>
            refine .own hO (fun x mx => .inr (h0 x ?_)) (.inl rfl)
            rcases hl x mx with z | z
            · exact nomatch z
            · exact z
        | ali => exact .ali
      have lenEq : (backMv mv ρ 0 (movedAt ρ as) as os).length = ρ.length := by rw [backMv_len, movedAt_len]
      have anc : Anc B G' H' := by
        refine ⟨fun x o hx e => ?_, fun x l hx => ?_, En0.anc.gsub.trans hG, fun x e1 e2 => ?_, E'.anc.sub⟩
        · have e1 := En0.anc.keep x o hx e
          refine keepH x o (fun z => ?_) e1
          rcases Cells.region (show Cells K B G H σ ρ A from c) x (h4.mem_iff.mpr (List.mem_append_left _ z)) with ⟨l, y⟩ | y
          · exact hx l y
          · rw [y] at e
            cases e
        · have e1 := En0.anc.there x l hx
          by_cases hxA : x ∈ As.flatten
          · obtain ⟨L, hL, mL⟩ := List.mem_flatten.mp hxA
            obtain ⟨k, hk⟩ := List.getElem?_of_mem hL
            refine E'.anc.there x (k + 1) ?_
            show x ∈ As.getD k []
            rw [List.getD_eq_getElem?_getD, hk]
            exact mL
          · cases e : H x with
            | none => exact absurd e e1
            | some o =>
              rw [keepH x o hxA e]
              exact fun z => nomatch z
        · refine gnew_then (En0.anc.gnew x e1 e2) En0.anc.sub hG E'.anc.sub fun gx => E'.anc.gnew x ?_ gx
          intro z
          exact e1 (h0 x z)
      refine ⟨anc, ⟨A1 ++ A3, .cons cvB b1, pA.nodup_iff.mpr (List.nodup_append.mpr ⟨ndC, nd2.2.1, fun x mx y my e => dis x (subC.subset mx) (e ▸ my)⟩), fun x mx => ?_⟩, by rw [lenEq]; exact En0.len, fun i j p e => ?_⟩
      · rcases List.mem_append.mp (pA.mem_iff.mp mx) with mx | mx
        · exact f' x (subC.subset mx)
        · refine E'.anc.gnone ?_ (fR x mx) (cR.nt x mx)
          obtain ⟨u, hu⟩ := thR x mx
          rw [baseMv_no fun m => nd2.2.2 x (inAs mv x m) x mx rfl]
          show H x ≠ none
          rw [hu]
          exact fun z => nomatch z
      · exact absurd e (backMv_noAlis (movedAt_noAlis (noAlis_get hal)))
theorem call_spMv {α β : Type} (mv : Nat) {ins : α → List Slot} {m : α → R β} {sl : β → Slot} {outs : β → List Slot} {Q : VK} {E : XK} (a : α) (En0 : En K B G H σ ρ []) (ok : ArOk K G σ vs as) (hi : goodIn ρ as = true) (hins : relMv mv 0 (insAt 0 ρ as) = ins a)
    (ho : ∀ b, goodOutMv mv 0 as (outs b) = true) (hal : noAlis ρ = true) (hnew : isNew ρ as[mv]? = true) (hres : ∀ b, resOk (sl b) = true) (hr : ∀ e, ¬ B.rs e)
    (q : (m a).post (fun b => ∀ v G' H', Ex G G' → En K B G' H' σ (backMv mv ρ 0 (movedAt ρ as) as (outs b)) [(v, sl b)] → Q v H') B.rs) : spMv K mv ins m sl outs vs H Q E := by
  obtain ⟨As, c1, c2⟩ := call_enMv mv En0 ok hi hal hnew
  refine ⟨a, G, As, by rw [← hins]; exact c1, ?_⟩
  cases hm : m a with
  | bad =>
    rw [hm] at q
    exact q.elim
  | err e =>
    rw [hm] at q
    exact (hr e q).elim
  | ok b =>
    rw [hm] at q
    intro v G' H' E'
    obtain ⟨hG, E2⟩ := c2 _ _ v G' H' (ho b) (hres b) E'
    exact q v G' H' hG E2
end
section
variable {X : Cx} {B : Base} {ρ : List Slot} {e : Expr} {es : List Expr} {pos : Pos} {CX : CXT} {k : Nat} {f : Addr} {fd : FuncData} {ps : List Str} {EE : XK} {x : Str} {p : Pos}
end
section
variable {P : Program} {w : World} {K : PySem.W.Frag} {mg : Str → Option Value} {base : Heap} {x : Str} {st : Stmt} {f : Addr} {fd : FuncData} {N ps : List Str} {k : Nat}
theorem fn_okMv {α β N1 L1 : Type} (mv : Nat) {ins : α → List Slot} {sl : β → Slot} {outs : β → List Slot} {n1 : N1 → List Slot} {c1 k1 : L1 → List Slot} (mb : α → R (Fl N1 L1 β)) (d : Nat) (F : FnP K x st f fd) (S : FnScope N ps (defScope st)) (hN : N.length = ps.length + d)
    (hi : ∀ a, (ins a).length = ps.length) (ho : ∀ b, okOuts 0 (outs b) = true) (ho2 : ∀ b, (outs b).length = ps.length)
    (hbody : ∀ (cdv : Value) (A : Around) (outer : List PySem.Env) (s : Shared) (H : Hp) (E : XK), RoomG k (A.deeper (PyProof.Rows.envOfC x (defScope st) s.heap.objs.size f cdv)) → ∀ (B : Base), (∀ e, ¬ B.rs e) → ∀ a,
      JSs (cxOf CX0 P w K mg base N x (defScope st) f cdv A outer s H E).nox B (ins a ++ List.replicate d .non) (defBody st) (mb a) ⟨n1, c1, k1, sl, fun b => outs b ++ List.replicate d .non⟩) :
    FnG P w K mg base CX0 (k + 1) f fd ps (spMv K mv ins (fun a => fin0 (mb a)) sl outs) := by
  refine fn_ofG F S (fun vs H Q E h => ?_) fun cdv A outer s H vs Q E hr h => ?_
  · obtain ⟨a, G, As, E0, _⟩ := h
    have := E0.len
    rw [List.length_map] at this
    rw [this, hi a]
  · obtain ⟨a, G, As, E0, q⟩ := h
    have hl : vs.length = ps.length := by
      have := E0.len
      rw [List.length_map] at this
      rw [this, hi a]
    refine ⟨_, (hbody cdv A outer s H E hr (baseMv mv H G As vs fun _ => False) (fun e z => z) a).nox, G, start_en E0 (by rw [hN, hl]), ?_⟩
    have q' := R.post_bind.mp q
    refine R.post_mono q' fun fl q1 => ?_
    cases fl with
    | nx n => exact q1.elim
    | ct n => exact q1.elim
    | bk n => exact q1.elim
    | rt b => exact fun v σ' G' H' x1 E1 => q1 v G' H' (stop_en E1 (fun k => rfl) (ho b) (by rw [hl, ho2 b]))
end
end DL
namespace DL
open PySem PySem.Spec L2
theorem fl_Op {α : Type} {f : α → D} (h : ∀ x, Flat (f x)) : ∀ o : Option α, Flat (eO f o)
  | none => fl_U ()
  | some x => h x
section
variable {X : Cx} {B : Base} {ρ : List Slot} {e : Expr}
theorem je_opt {β γ : Type} {m : R β} {o : β → Option γ} {ρ' : β → List Slot} {g : γ → D} (h : JE X B ρ e m (fun b => .val (eO g (o b))) ρ') :
    JE X B ρ e (m.bind fun b => (R.some (o b)).bind fun c => .ok (b, c)) (fun p => .val (g p.2)) (fun p => ρ' p.1) :=
  PE_imp h fun σ H Q ⟨G, E, q⟩ => ⟨G, E, R.post_mono (R.post_bind.mp q) fun b q1 v G1 H1 x1 E1 => by
    obtain ⟨c, hc, q2⟩ := R.post_some (R.post_bind.mp q1)
    have E1 : En X.K B G1 H1 σ (ρ' b) [(v, Slot.val (eO g (o b)))] := E1
    rw [hc] at E1
    exact q2 v G1 H1 x1 E1⟩
end
section
variable {X : Cx} {B : Base} {ρ : List Slot} {e0 : Expr} {es : List Expr} {pos : Pos} {CX : CXT} {k : Nat} {f : Addr} {fd : FuncData} {ps : List Str} {EE : XK} {x : Str} {p : Pos}
theorem je_callTMv {α β γ : Type} {ins : α → List Slot} {mf : α → R β} {sl : β → Slot} {outs : β → List Slot} (F : FnG X.prog X.w X.K X.mg X.base CX k f fd ps (spMv X.K 0 ins mf sl outs)) (hr : RoomG k X.A) (hg : Gl X x) (hm : X.mg x = some (.ref f)) (hk : PySem.W.keepIn X.K (.ref f) = true)
    (hb : Binds X.K fd ps []) (hx : Passes CX X EE) {m0 : R γ} {o : γ → OT} {ρa : γ → List Slot} {as : γ → List Ar} (arg : γ → α) (he0 : JE X B ρ e0 m0 (fun c => .own 0 (o c)) ρa) (has : ∀ B' : Base, B'.rs = B.rs → ∀ c, JA X B' (ρa c) es (.ok ()) (fun _ => as c) (fun _ => ρa c)) (hne : ∀ e, ¬ B.rs e)
    (hns : ∀ c, noSlots (as c) = true := by intro _; rfl) (hins : ∀ c, relMv 0 0 (insAt 0 [.own 0 (o c)] (.slot 0 :: as c)) = ins (arg c) := by intro _; rfl)
    (ho : ∀ c b, goodOutMv 0 0 (.slot 0 :: as c) (outs b) = true := by intro _ _; rfl) (hal : ∀ c, noAlis (ρa c) = true := by intro _; rfl) (hres : ∀ b, resOk (sl b) = true := by intro _; rfl)
    (hdb : (x == ("__debug__" : Str)) = false := by decide) (he : starEach (e0 :: es) X.env = (false, eval e0 X.env) :: starEach es X.env := by rfl) (hpl : (backTo pos (starEach es X.env)).any (·.1) = false := by rfl) :
    JE X B ρ (.Call (.Name x p) (e0 :: es) [] pos) (m0.bind fun c => (mf (arg c)).bind fun b => .ok (c, b)) (fun y => sl y.2) (fun y => ρa y.1) := by
  have has' : PA X es (fun σ H Q => ∃ B' c, B'.rs = B.rs ∧ tJA X.K B' (ρa c) (.ok ()) (fun _ : Unit => as c) (fun _ => ρa c) σ H Q) := ⟨fun ps pins s σ H Q I ⟨B', c, hB, q⟩ => (has B' hB c).run ps pins s σ H Q I q⟩
  refine PE_imp (pe_callG F hr hg hm hk hb hx (pa_cons he0 has' he) hdb he hpl) fun σ H Q ⟨G, E, q⟩ => ⟨G, E, R.post_mono (R.post_bind.mp q) fun c k v G1 H1 x1 E1 => ?_⟩
  obtain ⟨B', hB, E2, back⟩ := E1.aside
  refine ⟨B', c, hB, G1, E2, fun vs G2 H2 x2 E3 ok => ?_⟩
  show spMv X.K 0 ins mf sl outs ((v :: vs) ++ []) H2 Q EE
  rw [List.append_nil]
  have E4 := back G2 H2 σ (ρa c) [] x2 E3 (hal c)
  have hl : σ.length = (ρa c).length := E4.len
  have E5 := E4.toSlot (hal c)
  have n0 : (ρa c ++ [Slot.own 0 (o c)])[(ρa c).length]? = some (.own 0 (o c)) := by
    rw [List.getElem?_append_right (Nat.le_refl _), Nat.sub_self]
    rfl
  have s0 : (σ ++ [some v])[(ρa c).length]? = some (some v) := by
    rw [← hl, List.getElem?_append_right (Nat.le_refl _), Nat.sub_self]
    rfl
  have ok5 : ArOk X.K G2 (σ ++ [some v]) (v :: vs) (.slot (ρa c).length :: as c) := .slot s0 (ok.re (hns c))
  refine call_spMv 0 (arg c) E5 ok5 ?_ ?_ (fun b => ?_) (noAlis_snoc (hal c)) ?_ hres hne (R.post_mono (R.post_bind.mp k) fun b k v' G3 H3 x3 E6 => k v' G3 H3 (x1.trans (x2.trans x3)) ?_)
  · rw [goodIn, n0, goodIn_vals (hns c)]
    rfl
  · rw [← hins c, insAt, insAt, n0, insAt_vals (hns c) (ρ := (ρa c ++ [Slot.own 0 (o c)]).set (ρa c).length .non) (ρ' := [Slot.own 0 (o c)].set 0 .non)]
    rfl
  · have := ho c b
    rw [← this]
    cases outs b with
    | nil => rfl
    | cons s os => rfl
  · show isNew (ρa c ++ [Slot.own 0 (o c)]) (some (.slot (ρa c).length)) = true
    show (match (ρa c ++ [Slot.own 0 (o c)])[(ρa c).length]? with | some (.own 0 _) => true | _ => false) = true
    rw [n0]
    rfl
  · have back0 : ∀ {as : List Ar} {ρ0 : List Slot} (_ : noSlots as = true) (n : Nat) (ρ os : List Slot), backMv 0 ρ0 n ρ as os = ρ := by
      intro as ρ0
      induction as with
      | nil =>
        intro _ n ρ os
        rw [backMv]
      | cons a as ih =>
        intro h n ρ os
        cases a with
        | slot i => cases h
        | val d =>
          cases os with
          | nil =>
            rw [backMv]
            exact fun h => nomatch h
          | cons s os =>
            rw [backMv]
            exact ih h _ _ _
    have e4 : backMv 0 (ρa c ++ [Slot.own 0 (o c)]) 0 (movedAt (ρa c ++ [Slot.own 0 (o c)]) (.slot (ρa c).length :: as c)) (.slot (ρa c).length :: as c) (outs b) = ρa c ++ [.non] := by
      rw [movedAt, movedAt_noSlots (hns c)]
      have e3 : ∀ t : Slot, (ρa c ++ [Slot.own 0 (o c)]).set (ρa c).length t = ρa c ++ [t] := fun t => by
        rw [List.set_append_right _ _ (Nat.le_refl _), Nat.sub_self]
        rfl
      cases outs b with
      | nil =>
        rw [backMv, e3]
        exact fun h => nomatch h
      | cons s os =>
        rw [backMv, back0 (hns c), e3]
        rfl
    rw [e4] at E6
    exact E6.dropSlot (hal c) hl
end
mutual
def Flat1 : D → Prop
  | .none => True
  | .bool _ => True
  | .int _ => True
  | .str _ => True
  | .tuple ds => FlatL1 ds
  | .row ds => FlatL1 ds
  | .key _ => True
  | .list ds => ∀ d ∈ ds, ∃ i, d = .int i
  | _ => False
def FlatL1 : List D → Prop
  | [] => True
  | d :: ds => Flat1 d ∧ FlatL1 ds
end
def FlatO1 : OT → Prop
  | .dat d => Flat1 d
  | .lst os => ∀ o ∈ os, ∃ d, o = .dat d ∧ Flat1 d
  | _ => False
theorem f1_LI (l : List Int) : Flat1 (eL D.int l) := by
  rw [Flat1]
  exact fun d m => (List.mem_map.mp m).elim fun i h => ⟨i, h.2.symm⟩
theorem f1_oLI (l : List (List Int)) : FlatO1 (oL (eL D.int) l) := by
  rw [FlatO1]
  intro o m
  obtain ⟨d, hd, rfl⟩ := List.mem_map.mp m
  obtain ⟨x, _, rfl⟩ := List.mem_map.mp hd
  exact ⟨_, rfl, f1_LI x⟩
section
variable {K : PySem.W.Frag} {G1 G2 H1 : Hp} {A : List Addr}
mutual
theorem Rp.less1 (k : ∀ a u, G1 a = some u → mutO u = false → G2 a = some u) (k1 : ∀ a ws ds, G1 a = some (.lst ws) → RpAll K G1 ws ds → (∀ d ∈ ds, ∃ i, d = .int i) → G2 a = some (.lst ws)) : ∀ {v : V} {d : D}, Rp K G1 v d → Flat1 d → Rp K G2 v d
  | _, _, .non, _ => .non
  | _, _, .bl b, _ => .bl b
  | _, _, .int i, _ => .int i
  | _, _, .str x, _ => .str x
  | _, _, .tup h r, f => .tup (SqT.less k h) (RpAll.less1 k k1 r (by rw [Flat1] at f; exact f))
  | _, _, .row h d r, f => .row (k _ _ h rfl) d (RpAll.less1 k k1 r (by rw [Flat1] at f; exact f))
  | _, _, .key h, _ => .key (k _ _ h rfl)
  | _, _, .lst (ds := ds) h r, f => by
    have f' : ∀ d ∈ ds, ∃ i, d = .int i := by rw [Flat1] at f; exact f
    refine .lst ?_ (RpAll.ints1 r f')
    rcases h with h | ⟨o, h⟩
    · exact .inl (k1 _ _ _ h r f')
    · exact .inr ⟨o, k _ _ h rfl⟩
  | _, _, .scr h, f => by
    rw [Flat1] at f <;> first | exact f.elim | (intros; exact D.noConfusion)
  | _, _, .dK h r, f => by
    rw [Flat1] at f <;> first | exact f.elim | (intros; exact D.noConfusion)
  | _, _, .dT h r, f => by
    rw [Flat1] at f <;> first | exact f.elim | (intros; exact D.noConfusion)
  | _, _, .ddk h r, f => by
    rw [Flat1] at f <;> first | exact f.elim | (intros; exact D.noConfusion)
  | _, _, .ddt h r, f => by
    rw [Flat1] at f <;> first | exact f.elim | (intros; exact D.noConfusion)
  | _, _, .any z, _ => .any z
theorem RpAll.less1 (k : ∀ a u, G1 a = some u → mutO u = false → G2 a = some u) (k1 : ∀ a ws ds, G1 a = some (.lst ws) → RpAll K G1 ws ds → (∀ d ∈ ds, ∃ i, d = .int i) → G2 a = some (.lst ws)) : ∀ {v : List V} {d : List D}, RpAll K G1 v d → FlatL1 d → RpAll K G2 v d
  | _, _, .nil, _ => .nil
  | _, _, .cons h r, f => .cons (Rp.less1 k k1 h (by rw [FlatL1] at f; exact f.1)) (RpAll.less1 k k1 r (by rw [FlatL1] at f; exact f.2))
theorem RpAll.ints1 : ∀ {v : List V} {ds : List D}, RpAll K G1 v ds → (∀ d ∈ ds, ∃ i, d = .int i) → RpAll K G2 v ds
  | _, _, .nil, _ => .nil
  | _, _, .cons h r, f => .cons (by
      obtain ⟨i, rfl⟩ := f _ List.mem_cons_self
      cases h
      exact .int i) (RpAll.ints1 r fun d m => f d (List.mem_cons_of_mem _ m))
end
theorem OwnAll.less1 (k : ∀ a u, G1 a = some u → mutO u = false → G2 a = some u) (k1 : ∀ a ws ds, G1 a = some (.lst ws) → RpAll K G1 ws ds → (∀ d ∈ ds, ∃ i, d = .int i) → G2 a = some (.lst ws)) : ∀ {os : List OT} {v : List V} {A : List Addr}, OwnAll K G1 H1 v os A → (∀ o ∈ os, ∃ d, o = .dat d ∧ Flat1 d) → OwnAll K G2 H1 v os A
  | [], _, _, h, _ => by
    cases h
    exact .nil
  | o :: os, _, _, h, f => by
    cases h with
    | cons h r =>
      obtain ⟨d, rfl, fd⟩ := f _ List.mem_cons_self
      refine .cons ?_ (OwnAll.less1 k k1 r fun o m => f o (List.mem_cons_of_mem _ m))
      cases h with
      | dat h => exact .dat (h.less1 k k1 fd)
theorem Own.less1 (k : ∀ a u, G1 a = some u → mutO u = false → G2 a = some u) (k1 : ∀ a ws ds, G1 a = some (.lst ws) → RpAll K G1 ws ds → (∀ d ∈ ds, ∃ i, d = .int i) → G2 a = some (.lst ws)) {v : V} {o : OT} {A : List Addr} (h : Own K G1 H1 v o A) (f : FlatO1 o) : Own K G2 H1 v o A := by
  cases h with
  | dat h => exact .dat (h.less1 k k1 (by rw [FlatO1] at f; exact f))
  | lst h r => exact .lst h (OwnAll.less1 k k1 r (by rw [FlatO1] at f; exact f))
  | dk h r => exact (by rw [FlatO1] at f <;> first | exact f.elim | (intros; exact OT.noConfusion))
  | dt h r => exact (by rw [FlatO1] at f <;> first | exact f.elim | (intros; exact OT.noConfusion))
  | tp h r => exact (by rw [FlatO1] at f <;> first | exact f.elim | (intros; exact OT.noConfusion))
  | dko h hk r => exact (by rw [FlatO1] at f <;> first | exact f.elim | (intros; exact OT.noConfusion))
  | obj h g n hk r => exact (by rw [FlatO1] at f <;> first | exact f.elim | (intros; exact OT.noConfusion))
end
section
variable {K : PySem.W.Frag} {B B' : Base} {G G' H H' G1 G2 H1 : Hp}
theorem En.lend1 {σ : L2.St} {ρ : List Slot} (E : En K B G H σ ρ []) {i l : Nat} {rows : List (List Int)} (h : ρ[i]? = some (.own l (oL (eL D.int) rows))) (ne : rows ≠ []) (hal : noAlis ρ = true) : ∃ B' : Base, B'.rs = B.rs ∧ ∃ G', Ex G G' ∧ En K B' G' H σ (ρ.set i (.val (eL (eL D.int) rows))) [] ∧
    ∀ G1 H1 ρ1 ρ2 v1 o1, Ex G' G1 → En K B' G1 H1 σ ρ1 [(v1, .own 0 o1)] → FlatO1 o1 → Bor (ρ.set i .non) ρ1 ρ2 → ρ2[i]? = some .non → noAlis ρ2 = true → ∃ G2, Ex G G2 ∧ En K B G2 H1 σ (ρ2.set i (.own l (oL (eL D.int) rows))) [(v1, .own 0 o1)] := by
  obtain ⟨A0, c, n, g⟩ := E.own
  obtain ⟨v, A, A2, e1, hO, ⟨hl, hp⟩, c2, pm⟩ := Cells.take1 (show Cells K B G H σ ρ A0 from c) h
  have nn := pm.nodup_iff.mp n
  have n1 := List.nodup_append.mp nn
  have hA : ∀ a ∈ A, G a = none := fun a m => g a (pm.mem_iff.mpr (List.mem_append_left _ m))
  have hA2 : ∀ a ∈ A2, G a = none := fun a m => g a (pm.mem_iff.mpr (List.mem_append_right _ m))
  have hT : ∀ a ∈ A, H a ≠ none := fun a m z => by
    obtain ⟨vs, e, _⟩ := hO.thereL a m
    rw [e] at z
    cases z
  -- the list and its parts
  have hR : ∀ a ∈ A, ∃ b bs, H a = some (.lst (V.ref b :: bs)) := by
    cases hO with
    | @lst a0 vs os A3 ha hall =>
      have nil : ∀ {ds : List D} {vs : List V} {A : List Addr}, OwnAll K G H vs (ds.map OT.dat) A → A = [] := by
        intro ds
        induction ds with
        | nil =>
          intro vs A h
          cases h
          rfl
        | cons d ds ih =>
          intro vs A h
          cases h with
          | cons h r =>
            cases h
            exact ih r
      have e3 := nil hall
      have hd : ∀ {r : List Int} {rs : List (List Int)} {vs : List V} {A : List Addr}, OwnAll K G H vs (((r :: rs).map (eL D.int)).map OT.dat) A → ∃ b bs, vs = V.ref b :: bs := by
        intro r rs vs A h
        cases h with
        | cons h _ =>
          cases h with
          | dat h =>
            cases h with
            | lst _ _ => exact ⟨_, _, rfl⟩
      cases rows with
      | nil => exact absurd rfl ne
      | cons r rows =>
        obtain ⟨b, bs, rfl⟩ := hd hall
        intro a m
        rw [e3] at m
        rw [List.mem_singleton.mp m]
        exact ⟨_, _, ha⟩
  have eG : Ex G fun a => if a ∈ A then H a else G a := fun a u e => by
    show (if a ∈ A then H a else G a) = _
    by_cases ha : a ∈ A
    · rw [hA a ha] at e
      cases e
    · rw [if_neg ha]
      exact e
  have c3 : Cells K (B.lend A) (fun a => if a ∈ A then H a else G a) H σ (ρ.set i .non) A2 := by
    refine Cells.reb (B := B) (c2.ex eG fun _ _ _ e => e) (fun l a m k => ?_) rfl
    have ha : a ∉ A := fun z => n1.2.2 a z a m rfl
    rcases k with k | k
    · exact .inl (List.mem_filter.mpr ⟨k, decide_eq_true ha⟩)
    · refine .inr ?_
      show (if a ∈ A then none else B.H0 a) = _
      rw [if_neg ha, k]
  have hi : i < ρ.length := (List.getElem?_eq_some_iff.mp h).1
  have c4 := c3.putV (i := i) (v := v) (d := (oL (eL D.int) rows).toD) (by rw [List.getElem?_set_self hi]) e1 (hO.rp eG fun a m u e => by
    show (if a ∈ A then H a else G a) = _
    rw [if_pos m, e])
  rw [List.set_set, toD_oL] at c4
  refine ⟨B.lend A, rfl, _, eG, ⟨E.anc.lend hA, ⟨A2, c4, n1.2.1, fun a m => ?_⟩, by rw [List.length_set]; exact E.len, fun k j p e => ?_⟩, fun G1 H1 ρ1 ρ2 v1 o1 x E1 fl bo h2 ha2 => ?_⟩
  · have ha : a ∉ A := fun z => n1.2.2 a z a m rfl
    show (if a ∈ A then H a else G a) = _
    rw [if_neg ha]
    exact hA2 a m
  · by_cases hk : i = k
    · subst hk
      rw [List.getElem?_set_self hi] at e
      cases e
    · rw [List.getElem?_set_ne hk] at e
      exact absurd e (noAlis_get hal)
  · obtain ⟨A5, c5, n5, g5⟩ := E1.own
    have hG1 : ∀ a ∈ A, G1 a = H a := fun a ha => by
      cases e : H a with
      | none => exact absurd e (hT a ha)
      | some u => exact x a u (by
          show (if a ∈ A then H a else G a) = _
          rw [if_pos ha, e])
    have x2 : Ex G fun a => if a ∈ A then none else G1 a := fun a u e => by
      have ha : a ∉ A := fun ha => by
        rw [hA a ha] at e
        cases e
      show (if a ∈ A then none else G1 a) = _
      rw [if_neg ha]
      exact x a u (eG a u e)
    have k : ∀ a u, G1 a = some u → mutO u = false → (if a ∈ A then none else G1 a) = some u := fun a u e ne => by
      by_cases ha : a ∈ A
      · obtain ⟨vs, e3, em⟩ := hO.thereL a ha
        rw [hG1 a ha, e3] at e
        injection e with e
        subst e
        rw [em] at ne
        cases ne
      · rw [if_neg ha]
        exact e
    have k1 : ∀ a ws ds, G1 a = some (.lst ws) → RpAll K G1 ws ds → (∀ d ∈ ds, ∃ i, d = .int i) → (if a ∈ A then none else G1 a) = some (.lst ws) := fun a ws ds e r f => by
      by_cases ha : a ∈ A
      · obtain ⟨b, bs, e3⟩ := hR a ha
        rw [hG1 a ha, e3] at e
        injection e with e
        injection e with e
        subst e
        cases r with
        | cons r _ =>
          obtain ⟨i, rfl⟩ := f _ List.mem_cons_self
          cases r
      · rw [if_neg ha]
        exact e
    have disj : ∀ a ∈ A5, a ∉ A := fun a m ha => by
      have z := g5 a m
      rw [hG1 a ha] at z
      exact hT a ha z
    cases c5 with
    | @cons _ _ B1 _ _ B2 cv cr =>
      obtain ⟨A6, c6, s6⟩ := Cells.bor (G := G) (H := H) (G2 := fun a => if a ∈ A then none else G1 a) k x2 c2 (show Cells K (B.lend A) G1 H1 σ ρ1 B2 from cr) bo
      have cv2 : Cell K (B.lend A) (fun a => if a ∈ A then none else G1 a) H1 (some v1) (.own 0 o1) B1 := by
        cases cv with
        | own hO2 hr hp2 => exact .own (hO2.less1 k k1 fl) hr hp2
      have c6' : Cells K (B.lend A) (fun a => if a ∈ A then none else G1 a) H1 (some v1 :: σ) (.own 0 o1 :: ρ2) (B1 ++ A6) := .cons cv2 c6
      have s6' : (B1 ++ A6).Sublist (B1 ++ B2) := s6.append_left B1
      have c7 : Cells K B (fun a => if a ∈ A then none else G1 a) H1 (some v1 :: σ) (.own 0 o1 :: ρ2) (B1 ++ A6) := by
        refine Cells.reb (B := B.lend A) c6' (fun l a m k => ?_) rfl
        have ha := disj a (s6'.subset m)
        rcases k with k | k
        · exact .inl (List.mem_filter.mp k).1
        · refine .inr ?_
          have k : (if a ∈ A then none else B.H0 a) = none := k
          rw [if_neg ha] at k
          exact k
      have hO1 : Own K (fun a => if a ∈ A then none else G1 a) H1 v (oL (eL D.int) rows) A := hO.ex x2 fun a m u e => E1.anc.sub a u (by rw [hG1 a m, e])
      obtain ⟨A8, c8, p8⟩ := c7.put1 (i := i + 1) (l := l) (o := oL (eL D.int) rows) (v := v) (A1 := A) (by simpa using h2) (by simpa using e1) hO1 ⟨hl, hp⟩
      have hi2 : i < ρ2.length := (List.getElem?_eq_some_iff.mp h2).1
      refine ⟨_, x2, ⟨Anc.back E.anc hA ⟨l, hl⟩ hT x E1.anc, ⟨A8, c8, p8.nodup_iff.mpr (List.nodup_append.mpr ⟨n1.1, s6'.nodup n5, fun a m b m2 e => ?_⟩), fun a m => ?_⟩, ?_, fun k j p e => ?_⟩⟩
      · subst e
        exact disj a (s6'.subset m2) m
      · show (if a ∈ A then none else G1 a) = _
        by_cases ha : a ∈ A
        · rw [if_pos ha]
        · rw [if_neg ha]
          rcases List.mem_append.mp (p8.mem_iff.mp m) with m | m
          · exact absurd m ha
          · exact g5 a (s6'.subset m)
      · rw [List.length_set, bo.len]
        exact E1.len
      · by_cases hk : i = k
        · subst hk
          rw [List.getElem?_set_self hi2] at e
          cases e
        · rw [List.getElem?_set_ne hk] at e
          exact absurd e (noAlis_get ha2)
end
section
variable {X : Cx} {B : Base} {ρ : List Slot} {pos : Pos} {e : Expr}
theorem je_bor1 (i : Nat) {β : Type} {m : R β} {ys : β → List (List Int)} {l : Nat} {rows : List (List Int)} {ρ1 ρ2 ρ' : β → List Slot} (h : ρ[i]? = some (.own l (oL (eL D.int) rows)) := by rfl) (he : ∀ B' : Base, B'.rs = B.rs → JE X B' (ρ.set i (.val (eL (eL D.int) rows))) e m (fun b => .own 0 (oL (eL D.int) (ys b))) ρ1) (hb : ∀ b, Bor (ρ.set i .non) (ρ1 b) (ρ2 b)) (hr : ∀ b, (ρ2 b).set i (.own l (oL (eL D.int) rows)) = ρ' b)
    (hal : noAlis ρ = true := by rfl) (h2 : ∀ b, (ρ2 b)[i]? = some .non := by intro _; rfl) (ha2 : ∀ b, noAlis (ρ2 b) = true := by intro _; rfl) : JE X B ρ e ((R.guard (rows ≠ [])).bind fun _ => m) (fun b => .own 0 (oL (eL D.int) (ys b))) ρ' := by
  refine ⟨fun pins s σ H Q I ⟨G, E, q⟩ => ?_⟩
  obtain ⟨ne, q⟩ := R.post_guard (R.post_bind.mp q)
  obtain ⟨B', hB, G', x, E', k⟩ := E.lend1 h ne hal
  refine (he B' hB).run pins s σ H Q I ⟨G', E', ?_⟩
  rw [hB]
  refine R.post_mono q fun b q1 v G1 H1 x1 E1 => ?_
  obtain ⟨G2, x2, E2⟩ := k G1 H1 (ρ1 b) (ρ2 b) v _ x1 E1 (f1_oLI (ys b)) (hb b) (h2 b) (ha2 b)
  rw [hr b] at E2
  exact q1 v G2 H1 x2 E2
end
theorem set_self1 {α : Type} {l : List α} {i : Nat} {x : α} (h : l[i]? = some x) : l.set i x = l := by
  refine List.ext_getElem? fun k => ?_
  rw [List.getElem?_set]
  split
  · rename_i e
    rw [← e, h, if_pos (List.getElem?_eq_some_iff.mp h).1]
  · rfl
section
variable {X : Cx} {B : Base} {ρ : List Slot}
theorem js_castO (i : Nat) {N L T γ : Type} {ss : List Stmt} {F : Fin N L T} {g : γ → D} (o : Option γ) {k : γ → R (Fl N L T)} (h : ∀ c, JSs X B (ρ.set i (.val (g c))) ss (k c) F) (hi : ρ[i]? = some (.val (eO g o)) := by rfl) : JSs X B ρ ss ((R.some o).bind k) F :=
  ⟨fun pins s σ H D I ⟨G, E, q⟩ => by
    obtain ⟨c, hc, q⟩ := R.post_some (R.post_bind.mp q)
    subst hc
    refine (h c).run pins s σ H D I ⟨G, ?_, q⟩
    rw [set_self1 hi]
    exact E⟩
end
section
variable {X : Cx} {B : Base} {ρ : List Slot} {pos : Pos} {e : Expr}
theorem je_remD (i : Nat) {x : Str} {px ap : Pos} {l l0 : Nat} {os0 : List OT} {α β : Type} [DecidableEq α] {n : Nat} {f : α → D} (hE : EqE n f) (hu : X.A.units + 65 < cLine) (xs : β → List α) {m : R β} {y : β → α} {ρ' : β → List Slot} (he : JE X B ρ e m (fun b => .val (f (y b))) ρ') (h : ∀ b, (ρ' b)[i]? = some (.own l (oL f (xs b))) := by intro _; rfl) (hal : ∀ b, noAlis (ρ' b) = true := by intro _; rfl)
    (hn : n + 1 ≤ 64 := by decide) (h0 : ρ[i]? = some (.own l0 (.lst os0)) := by rfl) (hN : X.N[i]? = some x := by rfl) (hv : Vis X.env.scope x := by first | exact Or.inl rfl | exact Or.inr (Or.inl rfl) | exact Or.inr (Or.inr rfl))
    (hd : (x == ("__debug__" : Str)) = false := by decide) (hcd : (x == ("__classdict__" : Str)) = false := by decide) (hst : starEach [e] X.env = (false, eval e X.env) :: starEach [] X.env := by rfl)
    (hbase : attributeBase (.Name x px) "remove" X.env (eval (.Name x px) X.env) = eval (.Name x px) X.env := by rfl)
    (hone : ((backTo pos (starEach [e] X.env)).all (fun x => !x.1) && (backToKw pos (keywordEach [] X.env)).all (fun x => x.1.isSome) && decide ([e].length + ([] : List Keyword).length + (if ([] : List Keyword).isEmpty then 0 else 1) < 30)) = true := by rfl)
    (hline : (ap.endLine == pos.line) = true := by rfl) (hnil : (backTo pos (starEach [] X.env)).any (·.1) = false := by rfl) :
    JE X B ρ (.Call (.Attribute (.Name x px) "remove" ap) [e] [] pos) (m.bind fun b => (R.some (ixOf (y b) (xs b))).bind fun j => .ok (b, j)) (fun _ => .val .none) (fun p => (ρ' p.1).set i (.own l (oL f ((xs p.1).eraseIdx p.2)))) :=
  PE_imp (pe_bm PySem.F.plainAttrs_list PySem.F.slot_list_remove PySem.F.type_list_remove (mt_removeD hu) (pv (X := X) (pos := px) i hN hv hd hcd) (pa_cons he pa_nil hst) hbase hone hline hst hnil) fun σ H Q ⟨G, E, q⟩ => by
    obtain ⟨A, c, nn, g⟩ := E.own
    obtain ⟨w, A1, A2, e1, hO, hl, c2, pm⟩ := Cells.take1 (show Cells X.K B G H σ ρ A from c) h0
    cases hO with
    | @lst a vs _ A3 ha hall =>
      refine ⟨.ref a, e1, .inl ⟨rfl, _, .inl (.inl ha)⟩, G, E, R.post_mono (R.post_bind.mp q) (fun b hb => ?_)⟩
      intro v G1 H1 x1 E1
      obtain ⟨p, vs1, g1, g2, g3, g4⟩ := E1.pop.ownD (h b) (hal b)
      have ep : p = a := by
        have z := g1.symm.trans e1
        injection z with z
        injection z with z
        injection z
      subst ep
      refine md_removeD (K := X.K) hE hn (xs := xs b) (k := y b) G1 H1 p vs1 [v] Q B.rs E1.sub g2 g3 (.cons E1.top .nil) (R.post_mono (R.post_bind.mp hb) fun j q v' vs' hv' hr' => ?_)
      refine q v' G1 _ x1 ?_
      have z := g4 G1 H1 [] vs' (((xs b).eraseIdx j).map f) E1.pop (Ex.refl _) g2 hr'
      have ez : (oL f ((xs b).eraseIdx j)) = .lst ((((xs b).eraseIdx j).map f).map OT.dat) := rfl
      show En X.K B G1 (upd H1 p (.lst vs')) σ ((ρ' b).set i (.own l (oL f ((xs b).eraseIdx j)))) [(v', .val .none)]
      rw [ez]
      exact z.push hv'
end
end DL
namespace DL
open PySem L2
section
variable {α β γ N N1 L T S : Type}
theorem bind_ok (a : α) (f : α → R β) : (R.ok a).bind f = f a := rfl
theorem bind_assoc (m : R α) (f : α → R β) (g : β → R γ) : (m.bind f).bind g = m.bind fun a => (f a).bind g := by cases m <;> rfl
theorem lt_eq (v : α) (k : α → β) : lt v k = k v := rfl
theorem bind_okN (a : α) (f : α → R β) : (R.ok a).bind f = f a := Eq.trans (Eq.refl _) (Eq.refl _)
theorem lt_eqN (v : α) (k : α → β) : lt v k = k v := Eq.trans (Eq.refl _) (Eq.refl _)
theorem bindF_nx (n : N1) (k : N1 → R (Fl N L T)) : bindF (.ok (.nx n)) k = k n := rfl
theorem bindF_rt (t : T) (k : N1 → R (Fl N L T)) : bindF (.ok (.rt t)) k = .ok (.rt t) := rfl
theorem fin0_rt (t : T) : fin0 (.ok (.rt t) : R (Fl N L T)) = .ok t := rfl
theorem guard_ok {c : Prop} [Decidable c] (h : c) : R.guard c = .ok () := if_pos h
theorem some_ok (a : α) : R.some (.some a) = .ok a := rfl
theorem and2_ok (a : α) (f : α → Bool) (m : R Bool) : and2 (.ok a) f m = if f a = true then m else .ok false := rfl
theorem or2_ok (a : α) (f : α → Bool) (m : R Bool) : or2 (.ok a) f m = if f a = true then .ok true else m := rfl
theorem op2_ok {δ : Type} (a : α) (f : α → R β) (g : α → β → R δ) : op2 (.ok a) f g = (f a).bind fun y => (g a y).bind fun z => .ok (a, y, z) := rfl
theorem whR_true {c : S → R Bool} {f : S → R (Fl S S T)} {s s' : S} {y : Fl S L T} (hc : c s = .ok true) (hf : f s = .ok (.nx s')) (h : whR (L := L) c f s' = .ok y) : whR (L := L) c f s = .ok y := by
  have hx : ∃ n, whN (L := L) c f n s' ≠ .bad := by
    apply Classical.byContradiction
    intro z
    unfold whR at h
    rw [dif_neg z] at h
    cases h
  obtain ⟨n, hn⟩ := hx
  rw [whR_of hn] at h
  have e : whN (L := L) c f (n + 1) s = .ok y := by
    rw [whN, hc]
    simp only [R.bind, if_true, hf]
    exact h
  have e2 : whN (L := L) c f (n + 1) s ≠ .bad := by
    rw [e]
    exact fun z => nomatch z
  rw [whR_of e2]
  exact e
theorem whR_false {c : S → R Bool} {f : S → R (Fl S S T)} {s : S} (hc : c s = .ok false) : whR (L := L) c f s = .ok (.nx s) := by
  have e : whN (L := L) c f 1 s = .ok (.nx s) := by
    rw [whN, hc]
    rfl
  rw [whR_of (n := 1) (by rw [e]; exact fun z => nomatch z)]
  exact e
end
theorem mulx {i j : Int} (a : Nat) (hi : i.natAbs < 2 ^ a) (hj : j.natAbs < 2 ^ a) (h : a ≤ 67108864 := by decide) : CMulX i j := mulx_ok hi hj (by omega)
theorem div_ok {i j : Int} (h : j ≠ 0) (hj : j.natAbs < 2 ^ 8000) : divOk i j := by
  refine ⟨h, PyProof.noPylong_of_log2 ?_⟩
  have := (Nat.log2_lt (n := j.natAbs) (k := 8000) (by omega)).mpr hj
  omega
theorem divp_ok' {i j : Int} (h : 0 < j) (hj : j < 2 ^ 8000) : CDivP i j := ⟨h, (div_ok (i := i) (j := j) (by omega) (by omega)).2⟩
theorem mem_rng {lo hi x : Int} (h : x ∈ rng lo hi) : lo ≤ x ∧ x < hi := by
  unfold rng at h
  obtain ⟨k, hk, rfl⟩ := List.mem_map.mp h
  have := List.mem_range.mp hk
  omega
theorem fr_low {n d g : Int} (hg : g = (if d < 0 then -(Int.gcd n d : Int) else (Int.gcd n d : Int))) (hd : d ≠ 0) : g ≠ 0 ∧ n.fdiv g * g = n ∧ d.fdiv g * g = d ∧ 0 < d.fdiv g ∧ Int.gcd (n.fdiv g) (d.fdiv g) = 1 := by
  have h0 : 0 < Int.gcd n d := Nat.pos_of_ne_zero fun z => hd (Int.gcd_eq_zero_iff.mp z).2
  have hn : (Int.gcd n d : Int) ∣ n := Int.gcd_dvd_left ..
  have hdd : (Int.gcd n d : Int) ∣ d := Int.gcd_dvd_right ..
  have hg0 : g ≠ 0 := by
    rw [hg]
    split <;> omega
  have gn : g ∣ n := by
    rw [hg]
    split
    · exact Int.neg_dvd.mpr hn
    · exact hn
  have gd : g ∣ d := by
    rw [hg]
    split
    · exact Int.neg_dvd.mpr hdd
    · exact hdd
  have e1 : n.fdiv g * g = n := Int.fdiv_mul_cancel gn
  have e2 : d.fdiv g * g = d := Int.fdiv_mul_cancel gd
  refine ⟨hg0, e1, e2, ?_, ?_⟩
  · have hs : 0 < d.fdiv g * g * g := by
      rw [e2, hg]
      split
      · rename_i h
        exact Int.mul_pos_of_neg_of_neg h (by omega)
      · rename_i h
        exact Int.mul_pos (by omega) (by omega)
    have hgg : 0 < g * g := by
      rcases Int.lt_or_gt_of_ne hg0 with h | h
      · exact Int.mul_pos_of_neg_of_neg h h
      · exact Int.mul_pos h h
    rw [Int.mul_assoc] at hs
    apply Classical.byContradiction
    intro z
    have := Int.mul_nonneg (show 0 ≤ -(d.fdiv g) by omega) (Int.le_of_lt hgg)
    rw [Int.neg_mul] at this
    omega
  · have hgcd : Int.gcd (n.fdiv g * g) (d.fdiv g * g) = Int.gcd (n.fdiv g) (d.fdiv g) * g.natAbs := Int.gcd_mul_right ..
    rw [e1, e2] at hgcd
    have ga : g.natAbs = Int.gcd n d := by
      rw [hg]
      split <;> simp
    rw [ga] at hgcd
    have : Int.gcd n d * 1 = Int.gcd n d * Int.gcd (n.fdiv g) (d.fdiv g) := by
      rw [Nat.mul_one, Nat.mul_comm]
      exact hgcd
    exact (Nat.eq_of_mul_eq_mul_left h0 this).symm
theorem cell_ok (ns : List Int) (k : Int) (h0 : 0 ≤ k) : ∃ c, atI (cut ns (some k) (some (k + (1 : Int))) ++ [(0 : Int)]) (0 : Int) = some c ∧ (cut ns (some k) (some (k + (1 : Int)))).length ≤ 1 := by
  have hc : (cut ns (some k) (some (k + 1))).length ≤ 1 := by
    unfold cut
    rw [List.length_take]
    simp only [HT.sIx]
    rw [if_neg (by omega), if_neg (by omega)]
    omega
  generalize cut ns (some k) (some (k + 1)) = l at *
  match l, hc with
  | [], _ => exact ⟨0, rfl, by simp⟩
  | [c], _ => exact ⟨c, rfl, by simp⟩
theorem line_ok {n : Nat} (h : n ≤ 1000) : n ≤ sizeLine := Nat.le_of_lt (small1000 h)
end DL
namespace DL
open PySem L2
def Ok {α : Type} (m : R α) (P : α → Prop) : Prop := ∃ a, m = .ok a ∧ P a
def fl {N L T : Type} (Pn : N → Prop) (Pc Pb : L → Prop) (Pt : T → Prop) : Fl N L T → Prop
  | .nx n => Pn n
  | .ct l => Pc l
  | .bk l => Pb l
  | .rt t => Pt t
abbrev fn {N L T : Type} (Pn : N → Prop) (Pt : T → Prop) : Fl N L T → Prop := fl Pn (fun _ => False) (fun _ => False) Pt
namespace Ok
section
variable {α β γ δ ε N N1 L T S : Type}
theorem ret {a : α} {P : α → Prop} (h : P a) : Ok (.ok a) P := ⟨a, rfl, h⟩
theorem mono {m : R α} {P Q : α → Prop} (h : Ok m P) (k : ∀ a, P a → Q a) : Ok m Q := let ⟨a, e, p⟩ := h; ⟨a, e, k a p⟩
theorem bind {m : R α} {f : α → R β} {P : α → Prop} {Q : β → Prop} (h : Ok m P) (k : ∀ a, P a → Ok (f a) Q) : Ok (m.bind f) Q := by
  obtain ⟨a, rfl, p⟩ := h
  exact k a p
theorem bind1 {m : R α} {f : α → R β} {Q : β → Prop} {a : α} (h : m = .ok a) (k : Ok (f a) Q) : Ok (m.bind f) Q := by
  rw [h]
  exact k
theorem of_eq {m : R α} {a : α} {Q : α → Prop} (h : m = .ok a) (k : Q a) : Ok m Q := ⟨a, h, k⟩
theorem eq {m : R α} {a : α} (h : Ok m (fun b => b = a)) : m = .ok a := by
  obtain ⟨b, e, rfl⟩ := h
  exact e
theorem grdB {c : Prop} [Decidable c] {f : Unit → R β} {Q : β → Prop} (h : c) (k : Ok (f ()) Q) : Ok ((R.guard c).bind f) Q := bind1 (guard_ok h) k
theorem somB {o : Option α} {a : α} {f : α → R β} {Q : β → Prop} (h : o = .some a) (k : Ok (f a) Q) : Ok ((R.some o).bind f) Q := bind1 (by rw [h]; rfl) k
theorem okB {a : α} {f : α → R β} {Q : β → Prop} (k : Ok (f a) Q) : Ok ((R.ok a).bind f) Q := k
theorem ltI {v : α} {k : α → R β} {Q : β → Prop} (h : Ok (k v) Q) : Ok (lt v k) Q := h
theorem ite {b : Bool} {m m' : R α} {Q : α → Prop} (h1 : b = true → Ok m Q) (h2 : b = false → Ok m' Q) : Ok (if b = true then m else m') Q := by
  cases b with
  | true => exact h1 rfl
  | false => exact h2 rfl
theorem iteT {b : Bool} {m m' : R α} {Q : α → Prop} (h : b = true) (h1 : Ok m Q) : Ok (if b = true then m else m') Q := by rw [if_pos h]; exact h1
theorem iteF {b : Bool} {m m' : R α} {Q : α → Prop} (h : b = false) (h1 : Ok m' Q) : Ok (if b = true then m else m') Q := by rw [if_neg (by rw [h]; decide)]; exact h1
theorem bF {m : R (Fl N1 L T)} {k : N1 → R (Fl N L T)} {Pn : N1 → Prop} {Qn : N → Prop} {Pc Pb : L → Prop} {Pt : T → Prop} (h : Ok m (fl Pn Pc Pb Pt)) (r : ∀ n, Pn n → Ok (k n) (fl Qn Pc Pb Pt)) : Ok (bindF m k) (fl Qn Pc Pb Pt) := by
  obtain ⟨a, rfl, p⟩ := h
  cases a with
  | nx n => exact r n p
  | ct n => exact ⟨_, rfl, p⟩
  | bk n => exact ⟨_, rfl, p⟩
  | rt n => exact ⟨_, rfl, p⟩
theorem nx {n : N} {Pn : N → Prop} {Pc Pb : L → Prop} {Pt : T → Prop} (h : Pn n) : Ok (.ok (.nx n) : R (Fl N L T)) (fl Pn Pc Pb Pt) := ⟨_, rfl, h⟩
theorem rt {n : T} {Pn : N → Prop} {Pc Pb : L → Prop} {Pt : T → Prop} (h : Pt n) : Ok (.ok (.rt n) : R (Fl N L T)) (fl Pn Pc Pb Pt) := ⟨_, rfl, h⟩
theorem ct {n : L} {Pn : N → Prop} {Pc Pb : L → Prop} {Pt : T → Prop} (h : Pc n) : Ok (.ok (.ct n) : R (Fl N L T)) (fl Pn Pc Pb Pt) := ⟨_, rfl, h⟩
theorem bk {n : L} {Pn : N → Prop} {Pc Pb : L → Prop} {Pt : T → Prop} (h : Pb n) : Ok (.ok (.bk n) : R (Fl N L T)) (fl Pn Pc Pb Pt) := ⟨_, rfl, h⟩
theorem f0 {m : R (Fl N L T)} {P : T → Prop} (h : Ok m (fl (fun _ => False) (fun _ => False) (fun _ => False) P)) : Ok (fin0 m) P := by
  obtain ⟨a, rfl, p⟩ := h
  cases a with
  | rt t => exact ⟨t, rfl, p⟩
  | nx _ => exact p.elim
  | ct _ => exact p.elim
  | bk _ => exact p.elim
theorem and2 {ma : R α} {xa : α → Bool} {mb : R Bool} {P : α → Prop} {Q : Bool → Prop} (h : Ok ma P) (k1 : ∀ a, P a → xa a = true → Ok mb Q) (k2 : ∀ a, P a → xa a = false → Q false) : Ok (DL.and2 ma xa mb) Q := by
  obtain ⟨a, rfl, p⟩ := h
  unfold DL.and2
  cases e : xa a with
  | true => exact bind1 rfl (iteT e (k1 a p e))
  | false => exact bind1 rfl (iteF e (ret (k2 a p e)))
theorem or2 {ma : R α} {xa : α → Bool} {mb : R Bool} {P : α → Prop} {Q : Bool → Prop} (h : Ok ma P) (k1 : ∀ a, P a → xa a = true → Q true) (k2 : ∀ a, P a → xa a = false → Ok mb Q) : Ok (DL.or2 ma xa mb) Q := by
  obtain ⟨a, rfl, p⟩ := h
  unfold DL.or2
  cases e : xa a with
  | true => exact bind1 rfl (iteT e (ret (k1 a p e)))
  | false => exact bind1 rfl (iteF e (k2 a p e))
theorem op2 {ma : R α} {mb : α → R β} {mr : α → β → R γ} {P : α → Prop} {P2 : α → β → Prop} {Q : α × β × γ → Prop} (h : Ok ma P) (k : ∀ a, P a → Ok (mb a) (P2 a)) (r : ∀ a b, P a → P2 a b → Ok (mr a b) fun c => Q (a, b, c)) : Ok (DL.op2 ma mb mr) Q := by
  unfold DL.op2
  refine h.bind fun a pa => (k a pa).bind fun b pb => (r a b pa pb).bind fun c q => ret q
theorem forR {f : α → S → R (Fl S S T)} (I : Nat → S → Prop) {Pn : S → Prop} {Pc Pb : L → Prop} {Pt : T → Prop} {xs : List α} {s : S} (h0 : I 0 s)
    (hs : ∀ i x s, xs[i]? = some x → I i s → Ok (f x s) (fl (I (i + 1)) (I (i + 1)) Pn Pt)) (hn : ∀ s, I xs.length s → Pn s) : Ok (DL.forR f xs s : R (Fl S L T)) (fl Pn Pc Pb Pt) := by
  have go : ∀ (ys : List α) (i : Nat) (s : S), (∀ k, ys[k]? = xs[i + k]?) → i + ys.length = xs.length → I i s → Ok (DL.forR f ys s : R (Fl S L T)) (fl Pn Pc Pb Pt) := by
    intro ys
    induction ys with
    | nil =>
      intro i s hk hl h
      rw [List.length_nil, Nat.add_zero] at hl
      exact ⟨_, rfl, hn s (hl ▸ h)⟩
    | cons y ys ih =>
      intro i s hk hl h
      have h1 := hs i y s (by rw [← Nat.add_zero i, ← hk 0]; rfl) h
      have nxt : ∀ s', I (i + 1) s' → Ok (DL.forR f ys s' : R (Fl S L T)) (fl Pn Pc Pb Pt) := fun s' h' => ih (i + 1) s' (fun k => by
        have := hk (k + 1)
        rw [show i + 1 + k = i + (k + 1) by omega, ← this]
        rfl) (by rw [List.length_cons] at hl; omega) h'
      obtain ⟨a, e, p⟩ := h1
      rw [DL.forR, e]
      cases a with
      | nx s' => exact nxt s' p
      | ct s' => exact nxt s' p
      | bk s' => exact ⟨_, rfl, p⟩
      | rt t => exact ⟨_, rfl, p⟩
  exact go xs 0 s (fun k => by rw [Nat.zero_add]) (by rw [Nat.zero_add]) h0
theorem forC {f : α → S → R (Fl S S T)} (I : S → Prop) {Pc Pb : L → Prop} {Pt : T → Prop} {xs : List α} {s : S} (h0 : I s)
    (hs : ∀ x ∈ xs, ∀ s, I s → Ok (f x s) (fl I I I Pt)) : Ok (DL.forR f xs s : R (Fl S L T)) (fl I Pc Pb Pt) :=
  forR (fun _ => I) h0 (fun i x s e h => hs x (List.mem_of_getElem? e) s h) fun _ h => h
theorem whR {c : S → R Bool} {f : S → R (Fl S S T)} (I : S → Prop) (μ : S → Nat) {Pn : S → Prop} {Pc Pb : L → Prop} {Pt : T → Prop} {s : S} (h0 : I s)
    (hs : ∀ s, I s → ∃ b, c s = .ok b ∧ (b = true → Ok (f s) (fl (fun s' => I s' ∧ μ s' < μ s) (fun s' => I s' ∧ μ s' < μ s) Pn Pt)) ∧ (b = false → Pn s)) : Ok (DL.whR c f s : R (Fl S L T)) (fl Pn Pc Pb Pt) := by
  have go : ∀ (n : Nat) (s : S), μ s < n → I s → ∃ r : Fl S L T, (DL.whN c f n s : R (Fl S L T)) = .ok r ∧ fl Pn Pc Pb Pt r := by
    intro n
    induction n with
    | zero => intro s h; omega
    | succ n ih =>
      intro s hm h
      obtain ⟨b, e, h1, h2⟩ := hs s h
      rw [DL.whN, e]
      cases b with
      | false => exact ⟨_, rfl, h2 rfl⟩
      | true =>
        obtain ⟨a, e2, p⟩ := h1 rfl
        simp only [R.bind, if_true, e2]
        cases a with
        | nx s' => exact ih s' (by have := p.2; omega) p.1
        | ct s' => exact ih s' (by have := p.2; omega) p.1
        | bk s' => exact ⟨_, rfl, p⟩
        | rt t => exact ⟨_, rfl, p⟩
  obtain ⟨r, e, p⟩ := go (μ s + 1) s (Nat.lt_succ_self _) h0
  refine ⟨r, ?_, p⟩
  rw [whR_of (n := μ s + 1) (by rw [e]; exact fun z => nomatch z)]
  exact e
theorem compF {c : α → S → R δ} {bn : δ → Bool} {me : α → S → R ε} {v : ε → γ} {st : ε → S} {x : α} {s : S} {P : δ → Prop} {Q : Option γ × S → Prop} (h : Ok (c x s) P) (k1 : ∀ d, P d → bn d = true → Ok (me x s) fun y => Q (some (v y), st y)) (k2 : ∀ d, P d → bn d = false → Q (none, s)) :
    Ok (DL.compF c bn me v st x s) Q := by
  unfold DL.compF
  refine h.bind fun d p => ite (fun e => (k1 d p e).bind fun y q => ret q) fun e => ret (k2 d p e)
theorem compR {f : α → S → R (Option γ × S)} (I : Nat → List γ → S → Prop) {xs : List α} {s : S} (h0 : I 0 [] s)
    (hs : ∀ i x acc s, xs[i]? = some x → I i acc s → Ok (f x s) fun p => I (i + 1) (match p.1 with | some v => acc ++ [v] | none => acc) p.2) : Ok (DL.compR f xs [] s) fun p => I xs.length p.1 p.2 := by
  have go : ∀ (ys : List α) (i : Nat) (acc : List γ) (s : S), (∀ k, ys[k]? = xs[i + k]?) → i + ys.length = xs.length → I i acc s → Ok (DL.compR f ys acc s) fun p => I xs.length p.1 p.2 := by
    intro ys
    induction ys with
    | nil =>
      intro i acc s hk hl h
      rw [List.length_nil, Nat.add_zero] at hl
      exact ⟨_, rfl, hl ▸ h⟩
    | cons y ys ih =>
      intro i acc s hk hl h
      have h1 := hs i y acc s (by rw [← Nat.add_zero i, ← hk 0]; rfl) h
      rw [DL.compR]
      refine h1.bind fun p q => ih (i + 1) _ _ (fun k => by
        have := hk (k + 1)
        rw [show i + 1 + k = i + (k + 1) by omega, ← this]
        rfl) (by rw [List.length_cons] at hl; omega) q
  exact go xs 0 [] s (fun k => by rw [Nat.zero_add]) (by rw [Nat.zero_add]) h0
end
end Ok
theorem rng_get {lo hi : Int} {i : Nat} {x : Int} (h : (rng lo hi)[i]? = some x) : x = lo + i ∧ x < hi := by
  unfold rng at h
  rw [List.getElem?_map] at h
  cases e : (List.range (hi - lo).toNat)[i]? with
  | none => rw [e] at h; cases h
  | some k =>
    rw [e] at h
    have h : lo + (k : Int) = x := by simpa using h
    obtain ⟨h1, h2⟩ := List.getElem?_eq_some_iff.mp e
    rw [List.getElem_range] at h2
    rw [List.length_range] at h1
    omega
theorem rng_len (lo hi : Int) : (rng lo hi).length = (hi - lo).toNat := by
  unfold rng
  rw [List.length_map, List.length_range]
theorem atI_nat {α : Type} {l : List α} {k : Int} {x : α} (h0 : 0 ≤ k) (h : l[k.toNat]? = some x) : atI l k = some x := by
  have hl := (List.getElem?_eq_some_iff.mp h).1
  unfold atI ixN
  rw [if_pos h0, if_pos (by omega)]
  exact h
end DL
namespace W
open PySem PySem.Spec L2 DL
def topS (i : Nat) : Stmt := PySem.Challenge.pw_restdraw_k31_solved.main.body.getD i (.Pass ⟨0, 0, 0, 0⟩)
structure Top (K : PySem.W.Frag) (mg : Str → Option Value) where
  law_pot : DT K mg "_law_pot" (topS 11) ["_law_script", "_law_k"]
  law_digit : DT K mg "_law_digit" (topS 12) ["_law_pot_here", "_law_many"]
  law_common : DT K mg "_law_common" (topS 13) ["_law_one", "_law_other"]
  law_cut : DT K mg "_law_cut" (topS 17) ["_law_n", "_law_d"]
  law_any_fraction : DT K mg "_law_any_fraction" (topS 18) ["_law_pot_here", "_law_most"]
  law_sum : DT K mg "_law_sum" (topS 19) ["_law_some"]
  law_made : DT K mg "_law_made" (topS 20) ["_law_pot_here", "_law_rows_here"]
  law_rows : DT K mg "_law_rows" (topS 21) ["_law_pot_here"]
  lead_at : DT K mg "lead_at" (topS 6) ["rows", "k"]
  taken_off : DT K mg "taken_off" (topS 7) ["row", "lead", "k", "last"]
  cleared : DT K mg "cleared" (topS 8) ["rows"]
  divisor : DT K mg "divisor" (topS 1) ["one", "other"]
  common_below : DT K mg "common_below" (topS 4) ["some"]
  whole_row : DT K mg "whole_row" (topS 5) ["row", "side"]
  fraction : DT K mg "fraction" (topS 2) ["n", "d"]
  solved : DT K mg "solved" (topS 9) ["rows", "sides"]
  law_shorter : DT K mg "_law_shorter" (topS 23) ["_law_row", "_law_lead"]
  law_is_lone : DT K mg "_law_is_lone" (topS 22) ["_law_rows_here"]
  law_is_fraction : DT K mg "_law_is_fraction" (topS 14) ["_law_one"]
  law_is_drawing : DT K mg "_law_is_drawing" (topS 15) ["_law_found", "_law_many"]
  law_comes : DT K mg "_law_comes" (topS 24) ["_law_row", "_law_points", "_law_side", "_law_axis"]
  law : DT K mg "law" (topS 25) ["_law_script"]
  z_abs : mg "abs" = none
  z_all : mg "all" = none
  z_bool : mg "bool" = none
  z_divmod : mg "divmod" = none
  z_enumerate : mg "enumerate" = none
  z_int : mg "int" = none
  z_isinstance : mg "isinstance" = none
  z_len : mg "len" = none
  z_list : mg "list" = none
  z_max : mg "max" = none
  z_min : mg "min" = none
  z_range : mg "range" = none
  z_repr : mg "repr" = none
  z_tuple : mg "tuple" = none
  z_zip : mg "zip" = none
abbrev s_law_pot : Stmt := topS 11
theorem sc_law_pot : FnScope ["_law_script", "_law_k", "_law_cell"] ["_law_script", "_law_k"] (defScope s_law_pot) := ⟨rfl, rfl, rfl, by decide +kernel, rfl, by decide +kernel, by decide +kernel⟩
noncomputable def mb_law_pot (v_script : List Int) (v_k : Int) : R (Fl Unit Unit (List Int)) :=
(((R.guard (List.length (cut v_script (some v_k) (some (v_k + (1 : Int)))) + List.length [(0 : Int)] ≤ sizeLine)).bind fun (x15 : Unit) => (R.some (atI ((cut v_script (some v_k) (some (v_k + (1 : Int)))) ++ [(0 : Int)]) (0 : Int))).bind fun (z17 : Int) => R.ok (x15, z17)).bind fun (b19 : (Unit × Int)) => lt b19.2 fun v_cell_18 =>
(R.ok (.rt [(max (0 : Int) (v_cell_18 - ((10 : Int) ^ (Int.toNat (18 : Int))))), (((((if v_cell_18 < 0 then -v_cell_18 else v_cell_18) + ((7919 : Int) * v_k)) + (3 : Int)) % (2147483629 : Int)) + (1 : Int))])))
noncomputable def m_law_pot (a : (List Int × Int)) : R (List Int) := fin0 (mb_law_pot a.1 a.2)
abbrev i_law_pot (a : (List Int × Int)) : List Slot := [.val (D.scr a.1), .val (D.int a.2)]
abbrev l_law_pot (b : (List Int)) : Slot := .own 0 ((oL D.int) b)
abbrev o_law_pot (b : (List Int)) : List Slot := [.non, .non]
theorem ok_law_pot {P : Program} {w : World} {K : PySem.W.Frag} {mg : Str → Option Value} {base : Heap} (T : Top K mg) : FnG P w K mg base CX0 1 T.law_pot.a T.law_pot.d ["_law_script", "_law_k"] (spM K i_law_pot m_law_pot l_law_pot o_law_pot) := by
  show FnG P w K mg base CX0 (0 + 1) T.law_pot.a T.law_pot.d ["_law_script", "_law_k"] (spM K i_law_pot (fun (a : (List Int × Int)) => fin0 (mb_law_pot a.1 a.2)) l_law_pot o_law_pot)
  refine fn_ok (n1 := fun _ => []) (c1 := fun _ => []) (k1 := fun _ => []) (ins := i_law_pot) (sl := l_law_pot) (outs := o_law_pot) (fun (a : (List Int × Int)) => mb_law_pot a.1 a.2) 1 T.law_pot.f sc_law_pot rfl (fun _ => rfl) (fun _ => rfl) (fun _ => rfl) (fun cdv A outer s H E hr B hB a => ?_)
  show JSs _ B _ _ (mb_law_pot a.1 a.2) _
  unfold mb_law_pot
  exact ((js_setEQ 2 D.int (fun (b19 : (Unit × Int)) => b19.2) (fun (b19 : (Unit × Int)) (v_cell_18 : Int) => [.val (D.scr a.1), .val (D.int a.2), .val (D.int v_cell_18)]) sc_law_pot.nd (je_opLG (ρa := fun _ => _) (s := fun (x15 : Unit) (z17 : Int) => (.val (D.int z17))) (xa := fun (x15 : Unit) => (eL D.int) ((cut a.1 (some a.2) (some (a.2 + (1 : Int)))) ++ [(0 : Int)])) (y := fun (x15 : Unit) => D.int (0 : Int)) (fun _ _ ha hb => pe_ix ix_list ha hb (fun _ _ => rfl)) (je_frzL (v := fun (b14 : Unit) => ((cut a.1 (some a.2) (some (a.2 + (1 : Int)))) ++ [(0 : Int)])) (je_op (fun _ _ ha hb => pe_op op_catR ha hb) (je_frzL (v := fun (b7 : Unit) => (cut a.1 (some a.2) (some (a.2 + (1 : Int))))) (je_slS (jp_var 0) (fun _ => (jo_some (jp_var 1))) (fun _ => (jo_some (je_op (fun _ _ ha hb => pe_op op_add ha hb) (jp_var 1) jp_int od_add))))) (je_frzL (v := fun (b13 : Unit) => [(0 : Int)]) (je_lstT D.int (fun (b12 : Unit) => ([(0 : Int)] : List Int)) (ja_p jp_int ja_nil))) od_catm)) (fun x15 => jp_int) (fun x15 => od_ixLm)) fun b19 v_cell_18 =>
(js_one (js_retP [(max (0 : Int) (v_cell_18 - ((10 : Int) ^ (Int.toNat (18 : Int))))), (((((if v_cell_18 < 0 then -v_cell_18 else v_cell_18) + ((7919 : Int) * a.2)) + (3 : Int)) % (2147483629 : Int)) + (1 : Int))] [false, false, false] (je_lstT D.int (fun (b34 : Unit) => ([(max (0 : Int) (v_cell_18 - ((10 : Int) ^ (Int.toNat (18 : Int))))), (((((if v_cell_18 < 0 then -v_cell_18 else v_cell_18) + ((7919 : Int) * a.2)) + (3 : Int)) % (2147483629 : Int)) + (1 : Int))] : List Int)) (ja_p (je_cb (fun _ ht => pe_callB (call_max2 rfl) (by rfl) T.z_max (by decide +kernel) ht) (ja_p jp_int (ja_p (je_op (fun _ _ ha hb => pe_op op_sub ha hb) (jp_var 2) (je_op (fun _ _ ha hb => pe_op op_pow ha hb) jp_int jp_int od_powC) od_sub) ja_nil)) cb_max) (ja_p (je_op (fun _ _ ha hb => pe_op op_add ha hb) (je_op (fun _ _ ha hb => pe_op op_mod ha hb) (je_op (fun _ _ ha hb => pe_op op_add ha hb) (je_op (fun _ _ ha hb => pe_op op_add ha hb) (je_cb (fun _ ht => pe_callB call_abs (by rfl) T.z_abs (by decide +kernel) ht) (ja_p (jp_var 2) ja_nil) cb_abs) (je_op (fun _ _ ha hb => pe_op op_mul ha hb) jp_int (jp_var 1) od_mulC) od_add) jp_int od_add) jp_int od_modC) jp_int od_add) ja_nil)))))))
abbrev s_law_digit : Stmt := topS 12
theorem sc_law_digit : FnScope ["_law_pot_here", "_law_many", "_law_digit_here"] ["_law_pot_here", "_law_many"] (defScope s_law_digit) := ⟨rfl, rfl, rfl, by decide +kernel, rfl, by decide +kernel, by decide +kernel⟩
noncomputable def mb_law_digit (v_pot_here : (List Int)) (v_many : Int) : R (Fl Unit Unit (Int × (List Int))) :=
(bindF ((R.some (atI v_pot_here (0 : Int))).bind fun (b42 : Int) => if (decide (b42 > (0 : Int))) = true then ((((R.some (atI v_pot_here (0 : Int))).bind fun (c44 : Int) => (R.guard (CDivP c44 v_many)).bind fun (z45 : Unit) => R.ok (c44, z45)).bind fun (b46 : (Int × Unit)) => ((R.some (ixN (List.length v_pot_here) (0 : Int))).bind fun (j47 : Nat) => (R.ok ()).bind fun (c_ : Unit) => R.ok (j47, c_)).bind fun (p48 : (Nat × Unit)) => R.ok (b46, p48)).bind fun (p49 : (Int × Unit) × (Nat × Unit)) =>
(R.ok (.rt ((p49.1.1 / v_many, p49.1.1 % v_many).2, (List.set v_pot_here p49.2.1 ((p49.1.1 / v_many, p49.1.1 % v_many).1)))))) else (R.ok (.nx ()))) fun n50 =>
(((R.some (atI v_pot_here (1 : Int))).bind fun (b60 : Int) => (R.some (ixN (List.length v_pot_here) (1 : Int))).bind fun (j61 : Nat) => R.ok (b60, j61)).bind fun (p62 : Int × Nat) =>
(((op2 (R.some (atI (List.set v_pot_here p62.2 (((p62.1 * (48271 : Int)) + (39373 : Int)) % (2147483647 : Int))) (1 : Int))) (fun (x63 : Int) => (R.some (atI (List.set v_pot_here p62.2 (((p62.1 * (48271 : Int)) + (39373 : Int)) % (2147483647 : Int))) (1 : Int)))) (fun (x63 : Int) (y64 : Int) => R.guard (CMulX x63 y64))).bind fun (x71 : (Int × Int × Unit)) => (R.guard (v_many ≠ (0 : Int))).bind fun (z73 : Unit) => R.ok (x71, z73)).bind fun (b74 : ((Int × Int × Unit) × Unit)) => R.ok (.rt ((Int.fmod (((b74.1.1 * b74.1.2.1) % (2147483629 : Int)) / (3 : Int)) v_many), (List.set v_pot_here p62.2 (((p62.1 * (48271 : Int)) + (39373 : Int)) % (2147483647 : Int))))))))
noncomputable def m_law_digit (a : ((List Int) × Int)) : R (Int × (List Int)) := fin0 (mb_law_digit a.1 a.2)
abbrev i_law_digit (a : ((List Int) × Int)) : List Slot := [.own 1 ((oL D.int) a.1), .val (D.int a.2)]
abbrev l_law_digit (b : (Int × (List Int))) : Slot := .val (D.int b.1)
abbrev o_law_digit (b : (Int × (List Int))) : List Slot := [.own 1 ((oL D.int) b.2), .non]
theorem ok_law_digit {P : Program} {w : World} {K : PySem.W.Frag} {mg : Str → Option Value} {base : Heap} (T : Top K mg) : FnG P w K mg base CX0 1 T.law_digit.a T.law_digit.d ["_law_pot_here", "_law_many"] (spM K i_law_digit m_law_digit l_law_digit o_law_digit) := by
  show FnG P w K mg base CX0 (0 + 1) T.law_digit.a T.law_digit.d ["_law_pot_here", "_law_many"] (spM K i_law_digit (fun (a : ((List Int) × Int)) => fin0 (mb_law_digit a.1 a.2)) l_law_digit o_law_digit)
  refine fn_ok (n1 := fun _ => []) (c1 := fun _ => []) (k1 := fun _ => []) (ins := i_law_digit) (sl := l_law_digit) (outs := o_law_digit) (fun (a : ((List Int) × Int)) => mb_law_digit a.1 a.2) 1 T.law_digit.f sc_law_digit rfl (fun _ => rfl) (fun _ => rfl) (fun _ => rfl) (fun cdv A outer s H E hr B hB a => ?_)
  show JSs _ B _ _ (mb_law_digit a.1 a.2) _
  unfold mb_law_digit
  exact ((js_cons (ρ1 := fun (n50 : Unit) => [.own 1 ((oL D.int) a.1), .val (D.int a.2), .non]) (js_if (jt_opL (ρa := fun _ => _) (bn := fun (x39 : Int) => (decide (x39 > (0 : Int)))) (xa := fun (x39 : Int) => D.int x39) (y := fun (x39 : Int) => D.int (0 : Int)) (fun _ _ ha hb => pt_cmpR op_gt ha hb (nomark _)) (je_ixO 0 (xs := a.1) (en := D.int) (k := (0 : Int)) rfl jp_int) (fun x39 => jp_int) (fun x39 => od_gt)) (fun b42 => (js_consQ1 (fun (p49 : (Int × Unit) × (Nat × Unit)) => [.own 1 ((oL D.int) (List.set a.1 p49.2.1 ((p49.1.1 / a.2, p49.1.1 % a.2).1))), .val (D.int a.2), .val (D.int ((p49.1.1 / a.2, p49.1.1 % a.2).2))]) (j1_asg (d := fun (b46 : (Int × Unit)) => (eP2 D.int D.int) (b46.1 / a.2, b46.1 % a.2)) (je_cb2 (ρa := fun _ => _) (s := fun (c44 : Int) (z45 : Unit) => .val ((eP2 D.int D.int) (c44 / a.2, c44 % a.2))) (fun _ ht => pe_callB call_divmodW (by rfl) T.z_divmod (by decide +kernel) ht) (ja_el (ρa := fun _ => _) (xa := fun (x43 : Int) => D.int x43) (je_ixO 0 (xs := a.1) (en := D.int) (k := (0 : Int)) rfl jp_int) (fun x43 => (ja_p (jp_var 1) ja_nil))) (fun c44 => cb_divmod)) (fun b46 => jg_tup rfl (jgs_cons (jg_sub 0 (xs := a.1) (en := D.int) (y := (b46.1 / a.2, b46.1 % a.2).1) (k := (0 : Int)) rfl jp_int) (fun j47 => (jgs_p (jg_name 2 sc_law_digit.nd) jgs_nil))))) fun p49 =>
(js_one (js_retP ((p49.1.1 / a.2, p49.1.1 % a.2).2, (List.set a.1 p49.2.1 ((p49.1.1 / a.2, p49.1.1 % a.2).1))) [true, false, false] (jp_var 2))))) (fun b42 => (js_nil [true, true, true] ()))) fun n50 =>
(js_consQ1 (fun (p62 : Int × Nat) => [.own 1 ((oL D.int) (List.set a.1 p62.2 (((p62.1 * (48271 : Int)) + (39373 : Int)) % (2147483647 : Int)))), .val (D.int a.2), .non]) (j1_asg (d := fun (b60 : Int) => D.int (((b60 * (48271 : Int)) + (39373 : Int)) % (2147483647 : Int))) (je_opL (ρa := fun _ => _) (s := fun (x57 : Int) => (.val (D.int (((x57 * (48271 : Int)) + (39373 : Int)) % (2147483647 : Int))))) (xa := fun (x57 : Int) => D.int ((x57 * (48271 : Int)) + (39373 : Int))) (y := fun (x57 : Int) => D.int (2147483647 : Int)) (fun _ _ ha hb => pe_op op_mod ha hb) (je_opL (ρa := fun _ => _) (s := fun (x54 : Int) => (.val (D.int ((x54 * (48271 : Int)) + (39373 : Int))))) (xa := fun (x54 : Int) => D.int (x54 * (48271 : Int))) (y := fun (x54 : Int) => D.int (39373 : Int)) (fun _ _ ha hb => pe_op op_add ha hb) (je_opL (ρa := fun _ => _) (s := fun (x51 : Int) => (.val (D.int (x51 * (48271 : Int))))) (xa := fun (x51 : Int) => D.int x51) (y := fun (x51 : Int) => D.int (48271 : Int)) (fun _ _ ha hb => pe_op op_mul ha hb) (je_ixO 0 (xs := a.1) (en := D.int) (k := (1 : Int)) rfl jp_int) (fun x51 => jp_int) (fun x51 => od_mulC)) (fun x54 => jp_int) (fun x54 => od_add)) (fun x57 => jp_int) (fun x57 => od_modC)) (fun b60 => (jg_sub 0 (xs := a.1) (en := D.int) (y := (((b60 * (48271 : Int)) + (39373 : Int)) % (2147483647 : Int))) (k := (1 : Int)) rfl jp_int))) fun p62 =>
(js_one (js_ret (fun (b74 : ((Int × Int × Unit) × Unit)) => ((Int.fmod (((b74.1.1 * b74.1.2.1) % (2147483629 : Int)) / (3 : Int)) a.2), (List.set a.1 p62.2 (((p62.1 * (48271 : Int)) + (39373 : Int)) % (2147483647 : Int))))) [true, false, true] (je_opLG (ρa := fun _ => _) (s := fun (x71 : (Int × Int × Unit)) (z73 : Unit) => (.val (D.int (Int.fmod (((x71.1 * x71.2.1) % (2147483629 : Int)) / (3 : Int)) a.2)))) (xa := fun (x71 : (Int × Int × Unit)) => D.int (((x71.1 * x71.2.1) % (2147483629 : Int)) / (3 : Int))) (y := fun (x71 : (Int × Int × Unit)) => D.int a.2) (fun _ _ ha hb => pe_op op_modN ha hb) (je_opL (ρa := fun _ => _) (s := fun (x68 : (Int × Int × Unit)) => (.val (D.int (((x68.1 * x68.2.1) % (2147483629 : Int)) / (3 : Int))))) (xa := fun (x68 : (Int × Int × Unit)) => D.int ((x68.1 * x68.2.1) % (2147483629 : Int))) (y := fun (x68 : (Int × Int × Unit)) => D.int (3 : Int)) (fun _ _ ha hb => pe_op op_fdiv ha hb) (je_opL (ρa := fun _ => _) (s := fun (x65 : (Int × Int × Unit)) => (.val (D.int ((x65.1 * x65.2.1) % (2147483629 : Int))))) (xa := fun (x65 : (Int × Int × Unit)) => D.int (x65.1 * x65.2.1)) (y := fun (x65 : (Int × Int × Unit)) => D.int (2147483629 : Int)) (fun _ _ ha hb => pe_op op_mod ha hb) (je_op2 (ρa := fun _ => _) (ρb := fun _ _ => _) (s := fun (x63 : Int) (y64 : Int) (z0 : Unit) => (.val (D.int (x63 * y64)))) (xa := fun (x63 : Int) => D.int x63) (xb := fun (x63 : Int) (y64 : Int) => D.int y64) (fun _ _ ha hb => pe_op op_mulX ha hb) (je_ixO 0 (xs := (List.set a.1 p62.2 (((p62.1 * (48271 : Int)) + (39373 : Int)) % (2147483647 : Int)))) (en := D.int) (k := (1 : Int)) rfl jp_int) (fun x63 => (je_ixO 0 (xs := (List.set a.1 p62.2 (((p62.1 * (48271 : Int)) + (39373 : Int)) % (2147483647 : Int)))) (en := D.int) (k := (1 : Int)) rfl jp_int)) (fun x63 y64 => od_mul)) (fun x65 => jp_int) (fun x65 => od_modC)) (fun x68 => jp_int) (fun x68 => od_fdivC)) (fun x71 => (jp_var 1)) (fun x71 => od_mod)))))))
abbrev s_law_common : Stmt := topS 13
theorem sc_law_common : FnScope ["_law_one", "_law_other", "_law_a", "_law_b"] ["_law_one", "_law_other"] (defScope s_law_common) := ⟨rfl, rfl, rfl, by decide +kernel, rfl, by decide +kernel, by decide +kernel⟩
noncomputable def mb_law_common (v_one : Int) (v_other : Int) : R (Fl Unit Unit Int) :=
(bindF (whR (fun (s162 : (Int × Int)) => R.ok (decide (s162.2 > (0 : Int)))) (fun s162 =>
((R.guard (s162.2 ≠ (0 : Int))).bind fun (b170 : Unit) =>
(R.ok (.nx (s162.2, (Int.fmod s162.1 s162.2)))))) (v_one, v_other)) fun n163 =>
(R.ok (.rt n163.1)))
noncomputable def m_law_common (a : (Int × Int)) : R Int := fin0 (mb_law_common a.1 a.2)
abbrev i_law_common (a : (Int × Int)) : List Slot := [.val (D.int a.1), .val (D.int a.2)]
abbrev l_law_common (b : Int) : Slot := .val (D.int b)
abbrev o_law_common (b : Int) : List Slot := [.non, .non]
theorem ok_law_common {P : Program} {w : World} {K : PySem.W.Frag} {mg : Str → Option Value} {base : Heap} (T : Top K mg) : FnG P w K mg base CX0 1 T.law_common.a T.law_common.d ["_law_one", "_law_other"] (spM K i_law_common m_law_common l_law_common o_law_common) := by
  show FnG P w K mg base CX0 (0 + 1) T.law_common.a T.law_common.d ["_law_one", "_law_other"] (spM K i_law_common (fun (a : (Int × Int)) => fin0 (mb_law_common a.1 a.2)) l_law_common o_law_common)
  refine fn_ok (n1 := fun _ => []) (c1 := fun _ => []) (k1 := fun _ => []) (ins := i_law_common) (sl := l_law_common) (outs := o_law_common) (fun (a : (Int × Int)) => mb_law_common a.1 a.2) 2 T.law_common.f sc_law_common rfl (fun _ => rfl) (fun _ => rfl) (fun _ => rfl) (fun cdv A outer s H E hr B hB a => ?_)
  show JSs _ B _ _ (mb_law_common a.1 a.2) _
  unfold mb_law_common
  exact ((js_consQP [.val (D.int a.1), .val (D.int a.2), .val (D.int a.1), .val (D.int a.2)] (j1_par 2 3 (d1 := fun (b161 : Unit) => D.int a.1) (d2 := fun (b161 : Unit) => D.int a.2) rfl sc_law_common.nd (ja_p (jp_var 0) (ja_p (jp_var 1) ja_nil)))
(js_cons (ρ1 := fun (n163 : (Int × Int)) => [.val (D.int a.1), .val (D.int a.2), .val (D.int n163.1), .val (D.int n163.2)]) (js_while (fun (s162 : (Int × Int)) => [.val (D.int a.1), .val (D.int a.2), .val (D.int s162.1), .val (D.int s162.2)]) PassesOwn.never (a.1, a.2) [true, true, true, true] rfl (fun s162 => (jt_pb (jt_op (fun _ _ ha hb => pt_cmpR op_gt ha hb (nomark _)) (jp_var 3) jp_int od_gt))) (fun s162 =>
(js_consQ1 (fun (b170 : Unit) => [.val (D.int a.1), .val (D.int a.2), .val (D.int s162.2), .val (D.int (Int.fmod s162.1 s162.2))]) (j1_par 2 3 (d1 := fun (b170 : Unit) => D.int s162.2) (d2 := fun (b170 : Unit) => D.int (Int.fmod s162.1 s162.2)) rfl sc_law_common.nd (ja_p (jp_var 3) (ja_el (ρa := fun _ => _) (xa := fun (x169 : Unit) => D.int (Int.fmod s162.1 s162.2)) (je_op (fun _ _ ha hb => pe_op op_modN ha hb) (jp_var 2) (jp_var 3) od_mod) (fun x169 => ja_nil)))) fun b170 =>
(js_nil [true, true, true, true] (s162.2, (Int.fmod s162.1 s162.2)))))) fun n163 =>
(js_one (js_retP n163.1 [false, false, false, false] (jp_var 2))))))
abbrev s_law_cut : Stmt := topS 17
theorem sc_law_cut : FnScope ["_law_n", "_law_d", "_law_by"] ["_law_n", "_law_d"] (defScope s_law_cut) := ⟨rfl, rfl, rfl, by decide +kernel, rfl, by decide +kernel, by decide +kernel⟩
noncomputable def mb_law_cut (v_n : Int) (v_d : Int) : R (Fl Unit Unit (Int × Int)) :=
((m_law_common ((if v_n < 0 then -v_n else v_n), v_d)).bind fun (b172 : Int) => lt b172 fun v_by_171 =>
(((R.guard (divOk v_n v_by_171)).bind fun (x175 : Unit) => (R.guard (divOk v_d v_by_171)).bind fun (z179 : Unit) => R.ok (x175, z179)).bind fun (b180 : (Unit × Unit)) => R.ok (.rt ((Int.fdiv v_n v_by_171), (Int.fdiv v_d v_by_171)))))
noncomputable def m_law_cut (a : (Int × Int)) : R (Int × Int) := fin0 (mb_law_cut a.1 a.2)
abbrev i_law_cut (a : (Int × Int)) : List Slot := [.val (D.int a.1), .val (D.int a.2)]
abbrev l_law_cut (b : (Int × Int)) : Slot := .val ((eP2 D.int D.int) b)
abbrev o_law_cut (b : (Int × Int)) : List Slot := [.non, .non]
theorem ok_law_cut {P : Program} {w : World} {K : PySem.W.Frag} {mg : Str → Option Value} {base : Heap} (T : Top K mg) : FnG P w K mg base CX0 2 T.law_cut.a T.law_cut.d ["_law_n", "_law_d"] (spM K i_law_cut m_law_cut l_law_cut o_law_cut) := by
  show FnG P w K mg base CX0 (1 + 1) T.law_cut.a T.law_cut.d ["_law_n", "_law_d"] (spM K i_law_cut (fun (a : (Int × Int)) => fin0 (mb_law_cut a.1 a.2)) l_law_cut o_law_cut)
  refine fn_ok (n1 := fun _ => []) (c1 := fun _ => []) (k1 := fun _ => []) (ins := i_law_cut) (sl := l_law_cut) (outs := o_law_cut) (fun (a : (Int × Int)) => mb_law_cut a.1 a.2) 1 T.law_cut.f sc_law_cut rfl (fun _ => rfl) (fun _ => rfl) (fun _ => rfl) (fun cdv A outer s H E hr B hB a => ?_)
  show JSs _ B _ _ (mb_law_cut a.1 a.2) _
  unfold mb_law_cut
  exact ((js_setEQ 2 D.int (fun (b172 : Int) => b172) (fun (b172 : Int) (v_by_171 : Int) => [.val (D.int a.1), .val (D.int a.2), .val (D.int v_by_171)]) sc_law_cut.nd (je_callV (ins := i_law_common) (mf := m_law_common) (sl := l_law_common) (outs := o_law_common) (ok_law_common T) (hr.mono (by decide)) (by rfl) T.law_common.g T.law_common.f.kp T.law_common.b pass0 (arg := ((if a.1 < 0 then -a.1 else a.1), a.2)) (ja_p (je_cb (fun _ ht => pe_callB call_abs (by rfl) T.z_abs (by decide +kernel) ht) (ja_p (jp_var 0) ja_nil) cb_abs) (ja_p (jp_var 1) ja_nil)) hB) fun b172 v_by_171 =>
(js_one (js_ret (fun (b180 : (Unit × Unit)) => ((Int.fdiv a.1 v_by_171), (Int.fdiv a.2 v_by_171))) [false, false, false] (je_tup (ja_e (ρ' := fun _ _ => _) (ρa := fun _ => _) (xa := fun (x175 : Unit) => D.int (Int.fdiv a.1 v_by_171)) (je_op (fun _ _ ha hb => pe_op op_fdivZ ha hb) (jp_var 0) (jp_var 2) od_fdiv) (fun x175 => (ja_el (ρa := fun _ => _) (xa := fun (x178 : Unit) => D.int (Int.fdiv a.2 v_by_171)) (je_op (fun _ _ ha hb => pe_op op_fdivZ ha hb) (jp_var 1) (jp_var 2) od_fdiv) (fun x178 => ja_nil)))))))))
abbrev s_law_any_fraction : Stmt := topS 18
theorem sc_law_any_fraction : FnScope ["_law_pot_here", "_law_most"] ["_law_pot_here", "_law_most"] (defScope s_law_any_fraction) := ⟨rfl, rfl, rfl, by decide +kernel, rfl, by decide +kernel, by decide +kernel⟩
noncomputable def mb_law_any_fraction (v_pot_here : (List Int)) (v_most : Int) : R (Fl Unit Unit ((Int × Int) × (List Int))) :=
(bindF ((m_law_digit (v_pot_here, (4 : Int))).bind fun (b159 : (Int × (List Int))) => if (decide (b159.1 = (0 : Int))) = true then (R.ok (.rt (((0 : Int), (1 : Int)), b159.2))) else (R.ok (.nx b159.2))) fun n160 =>
((((m_law_digit (n160, (((2 : Int) * v_most) + (1 : Int)))).bind fun (x189 : (Int × (List Int))) => (((m_law_digit (x189.2, (3 : Int))).bind fun (y195 : (Int × (List Int))) => (R.some (atI [(1 : Int), (6 : Int), v_most] y195.1)).bind fun (z197 : Int) => R.ok (y195, z197)).bind fun (c199 : ((Int × (List Int)) × Int)) => (m_law_digit (c199.1.2, c199.2)).bind fun (z200 : (Int × (List Int))) => R.ok (c199, z200)).bind fun (z204 : (((Int × (List Int)) × Int) × (Int × (List Int)))) => R.ok (x189, z204)).bind fun (c205 : ((Int × (List Int)) × (((Int × (List Int)) × Int) × (Int × (List Int))))) => (m_law_cut ((c205.1.1 - v_most), ((1 : Int) + c205.2.2.1))).bind fun (z206 : (Int × Int)) => R.ok (c205, z206)).bind fun (b207 : (((Int × (List Int)) × (((Int × (List Int)) × Int) × (Int × (List Int)))) × (Int × Int))) => R.ok (.rt (b207.2, b207.1.2.2.2))))
noncomputable def m_law_any_fraction (a : ((List Int) × Int)) : R ((Int × Int) × (List Int)) := fin0 (mb_law_any_fraction a.1 a.2)
abbrev i_law_any_fraction (a : ((List Int) × Int)) : List Slot := [.own 1 ((oL D.int) a.1), .val (D.int a.2)]
abbrev l_law_any_fraction (b : ((Int × Int) × (List Int))) : Slot := .val ((eP2 D.int D.int) b.1)
abbrev o_law_any_fraction (b : ((Int × Int) × (List Int))) : List Slot := [.own 1 ((oL D.int) b.2), .non]
theorem ok_law_any_fraction {P : Program} {w : World} {K : PySem.W.Frag} {mg : Str → Option Value} {base : Heap} (T : Top K mg) : FnG P w K mg base CX0 3 T.law_any_fraction.a T.law_any_fraction.d ["_law_pot_here", "_law_most"] (spM K i_law_any_fraction m_law_any_fraction l_law_any_fraction o_law_any_fraction) := by
  show FnG P w K mg base CX0 (2 + 1) T.law_any_fraction.a T.law_any_fraction.d ["_law_pot_here", "_law_most"] (spM K i_law_any_fraction (fun (a : ((List Int) × Int)) => fin0 (mb_law_any_fraction a.1 a.2)) l_law_any_fraction o_law_any_fraction)
  refine fn_ok (n1 := fun _ => []) (c1 := fun _ => []) (k1 := fun _ => []) (ins := i_law_any_fraction) (sl := l_law_any_fraction) (outs := o_law_any_fraction) (fun (a : ((List Int) × Int)) => mb_law_any_fraction a.1 a.2) 0 T.law_any_fraction.f sc_law_any_fraction rfl (fun _ => rfl) (fun _ => rfl) (fun _ => rfl) (fun cdv A outer s H E hr B hB a => ?_)
  show JSs _ B _ _ (mb_law_any_fraction a.1 a.2) _
  unfold mb_law_any_fraction
  exact ((js_cons (ρ1 := fun (n160 : (List Int)) => [.own 1 ((oL D.int) n160), .val (D.int a.2)]) (js_if (jt_opL (bn := fun (x156 : (Int × (List Int))) => (decide (x156.1 = (0 : Int)))) (xa := fun (x156 : (Int × (List Int))) => D.int x156.1) (y := fun (x156 : (Int × (List Int))) => D.int (0 : Int)) (fun _ _ ha hb => pt_cmpR op_eq ha hb (nomark _)) (je_callQ (ins := i_law_digit) (mf := m_law_digit) (sl := l_law_digit) (outs := o_law_digit) (ok_law_digit T) (hr.mono (by decide)) (by rfl) T.law_digit.g T.law_digit.f.kp T.law_digit.b pass0 (arg := (a.1, (4 : Int))) (fun (b155 : (Int × (List Int))) => [.own 1 ((oL D.int) b155.2), .val (D.int a.2)]) (ja_s 0 (ja_p jp_int ja_nil)) hB) (fun x156 => jp_int) (fun x156 => od_eqI)) (fun b159 => (js_one (js_retP (((0 : Int), (1 : Int)), b159.2) [true, false] (je_tup (ja_p jp_int (ja_p jp_int ja_nil)))))) (fun b159 => (js_nil [true, true] b159.2))) fun n160 =>
(js_one (js_ret (fun (b207 : (((Int × (List Int)) × (((Int × (List Int)) × Int) × (Int × (List Int)))) × (Int × Int))) => (b207.2, b207.1.2.2.2)) [true, false] (je_callVE (ρa := fun (c205 : ((Int × (List Int)) × (((Int × (List Int)) × Int) × (Int × (List Int))))) => [.own 1 ((oL D.int) c205.2.2.2), .val (D.int a.2)]) (ins := i_law_cut) (mf := m_law_cut) (sl := l_law_cut) (outs := o_law_cut) (ok_law_cut T) (hr.mono (by decide)) (by rfl) T.law_cut.g T.law_cut.f.kp T.law_cut.b pass0 (arg := fun (c205 : ((Int × (List Int)) × (((Int × (List Int)) × Int) × (Int × (List Int))))) => ((c205.1.1 - a.2), ((1 : Int) + c205.2.2.1))) (ja_e (xa := fun (x189 : (Int × (List Int))) => D.int (x189.1 - a.2)) (je_opL (s := fun (x186 : (Int × (List Int))) => (.val (D.int (x186.1 - a.2)))) (xa := fun (x186 : (Int × (List Int))) => D.int x186.1) (y := fun (x186 : (Int × (List Int))) => D.int a.2) (fun _ _ ha hb => pe_op op_sub ha hb) (je_callQ (ins := i_law_digit) (mf := m_law_digit) (sl := l_law_digit) (outs := o_law_digit) (ok_law_digit T) (hr.mono (by decide)) (by rfl) T.law_digit.g T.law_digit.f.kp T.law_digit.b pass0 (arg := (n160, (((2 : Int) * a.2) + (1 : Int)))) (fun (b185 : (Int × (List Int))) => [.own 1 ((oL D.int) b185.2), .val (D.int a.2)]) (ja_s 0 (ja_p (je_op (fun _ _ ha hb => pe_op op_add ha hb) (je_op (fun _ _ ha hb => pe_op op_mul ha hb) jp_int (jp_var 1) od_mulC) jp_int od_add) ja_nil)) hB) (fun x186 => (jp_var 1)) (fun x186 => od_sub)) (fun x189 => (ja_el (xa := fun (x203 : (((Int × (List Int)) × Int) × (Int × (List Int)))) => D.int ((1 : Int) + x203.2.1)) (je_opR (s := fun (y191 : (((Int × (List Int)) × Int) × (Int × (List Int)))) => (.val (D.int ((1 : Int) + y191.2.1)))) (xb := fun (y191 : (((Int × (List Int)) × Int) × (Int × (List Int)))) => D.int y191.2.1) (fun _ _ ha hb => pe_op op_add ha hb) jp_int (je_callQE (ins := i_law_digit) (mf := m_law_digit) (sl := l_law_digit) (outs := o_law_digit) (ok_law_digit T) (hr.mono (by decide)) (by rfl) T.law_digit.g T.law_digit.f.kp T.law_digit.b pass0 (arg := fun (c199 : ((Int × (List Int)) × Int)) => (c199.1.2, c199.2)) (fun (b201 : ((Int × (List Int)) × Int) × (Int × (List Int))) => [.own 1 ((oL D.int) b201.2.2), .val (D.int a.2)]) (ja_s 0 (ja_el (xa := fun (x198 : ((Int × (List Int)) × Int)) => D.int x198.2) (je_opRG (s := fun (y195 : (Int × (List Int))) (z197 : Int) => (.val (D.int z197))) (xb := fun (y195 : (Int × (List Int))) => D.int y195.1) (fun _ _ ha hb => pe_ix ix_list ha hb (fun _ _ => rfl)) (je_frzL (v := fun (b193 : Unit) => [(1 : Int), (6 : Int), a.2]) (je_lstT D.int (fun (b192 : Unit) => ([(1 : Int), (6 : Int), a.2] : List Int)) (ja_p jp_int (ja_p jp_int (ja_p (jp_var 1) ja_nil))))) (je_callQ (ins := i_law_digit) (mf := m_law_digit) (sl := l_law_digit) (outs := o_law_digit) (ok_law_digit T) (hr.mono (by decide)) (by rfl) T.law_digit.g T.law_digit.f.kp T.law_digit.b pass0 (arg := (x189.2, (3 : Int))) (fun (b196 : (Int × (List Int))) => [.own 1 ((oL D.int) b196.2), .val (D.int a.2)]) (ja_s 0 (ja_p jp_int ja_nil)) hB) (fun y195 => od_ixLm)) (fun x198 => ja_nil))) hB) (fun y191 => od_add)) (fun x203 => ja_nil)))) hB)))))
abbrev s_law_sum : Stmt := topS 19
theorem sc_law_sum : FnScope ["_law_some", "_law_n", "_law_d", "_law_one", "_law_other"] ["_law_some"] (defScope s_law_sum) := ⟨rfl, rfl, rfl, by decide +kernel, rfl, by decide +kernel, by decide +kernel⟩
noncomputable def mb_law_sum (v_some : (List (Int × Int))) : R (Fl Unit Unit (Int × Int)) :=
(bindF (forR (fun (x244 : (Int × Int)) (s242 : (Int × Int)) =>
(((op2 (R.guard (CMulX s242.1 x244.2)) (fun (x247 : Unit) => R.guard (CMulX x244.1 s242.2)) (fun (x247 : Unit) (y248 : Unit) => R.ok ())).bind fun (x251 : (Unit × Unit × Unit)) => (R.guard (CMulX s242.2 x244.2)).bind fun (z255 : Unit) => R.ok (x251, z255)).bind fun (b256 : ((Unit × Unit × Unit) × Unit)) =>
(R.ok (.nx (((s242.1 * x244.2) + (x244.1 * s242.2)), (s242.2 * x244.2)))))) v_some (((0 : Int), (1 : Int)).1, ((0 : Int), (1 : Int)).2)) fun n243 =>
((m_law_cut (n243.1, n243.2)).bind fun (b257 : (Int × Int)) => R.ok (.rt b257)))
noncomputable def m_law_sum (a : (List (Int × Int))) : R (Int × Int) := fin0 (mb_law_sum a)
abbrev i_law_sum (a : (List (Int × Int))) : List Slot := [.val ((eL (eP2 D.int D.int)) a)]
abbrev l_law_sum (b : (Int × Int)) : Slot := .val ((eP2 D.int D.int) b)
abbrev o_law_sum (b : (Int × Int)) : List Slot := [.non]
theorem ok_law_sum {P : Program} {w : World} {K : PySem.W.Frag} {mg : Str → Option Value} {base : Heap} (T : Top K mg) : FnG P w K mg base CX0 3 T.law_sum.a T.law_sum.d ["_law_some"] (spM K i_law_sum m_law_sum l_law_sum o_law_sum) := by
  show FnG P w K mg base CX0 (2 + 1) T.law_sum.a T.law_sum.d ["_law_some"] (spM K i_law_sum (fun (a : (List (Int × Int))) => fin0 (mb_law_sum a)) l_law_sum o_law_sum)
  refine fn_ok (n1 := fun _ => []) (c1 := fun _ => []) (k1 := fun _ => []) (ins := i_law_sum) (sl := l_law_sum) (outs := o_law_sum) (fun (a : (List (Int × Int))) => mb_law_sum a) 4 T.law_sum.f sc_law_sum rfl (fun _ => rfl) (fun _ => rfl) (fun _ => rfl) (fun cdv A outer s H E hr B hB a => ?_)
  show JSs _ B _ _ (mb_law_sum a) _
  unfold mb_law_sum
  exact ((js_consQP [.val ((eL (eP2 D.int D.int)) a), .val (D.int (((0 : Int), (1 : Int)).1)), .val (D.int (((0 : Int), (1 : Int)).2)), .non, .non] (j1_asgN (d := fun (b240 : Unit) => (eP2 D.int D.int) ((0 : Int), (1 : Int))) (je_tup (ja_p jp_int (ja_p jp_int ja_nil))) (fun b240 => jg_tup rfl (jgs_p (jg_name 1 sc_law_sum.nd) (jgs_p (jg_name 2 sc_law_sum.nd) jgs_nil))))
(js_cons (ρ1 := fun (n243 : (Int × Int)) => [.val ((eL (eP2 D.int D.int)) a), .val (D.int n243.1), .val (D.int n243.2), .non, .non]) (js_forP (en := (eP2 D.int D.int)) (fun (s242 : (Int × Int)) => [.val ((eL (eP2 D.int D.int)) a), .val (D.int s242.1), .val (D.int s242.2), .non, .non]) (fun (x244 : (Int × Int)) (s242 : (Int × Int)) => [.val ((eL (eP2 D.int D.int)) a), .val (D.int s242.1), .val (D.int s242.2), .val (D.int x244.1), .val (D.int x244.2)]) PassesOwn.never rfl (ji_list (jp_var 0)) [true, true, true, true, true] rfl (fun x244 s242 => (jg_tup rfl (jgs_p (jg_name 3 sc_law_sum.nd) (jgs_p (jg_name 4 sc_law_sum.nd) jgs_nil)))) (fun x244 s242 =>
(js_consQ1 (fun (b256 : ((Unit × Unit × Unit) × Unit)) => [.val ((eL (eP2 D.int D.int)) a), .val (D.int ((s242.1 * x244.2) + (x244.1 * s242.2))), .val (D.int (s242.2 * x244.2)), .val (D.int x244.1), .val (D.int x244.2)]) (j1_par 1 2 (d1 := fun (b256 : ((Unit × Unit × Unit) × Unit)) => D.int ((s242.1 * x244.2) + (x244.1 * s242.2))) (d2 := fun (b256 : ((Unit × Unit × Unit) × Unit)) => D.int (s242.2 * x244.2)) rfl sc_law_sum.nd (ja_e (ρ' := fun _ _ => _) (ρa := fun _ => _) (xa := fun (x251 : (Unit × Unit × Unit)) => D.int ((s242.1 * x244.2) + (x244.1 * s242.2))) (je_op2 (ρa := fun _ => _) (ρb := fun _ _ => _) (s := fun (x247 : Unit) (y248 : Unit) (z0 : Unit) => (.val (D.int ((s242.1 * x244.2) + (x244.1 * s242.2))))) (xa := fun (x247 : Unit) => D.int (s242.1 * x244.2)) (xb := fun (x247 : Unit) (y248 : Unit) => D.int (x244.1 * s242.2)) (fun _ _ ha hb => pe_op op_add ha hb) (je_op (fun _ _ ha hb => pe_op op_mulX ha hb) (jp_var 1) (jp_var 4) od_mul) (fun x247 => (je_op (fun _ _ ha hb => pe_op op_mulX ha hb) (jp_var 3) (jp_var 2) od_mul)) (fun x247 y248 => od_add)) (fun x251 => (ja_el (ρa := fun _ => _) (xa := fun (x254 : Unit) => D.int (s242.2 * x244.2)) (je_op (fun _ _ ha hb => pe_op op_mulX ha hb) (jp_var 2) (jp_var 4) od_mul) (fun x254 => ja_nil))))) fun b256 =>
(js_nil [true, true, true, false, false] (((s242.1 * x244.2) + (x244.1 * s242.2)), (s242.2 * x244.2)))))) fun n243 =>
(js_one (js_ret (fun (b257 : (Int × Int)) => b257) [false, false, false, true, true] (je_callV (ins := i_law_cut) (mf := m_law_cut) (sl := l_law_cut) (outs := o_law_cut) (ok_law_cut T) (hr.mono (by decide)) (by rfl) T.law_cut.g T.law_cut.f.kp T.law_cut.b pass0 (arg := (n243.1, n243.2)) (ja_p (jp_var 1) (ja_p (jp_var 2) ja_nil)) hB))))))
abbrev s_law_made : Stmt := topS 20
theorem sc_law_made : FnScope ["_law_pot_here", "_law_rows_here", "_law_times_each", "_law_found", "_law_k", "_law_row", "_law_many"] ["_law_pot_here", "_law_rows_here"] (defScope s_law_made) := ⟨rfl, rfl, rfl, by decide +kernel, rfl, by decide +kernel, by decide +kernel⟩
noncomputable def mb_law_made (v_pot_here : (List Int)) (v_rows_here : (List (List (Int × Int)))) : R (Fl Unit Unit ((List (List (Int × Int))) × (List Int))) :=
(((R.ok ()).bind fun (b220 : Unit) => (R.guard (List.length (cut v_rows_here none (some (-(1 : Int)))) ≤ sizeLine)).bind fun _ => compR (compF (fun (x222 : (List (Int × Int))) (s221 : (List Int)) => R.ok ()) (fun (z229 : Unit) => true) (fun (x222 : (List (Int × Int))) (s221 : (List Int)) => ((m_law_digit (s221, (7 : Int))).bind fun (y228 : (Int × (List Int))) => R.ok ((y228.1 - (3 : Int)), y228.2))) Prod.fst Prod.snd) (cut v_rows_here none (some (-(1 : Int)))) [] v_pot_here).bind fun (b231 : ((List Int) × (List Int))) => lt b231.1 fun v_times_each_232 =>
((R.ok ()).bind fun (b234 : Unit) => lt ([] : List (Int × Int)) fun v_found_233 =>
(bindF ((R.guard (rngOk ((List.length v_rows_here : Nat) : Int))).bind fun (b235 : Unit) => forR (fun (x238 : Int) (s236 : (List (Int × Int))) =>
(((((R.ok ()).bind fun (b259 : Unit) => (R.guard (List.length (List.zip v_times_each_232 v_rows_here) ≤ sizeLine)).bind fun _ => compR (compF (fun (x261 : (Int × (List (Int × Int)))) (s260 : Unit) => R.ok ()) (fun (z280 : Unit) => true) (fun (x261 : (Int × (List (Int × Int)))) (s260 : Unit) => ((((R.some (atI x261.2 x238)).bind fun (y264 : (Int × Int)) => (R.guard (CMulX x261.1 y264.1)).bind fun (z270 : Unit) => R.ok (y264, z270)).bind fun (x271 : ((Int × Int) × Unit)) => (R.some (atI x261.2 x238)).bind fun (z278 : (Int × Int)) => R.ok (x271, z278)).bind fun (y279 : (((Int × Int) × Unit) × (Int × Int))) => R.ok (((x261.1 * y279.1.1.1), y279.2.2), ()))) Prod.fst Prod.snd) (List.zip v_times_each_232 v_rows_here) [] ()).bind fun (c284 : ((List (Int × Int)) × Unit)) => (m_law_sum c284.1).bind fun (z285 : (Int × Int)) => R.ok (c284, z285)).bind fun (b239 : (((List (Int × Int)) × Unit) × (Int × Int))) => (R.guard (List.length s236 < sizeLine)).bind fun _ => R.ok b239).bind fun (b286 : (((List (Int × Int)) × Unit) × (Int × Int))) =>
(R.ok (.nx (s236 ++ [b286.2]))))) (rng 0 ((List.length v_rows_here : Nat) : Int)) v_found_233) fun n237 =>
((R.guard (List.length (cut v_rows_here none (some (-(1 : Int)))) + List.length [n237] ≤ sizeLine)).bind fun (b294 : Unit) => R.ok (.rt (((cut v_rows_here none (some (-(1 : Int)))) ++ [n237]), b231.2))))))
noncomputable def m_law_made (a : ((List Int) × (List (List (Int × Int))))) : R ((List (List (Int × Int))) × (List Int)) := fin0 (mb_law_made a.1 a.2)
abbrev i_law_made (a : ((List Int) × (List (List (Int × Int))))) : List Slot := [.own 1 ((oL D.int) a.1), .val ((eL (eL (eP2 D.int D.int))) a.2)]
abbrev l_law_made (b : ((List (List (Int × Int))) × (List Int))) : Slot := .own 0 ((oL (eL (eP2 D.int D.int))) b.1)
abbrev o_law_made (b : ((List (List (Int × Int))) × (List Int))) : List Slot := [.own 1 ((oL D.int) b.2), .non]
theorem ok_law_made {P : Program} {w : World} {K : PySem.W.Frag} {mg : Str → Option Value} {base : Heap} (T : Top K mg) : FnG P w K mg base CX0 4 T.law_made.a T.law_made.d ["_law_pot_here", "_law_rows_here"] (spM K i_law_made m_law_made l_law_made o_law_made) := by
  show FnG P w K mg base CX0 (3 + 1) T.law_made.a T.law_made.d ["_law_pot_here", "_law_rows_here"] (spM K i_law_made (fun (a : ((List Int) × (List (List (Int × Int))))) => fin0 (mb_law_made a.1 a.2)) l_law_made o_law_made)
  refine fn_ok (n1 := fun _ => []) (c1 := fun _ => []) (k1 := fun _ => []) (ins := i_law_made) (sl := l_law_made) (outs := o_law_made) (fun (a : ((List Int) × (List (List (Int × Int))))) => mb_law_made a.1 a.2) 5 T.law_made.f sc_law_made rfl (fun _ => rfl) (fun _ => rfl) (fun _ => rfl) (fun cdv A outer s H E hr B hB a => ?_)
  show JSs _ B _ _ (mb_law_made a.1 a.2) _
  unfold mb_law_made
  exact ((js_cons1 (j1_setLc 2 (xs := fun (b220 : Unit) => (cut a.2 none (some (-(1 : Int))))) (ea := (eL (eP2 D.int D.int))) (ts := [5]) (c := fun (x222 : (List (Int × Int))) (s221 : (List Int)) => R.ok ()) (bn := fun (z229 : Unit) => true) (me := fun (x222 : (List (Int × Int))) (s221 : (List Int)) => ((m_law_digit (s221, (7 : Int))).bind fun (y228 : (Int × (List Int))) => R.ok ((y228.1 - (3 : Int)), y228.2))) [("_law_row", 5)] D.int (fun (s221 : (List Int)) => [.own 1 ((oL D.int) s221), .val ((eL (eL (eP2 D.int D.int))) a.2), .non, .non, .non, .non, .non]) (fun (b220 : Unit) => a.1) (fun (x222 : (List (Int × Int))) (s221 : (List Int)) => [.own 1 ((oL D.int) s221), .val ((eL (eL (eP2 D.int D.int))) a.2), .non, .non, .non, .val ((eL (eP2 D.int D.int)) x222), .non]) Prod.fst Prod.snd rfl sc_law_made.nd (ji_list (je_frzL (v := fun (b219 : Unit) => (cut a.2 none (some (-(1 : Int))))) (je_slLm (jp_var 1) (fun _ => jo_none) (fun _ => (jo_some (jp_neg jp_int)))))) (blkOk_by (N := ["_law_pot_here", "_law_rows_here", "_law_times_each", "_law_found", "_law_k", "_law_row", "_law_many"]) (sc := defScope s_law_made) (by decide +kernel)) (fun _ => rfl) (fun _ _ _ _ _ _ hB223 x222 s221 => (have hB := noRs hB223 hB; (jn_name 5 sc_law_made.nd))) (fun _ _ _ _ _ _ hB223 x222 s221 => (have hB := noRs hB223 hB; jts_nil)) (fun _ _ _ _ _ _ hB223 x222 s221 => (have hB := noRs hB223 hB; (je_mapS (en := D.int) (v := fun (y228 : (Int × (List Int))) => (y228.1 - (3 : Int))) (st := fun (y228 : (Int × (List Int))) => y228.2) (ρ' := fun (s230 : (List Int)) => [.own 1 ((oL D.int) s230), .val ((eL (eL (eP2 D.int D.int))) a.2), .non, .non, .non, .val ((eL (eP2 D.int D.int)) x222), .non]) (je_opL (s := fun (x225 : (Int × (List Int))) => (.val (D.int (x225.1 - (3 : Int))))) (xa := fun (x225 : (Int × (List Int))) => D.int x225.1) (y := fun (x225 : (Int × (List Int))) => D.int (3 : Int)) (fun _ _ ha hb => pe_op op_sub ha hb) (je_callQ (ins := i_law_digit) (mf := m_law_digit) (sl := l_law_digit) (outs := o_law_digit) (ok_law_digit T) (hr.mono (by decide)) (by rfl) T.law_digit.g T.law_digit.f.kp T.law_digit.b pass0 (arg := (s221, (7 : Int))) (fun (b224 : (Int × (List Int))) => [.own 1 ((oL D.int) b224.2), .val ((eL (eL (eP2 D.int D.int))) a.2), .non, .non, .non, .val ((eL (eP2 D.int D.int)) x222), .non]) (ja_s 0 (ja_p jp_int ja_nil)) hB) (fun x225 => jp_int) (fun x225 => od_sub)))))) fun (b231 : ((List Int) × (List Int))) => (js_lt (fun (v_times_each_232 : List Int) => [.own 1 ((oL D.int) b231.2), .val ((eL (eL (eP2 D.int D.int))) a.2), .own 0 ((oL D.int) v_times_each_232), .non, .non, .non, .non]) b231.1 fun v_times_each_232 =>
(js_frz 2 rfl (toD_oL _ _) (js_setOQ 3 (oL (eP2 D.int D.int)) (fun (b234 : Unit) => ([] : List (Int × Int))) (fun (b234 : Unit) (v_found_233 : (List (Int × Int))) => [.own 1 ((oL D.int) b231.2), .val ((eL (eL (eP2 D.int D.int))) a.2), .val ((eL D.int) v_times_each_232), .own 0 ((oL (eP2 D.int D.int)) v_found_233), .non, .non, .non]) sc_law_made.nd (je_lstT (eP2 D.int D.int) (fun (_ : Unit) => ([] : List (Int × Int))) ja_nil) fun b234 v_found_233 =>
(js_cons (ρ1 := fun (n237 : (List (Int × Int))) => [.own 1 ((oL D.int) b231.2), .val ((eL (eL (eP2 D.int D.int))) a.2), .val ((eL D.int) v_times_each_232), .own 0 ((oL (eP2 D.int D.int)) n237), .non, .non, .non]) (js_for (en := D.int) (xs := fun (b235 : Unit) => (rng 0 ((List.length a.2 : Nat) : Int))) (s0 := fun (b235 : Unit) => v_found_233) (fun (s236 : (List (Int × Int))) => [.own 1 ((oL D.int) b231.2), .val ((eL (eL (eP2 D.int D.int))) a.2), .val ((eL D.int) v_times_each_232), .own 0 ((oL (eP2 D.int D.int)) s236), .non, .non, .non]) (fun (x238 : Int) (s236 : (List (Int × Int))) => [.own 1 ((oL D.int) b231.2), .val ((eL (eL (eP2 D.int D.int))) a.2), .val ((eL D.int) v_times_each_232), .own 0 ((oL (eP2 D.int D.int)) s236), .val (D.int x238), .non, .non]) PassesOwn.never rfl (ji_rng1P (i := ((List.length a.2 : Nat) : Int)) T.z_range (ja_p (je_cb (fun _ ht => pe_callB call_len_seq (by rfl) T.z_len (by decide +kernel) ht) (ja_p (jp_var 1) ja_nil) cb_lenLm) ja_nil)) [true, true, true, true, true, true, true] (fun _ => rfl) (fun x238 s236 => (jg_name 4 sc_law_made.nd)) (fun x238 s236 =>
(js_consQ1 (fun (b286 : (((List (Int × Int)) × Unit) × (Int × Int))) => [.own 1 ((oL D.int) b231.2), .val ((eL (eL (eP2 D.int D.int))) a.2), .val ((eL D.int) v_times_each_232), .own 0 ((oL (eP2 D.int D.int)) (s236 ++ [b286.2])), .val (D.int x238), .non, .non]) (j1_expr (je_app 3 (f := (eP2 D.int D.int)) (y := fun (b239 : (((List (Int × Int)) × Unit) × (Int × Int))) => b239.2) (ρ' := fun (b239 : (((List (Int × Int)) × Unit) × (Int × Int))) => [.own 1 ((oL D.int) b231.2), .val ((eL (eL (eP2 D.int D.int))) a.2), .val ((eL D.int) v_times_each_232), .own 0 ((oL (eP2 D.int D.int)) s236), .val (D.int x238), .non, .non]) (fun (b239 : (((List (Int × Int)) × Unit) × (Int × Int))) => s236) (je_callVE (ρa := fun _ => _) (ins := i_law_sum) (mf := m_law_sum) (sl := l_law_sum) (outs := o_law_sum) (ok_law_sum T) (hr.mono (by decide)) (by rfl) T.law_sum.g T.law_sum.f.kp T.law_sum.b pass0 (arg := fun (c284 : ((List (Int × Int)) × Unit)) => c284.1) (ja_el (ρa := fun _ => _) (xa := fun (x283 : ((List (Int × Int)) × Unit)) => (eL (eP2 D.int D.int)) x283.1) (je_frzL (v := fun (b282 : ((List (Int × Int)) × Unit)) => b282.1) (je_lc (xs := fun (b259 : Unit) => (List.zip v_times_each_232 a.2)) (ea := (eP2 D.int (eL (eP2 D.int D.int)))) (ts := [6, 5]) (c := fun (x261 : (Int × (List (Int × Int)))) (s260 : Unit) => R.ok ()) (bn := fun (z280 : Unit) => true) (me := fun (x261 : (Int × (List (Int × Int)))) (s260 : Unit) => ((((R.some (atI x261.2 x238)).bind fun (y264 : (Int × Int)) => (R.guard (CMulX x261.1 y264.1)).bind fun (z270 : Unit) => R.ok (y264, z270)).bind fun (x271 : ((Int × Int) × Unit)) => (R.some (atI x261.2 x238)).bind fun (z278 : (Int × Int)) => R.ok (x271, z278)).bind fun (y279 : (((Int × Int) × Unit) × (Int × Int))) => R.ok (((x261.1 * y279.1.1.1), y279.2.2), ()))) [("_law_many", 6), ("_law_row", 5)] (eP2 D.int D.int) (fun (s260 : Unit) => [.own 1 ((oL D.int) b231.2), .val ((eL (eL (eP2 D.int D.int))) a.2), .val ((eL D.int) v_times_each_232), .own 0 ((oL (eP2 D.int D.int)) s236), .val (D.int x238), .non, .non]) (fun (b259 : Unit) => ()) (fun (x261 : (Int × (List (Int × Int)))) (s260 : Unit) => [.own 1 ((oL D.int) b231.2), .val ((eL (eL (eP2 D.int D.int))) a.2), .val ((eL D.int) v_times_each_232), .own 0 ((oL (eP2 D.int D.int)) s236), .val (D.int x238), .val ((eL (eP2 D.int D.int)) x261.2), .val (D.int x261.1)]) Prod.fst Prod.snd rfl sc_law_made.nd (ji_zipL (f := D.int) (g := (eL (eP2 D.int D.int))) (xs := fun (b258 : Unit) => v_times_each_232) (ys := fun (b258 : Unit) => a.2) (by rfl) T.z_zip (ja_p (jp_var 2) (ja_p (jp_var 1) ja_nil))) (blkOk_by (N := ["_law_pot_here", "_law_rows_here", "_law_times_each", "_law_found", "_law_k", "_law_row", "_law_many"]) (sc := defScope s_law_made) (by decide +kernel)) (fun _ => rfl) (fun _ _ _ _ _ _ hB262 x261 s260 => (have hB := noRs hB262 hB; (jn_tup rfl (jns_cons (jn_name 6 sc_law_made.nd) (jns_cons (jn_name 5 sc_law_made.nd) jns_nil))))) (fun _ _ _ _ _ _ hB262 x261 s260 => (have hB := noRs hB262 hB; jts_nil)) (fun _ _ _ _ _ _ hB262 x261 s260 => (have hB := noRs hB262 hB; (je_mapS (en := (eP2 D.int D.int)) (v := fun (y279 : (((Int × Int) × Unit) × (Int × Int))) => ((x261.1 * y279.1.1.1), y279.2.2)) (st := fun (y279 : (((Int × Int) × Unit) × (Int × Int))) => ()) (ρ' := fun (s281 : Unit) => [.own 1 ((oL D.int) b231.2), .val ((eL (eL (eP2 D.int D.int))) a.2), .val ((eL D.int) v_times_each_232), .own 0 ((oL (eP2 D.int D.int)) s236), .val (D.int x238), .val ((eL (eP2 D.int D.int)) x261.2), .val (D.int x261.1)]) (je_tup (ja_e (ρ' := fun _ _ => _) (ρa := fun _ => _) (xa := fun (x271 : ((Int × Int) × Unit)) => D.int (x261.1 * x271.1.1)) (je_opRG (ρb := fun _ => _) (s := fun (y264 : (Int × Int)) (z270 : Unit) => (.val (D.int (x261.1 * y264.1)))) (xb := fun (y264 : (Int × Int)) => D.int y264.1) (fun _ _ ha hb => pe_op op_mulX ha hb) (jp_var 6) (je_opL (ρa := fun _ => _) (s := fun (x267 : (Int × Int)) => (.val (D.int x267.1))) (xa := fun (x267 : (Int × Int)) => (eP2 D.int D.int) x267) (y := fun (x267 : (Int × Int)) => D.int (0 : Int)) (fun _ _ ha hb => pe_ix ix_tup ha hb (fun _ _ => rfl)) (je_op (fun _ _ ha hb => pe_ix ix_list ha hb (fun _ _ => rfl)) (jp_var 5) (jp_var 4) od_ixLm) (fun x267 => jp_int) (fun x267 => (od_ixTs rfl))) (fun y264 => od_mul)) (fun x271 => (ja_el (ρa := fun _ => _) (xa := fun (x277 : (Int × Int)) => D.int x277.2) (je_opL (ρa := fun _ => _) (s := fun (x274 : (Int × Int)) => (.val (D.int x274.2))) (xa := fun (x274 : (Int × Int)) => (eP2 D.int D.int) x274) (y := fun (x274 : (Int × Int)) => D.int (1 : Int)) (fun _ _ ha hb => pe_ix ix_tup ha hb (fun _ _ => rfl)) (je_op (fun _ _ ha hb => pe_ix ix_list ha hb (fun _ _ => rfl)) (jp_var 5) (jp_var 4) od_ixLm) (fun x274 => jp_int) (fun x274 => (od_ixTs rfl))) (fun x277 => ja_nil)))))))))) (fun x283 => ja_nil)) hB))) fun b286 =>
(js_nil [true, true, true, true, false, true, true] (s236 ++ [b286.2]))))) fun n237 =>
(js_frz 3 rfl (toD_oL _ _) (js_one (js_ret (fun (b294 : Unit) => (((cut a.2 none (some (-(1 : Int)))) ++ [n237]), b231.2)) [true, false, false, false, true, true, true] (je_op (fun _ _ ha hb => pe_op op_catR ha hb) (je_frzL (v := fun (b287 : Unit) => (cut a.2 none (some (-(1 : Int))))) (je_slLm (jp_var 1) (fun _ => jo_none) (fun _ => (jo_some (jp_neg jp_int))))) (je_frzL (v := fun (b293 : Unit) => [n237]) (je_lstT (eL (eP2 D.int D.int)) (fun (b292 : Unit) => ([n237] : List (List (Int × Int)))) (ja_p (jp_var 3) ja_nil))) od_catm))))))))))
abbrev s_law_rows : Stmt := topS 21
theorem sc_law_rows : FnScope ["_law_pot_here", "_law_many", "_law_most", "_law_is_made", "_law_rows_here", "_law_k", "_law_j", "_law_row"] ["_law_pot_here"] (defScope s_law_rows) := ⟨rfl, rfl, rfl, by decide +kernel, rfl, by decide +kernel, by decide +kernel⟩
noncomputable def mb_law_rows (v_pot_here : (List Int)) : R (Fl Unit Unit ((List (List (Int × Int))) × (List Int))) :=
((m_law_digit (v_pot_here, (5 : Int))).bind fun (b78 : (Int × (List Int))) => lt ((1 : Int) + b78.1) fun v_many_77 =>
(((m_law_digit (b78.2, (3 : Int))).bind fun (y84 : (Int × (List Int))) => (R.some (atI [(3 : Int), (12 : Int), ((10 : Int) ^ (Int.toNat (30 : Int)))] y84.1)).bind fun (z86 : Int) => R.ok (y84, z86)).bind fun (b88 : ((Int × (List Int)) × Int)) => lt b88.2 fun v_most_87 =>
(bindF ((m_law_digit (b88.1.2, (8 : Int))).bind fun (b93 : (Int × (List Int))) => if (decide (b93.1 = (7 : Int))) = true then ((m_law_digit (b93.2, (11 : Int))).bind fun (b111 : (Int × (List Int))) =>
(R.ok (.nx (b111.2, (((6 : Int) + b111.1), (4 : Int)).1, (((6 : Int) + b111.1), (4 : Int)).2)))) else (R.ok (.nx (b93.2, v_many_77, v_most_87)))) fun n112 =>
(((R.ok ()).bind fun (y128 : Unit) => if (decide (n112.2.1 > (1 : Int))) = true then ((m_law_digit (n112.1, (3 : Int))).bind fun (y133 : (Int × (List Int))) => R.ok ((decide (y133.1 = (0 : Int))), y133.2)) else (R.ok (false, n112.1))).bind fun (b135 : (Bool × (List Int))) => lt b135.1 fun v_is_made_134 =>
(bindF (if v_is_made_134 = true then (lt (min n112.2.2 ((10 : Int) ^ (Int.toNat (12 : Int)))) fun v_most_145 =>
(R.ok (.nx v_most_145))) else (R.ok (.nx n112.2.2))) fun n146 =>
(((R.guard (rngOk n112.2.1)).bind fun (b147 : Unit) => (R.guard (List.length (rng 0 n112.2.1) ≤ sizeLine)).bind fun _ => compR (compF (fun (x149 : Int) (s148 : (List Int)) => R.ok ()) (fun (z214 : Unit) => true) (fun (x149 : Int) (s148 : (List Int)) => (((R.guard (rngOk n112.2.1)).bind fun (b151 : Unit) => (R.guard (List.length (rng 0 n112.2.1) ≤ sizeLine)).bind fun _ => compR (compF (fun (x153 : Int) (s152 : (List Int)) => R.ok ()) (fun (z210 : Unit) => true) (fun (x153 : Int) (s152 : (List Int)) => ((m_law_any_fraction (s152, n146)).bind fun (y209 : ((Int × Int) × (List Int))) => R.ok (y209.1, y209.2))) Prod.fst Prod.snd) (rng 0 n112.2.1) [] s148).bind fun (y213 : ((List (Int × Int)) × (List Int))) => R.ok (y213.1, y213.2))) Prod.fst Prod.snd) (rng 0 n112.2.1) [] b135.2).bind fun (b216 : ((List (List (Int × Int))) × (List Int))) => lt b216.1 fun v_rows_here_217 =>
(bindF (if v_is_made_134 = true then ((m_law_made (b216.2, v_rows_here_217)).bind fun (b327 : ((List (List (Int × Int))) × (List Int))) => lt b327.1 fun v_rows_here_326 =>
((m_law_digit (b327.2, n112.2.1)).bind fun (b330 : (Int × (List Int))) => lt b330.1 fun v_k_329 =>
((((R.some (atI v_rows_here_326 (-(1 : Int)))).bind fun (x331 : (List (Int × Int))) => (R.some (atI v_rows_here_326 v_k_329)).bind fun (z333 : (List (Int × Int))) => R.ok (x331, z333)).bind fun (b334 : ((List (Int × Int)) × (List (Int × Int)))) => ((R.some (ixN (List.length v_rows_here_326) v_k_329)).bind fun (j335 : Nat) => (((R.some (ixN (List.length (List.set v_rows_here_326 j335 ((b334.1, b334.2).1))) (-(1 : Int)))).bind fun (j336 : Nat) => (R.ok ()).bind fun (c_ : Unit) => R.ok (j336, c_))).bind fun (p337_ : (Nat × Unit)) => R.ok (j335, p337_)).bind fun (p338 : (Nat × (Nat × Unit))) => R.ok (b334, p338)).bind fun (p339 : ((List (Int × Int)) × (List (Int × Int))) × (Nat × (Nat × Unit))) =>
(R.ok (.nx (b330.2, (List.set (List.set v_rows_here_326 p339.2.1 ((p339.1.1, p339.1.2).1)) p339.2.2.1 ((p339.1.1, p339.1.2).2)))))))) else (R.ok (.nx (b216.2, v_rows_here_217)))) fun n340 =>
(((R.ok ()).bind fun (b341 : Unit) => (R.guard (List.length n340.2 ≤ sizeLine)).bind fun _ => R.ok b341).bind fun (b351 : Unit) => R.ok (.rt ((List.map (fun (x343 : (List (Int × Int))) => x343) (List.filter (fun (x343 : (List (Int × Int))) => true) n340.2)), n340.1))))))))))
noncomputable def m_law_rows (a : (List Int)) : R ((List (List (Int × Int))) × (List Int)) := fin0 (mb_law_rows a)
abbrev i_law_rows (a : (List Int)) : List Slot := [.own 1 ((oL D.int) a)]
abbrev l_law_rows (b : ((List (List (Int × Int))) × (List Int))) : Slot := .val ((eT (eT (eP2 D.int D.int))) b.1)
abbrev o_law_rows (b : ((List (List (Int × Int))) × (List Int))) : List Slot := [.own 1 ((oL D.int) b.2)]
theorem ok_law_rows {P : Program} {w : World} {K : PySem.W.Frag} {mg : Str → Option Value} {base : Heap} (T : Top K mg) : FnG P w K mg base CX0 5 T.law_rows.a T.law_rows.d ["_law_pot_here"] (spM K i_law_rows m_law_rows l_law_rows o_law_rows) := by
  show FnG P w K mg base CX0 (4 + 1) T.law_rows.a T.law_rows.d ["_law_pot_here"] (spM K i_law_rows (fun (a : (List Int)) => fin0 (mb_law_rows a)) l_law_rows o_law_rows)
  refine fn_ok (n1 := fun _ => []) (c1 := fun _ => []) (k1 := fun _ => []) (ins := i_law_rows) (sl := l_law_rows) (outs := o_law_rows) (fun (a : (List Int)) => mb_law_rows a) 7 T.law_rows.f sc_law_rows rfl (fun _ => rfl) (fun _ => rfl) (fun _ => rfl) (fun cdv A outer s H E hr B hB a => ?_)
  show JSs _ B _ _ (mb_law_rows a) _
  unfold mb_law_rows
  exact ((js_setEQ 1 D.int (fun (b78 : (Int × (List Int))) => ((1 : Int) + b78.1)) (fun (b78 : (Int × (List Int))) (v_many_77 : Int) => [.own 1 ((oL D.int) b78.2), .val (D.int v_many_77), .non, .non, .non, .non, .non, .non]) sc_law_rows.nd (je_opR (s := fun (y38 : (Int × (List Int))) => (.val (D.int ((1 : Int) + y38.1)))) (xb := fun (y38 : (Int × (List Int))) => D.int y38.1) (fun _ _ ha hb => pe_op op_add ha hb) jp_int (je_callQ (ins := i_law_digit) (mf := m_law_digit) (sl := l_law_digit) (outs := o_law_digit) (ok_law_digit T) (hr.mono (by decide)) (by rfl) T.law_digit.g T.law_digit.f.kp T.law_digit.b pass0 (arg := (a, (5 : Int))) (fun (b75 : (Int × (List Int))) => [.own 1 ((oL D.int) b75.2), .non, .non, .non, .non, .non, .non, .non]) (ja_s 0 (ja_p jp_int ja_nil)) hB) (fun y38 => od_add)) fun b78 v_many_77 =>
(js_setEQ 2 D.int (fun (b88 : ((Int × (List Int)) × Int)) => b88.2) (fun (b88 : ((Int × (List Int)) × Int)) (v_most_87 : Int) => [.own 1 ((oL D.int) b88.1.2), .val (D.int v_many_77), .val (D.int v_most_87), .non, .non, .non, .non, .non]) sc_law_rows.nd (je_opRG (s := fun (y84 : (Int × (List Int))) (z86 : Int) => (.val (D.int z86))) (xb := fun (y84 : (Int × (List Int))) => D.int y84.1) (fun _ _ ha hb => pe_ix ix_list ha hb (fun _ _ => rfl)) (je_frzL (v := fun (b82 : Unit) => [(3 : Int), (12 : Int), ((10 : Int) ^ (Int.toNat (30 : Int)))]) (je_lstT D.int (fun (b81 : Unit) => ([(3 : Int), (12 : Int), ((10 : Int) ^ (Int.toNat (30 : Int)))] : List Int)) (ja_p jp_int (ja_p jp_int (ja_p (je_op (fun _ _ ha hb => pe_op op_pow ha hb) jp_int jp_int od_powC) ja_nil))))) (je_callQ (ins := i_law_digit) (mf := m_law_digit) (sl := l_law_digit) (outs := o_law_digit) (ok_law_digit T) (hr.mono (by decide)) (by rfl) T.law_digit.g T.law_digit.f.kp T.law_digit.b pass0 (arg := (b78.2, (3 : Int))) (fun (b85 : (Int × (List Int))) => [.own 1 ((oL D.int) b85.2), .val (D.int v_many_77), .non, .non, .non, .non, .non, .non]) (ja_s 0 (ja_p jp_int ja_nil)) hB) (fun y84 => od_ixLm)) fun b88 v_most_87 =>
(js_cons (ρ1 := fun (n112 : ((List Int) × Int × Int)) => [.own 1 ((oL D.int) n112.1), .val (D.int n112.2.1), .val (D.int n112.2.2), .non, .non, .non, .non, .non]) (js_if (jt_opL (bn := fun (x90 : (Int × (List Int))) => (decide (x90.1 = (7 : Int)))) (xa := fun (x90 : (Int × (List Int))) => D.int x90.1) (y := fun (x90 : (Int × (List Int))) => D.int (7 : Int)) (fun _ _ ha hb => pt_cmpR op_eq ha hb (nomark _)) (je_callQ (ins := i_law_digit) (mf := m_law_digit) (sl := l_law_digit) (outs := o_law_digit) (ok_law_digit T) (hr.mono (by decide)) (by rfl) T.law_digit.g T.law_digit.f.kp T.law_digit.b pass0 (arg := (b88.1.2, (8 : Int))) (fun (b89 : (Int × (List Int))) => [.own 1 ((oL D.int) b89.2), .val (D.int v_many_77), .val (D.int v_most_87), .non, .non, .non, .non, .non]) (ja_s 0 (ja_p jp_int ja_nil)) hB) (fun x90 => jp_int) (fun x90 => od_eqI)) (fun b93 => (js_consQ1 (fun (b111 : (Int × (List Int))) => [.own 1 ((oL D.int) b111.2), .val (D.int ((((6 : Int) + b111.1), (4 : Int)).1)), .val (D.int ((((6 : Int) + b111.1), (4 : Int)).2)), .non, .non, .non, .non, .non]) (j1_asgN (d := fun (b111 : (Int × (List Int))) => (eP2 D.int D.int) (((6 : Int) + b111.1), (4 : Int))) (je_tup (ja_el (xa := fun (x110 : (Int × (List Int))) => D.int ((6 : Int) + x110.1)) (je_opR (s := fun (y107 : (Int × (List Int))) => (.val (D.int ((6 : Int) + y107.1)))) (xb := fun (y107 : (Int × (List Int))) => D.int y107.1) (fun _ _ ha hb => pe_op op_add ha hb) jp_int (je_callQ (ins := i_law_digit) (mf := m_law_digit) (sl := l_law_digit) (outs := o_law_digit) (ok_law_digit T) (hr.mono (by decide)) (by rfl) T.law_digit.g T.law_digit.f.kp T.law_digit.b pass0 (arg := (b93.2, (11 : Int))) (fun (b108 : (Int × (List Int))) => [.own 1 ((oL D.int) b108.2), .val (D.int v_many_77), .val (D.int v_most_87), .non, .non, .non, .non, .non]) (ja_s 0 (ja_p jp_int ja_nil)) hB) (fun y107 => od_add)) (fun x110 => (ja_p jp_int ja_nil)))) (fun b111 => jg_tup rfl (jgs_p (jg_name 1 sc_law_rows.nd) (jgs_p (jg_name 2 sc_law_rows.nd) jgs_nil)))) fun b111 =>
(js_nil [true, true, true, true, true, true, true, true] (b111.2, (((6 : Int) + b111.1), (4 : Int)).1, (((6 : Int) + b111.1), (4 : Int)).2)))) (fun b93 => (js_nil [true, true, true, true, true, true, true, true] (b93.2, v_many_77, v_most_87)))) fun n112 =>
(js_setEQ 3 D.bool (fun (b135 : (Bool × (List Int))) => b135.1) (fun (b135 : (Bool × (List Int))) (v_is_made_134 : Bool) => [.own 1 ((oL D.int) b135.2), .val (D.int n112.2.1), .val (D.int n112.2.2), .val (D.bool v_is_made_134), .non, .non, .non, .non]) sc_law_rows.nd (je_andS (xa := fun (y128 : Unit) => (decide (n112.2.1 > (1 : Int)))) (fun (y128 : Unit) => n112.1) (fun (s125 : (List Int)) => [.own 1 ((oL D.int) s125), .val (D.int n112.2.1), .val (D.int n112.2.2), .non, .non, .non, .non, .non]) (je_op (fun _ _ ha hb => pe_cmpR op_gt ha hb (nomark _)) (jp_var 1) jp_int od_gt) (fun y128 => (jp_one (je_mapS (en := D.bool) (v := fun (y133 : (Int × (List Int))) => (decide (y133.1 = (0 : Int)))) (st := fun (y133 : (Int × (List Int))) => y133.2) (ρ' := (fun (s125 : (List Int)) => [.own 1 ((oL D.int) s125), .val (D.int n112.2.1), .val (D.int n112.2.2), .non, .non, .non, .non, .non])) (je_opL (s := fun (x130 : (Int × (List Int))) => (.val (D.bool (decide (x130.1 = (0 : Int)))))) (xa := fun (x130 : (Int × (List Int))) => D.int x130.1) (y := fun (x130 : (Int × (List Int))) => D.int (0 : Int)) (fun _ _ ha hb => pe_cmpR op_eq ha hb (nomark _)) (je_callQ (ins := i_law_digit) (mf := m_law_digit) (sl := l_law_digit) (outs := o_law_digit) (ok_law_digit T) (hr.mono (by decide)) (by rfl) T.law_digit.g T.law_digit.f.kp T.law_digit.b pass0 (arg := (n112.1, (3 : Int))) (fun (b129 : (Int × (List Int))) => [.own 1 ((oL D.int) b129.2), .val (D.int n112.2.1), .val (D.int n112.2.2), .non, .non, .non, .non, .non]) (ja_s 0 (ja_p jp_int ja_nil)) hB) (fun x130 => jp_int) (fun x130 => od_eqI)))))) fun b135 v_is_made_134 =>
(js_cons (ρ1 := fun (n146 : Int) => [.own 1 ((oL D.int) b135.2), .val (D.int n112.2.1), .val (D.int n146), .val (D.bool v_is_made_134), .non, .non, .non, .non]) (js_ifP (jt_val (jp_var 3)) (js_setPQ 2 D.int (min n112.2.2 ((10 : Int) ^ (Int.toNat (12 : Int)))) (fun (v_most_145 : Int) => [.own 1 ((oL D.int) b135.2), .val (D.int n112.2.1), .val (D.int v_most_145), .val (D.bool v_is_made_134), .non, .non, .non, .non]) sc_law_rows.nd (je_cb (fun _ ht => pe_callB (call_min2 rfl) (by rfl) T.z_min (by decide +kernel) ht) (ja_p (jp_var 2) (ja_p (je_op (fun _ _ ha hb => pe_op op_pow ha hb) jp_int jp_int od_powC) ja_nil)) cb_min) fun v_most_145 =>
(js_nil [true, true, true, true, true, true, true, true] v_most_145)) (js_nil [true, true, true, true, true, true, true, true] n112.2.2)) fun n146 =>
(js_cons1 (j1_setLc 4 (xs := fun (b147 : Unit) => (rng 0 n112.2.1)) (ea := D.int) (ts := [5]) (c := fun (x149 : Int) (s148 : (List Int)) => R.ok ()) (bn := fun (z214 : Unit) => true) (me := fun (x149 : Int) (s148 : (List Int)) => (((R.guard (rngOk n112.2.1)).bind fun (b151 : Unit) => (R.guard (List.length (rng 0 n112.2.1) ≤ sizeLine)).bind fun _ => compR (compF (fun (x153 : Int) (s152 : (List Int)) => R.ok ()) (fun (z210 : Unit) => true) (fun (x153 : Int) (s152 : (List Int)) => ((m_law_any_fraction (s152, n146)).bind fun (y209 : ((Int × Int) × (List Int))) => R.ok (y209.1, y209.2))) Prod.fst Prod.snd) (rng 0 n112.2.1) [] s148).bind fun (y213 : ((List (Int × Int)) × (List Int))) => R.ok (y213.1, y213.2))) [("_law_k", 5)] (eL (eP2 D.int D.int)) (fun (s148 : (List Int)) => [.own 1 ((oL D.int) s148), .val (D.int n112.2.1), .val (D.int n146), .val (D.bool v_is_made_134), .non, .non, .non, .non]) (fun (b147 : Unit) => b135.2) (fun (x149 : Int) (s148 : (List Int)) => [.own 1 ((oL D.int) s148), .val (D.int n112.2.1), .val (D.int n146), .val (D.bool v_is_made_134), .non, .val (D.int x149), .non, .non]) Prod.fst Prod.snd rfl sc_law_rows.nd (ji_rng1P (i := n112.2.1) T.z_range (ja_p (jp_var 1) ja_nil)) (blkOk_by (N := ["_law_pot_here", "_law_many", "_law_most", "_law_is_made", "_law_rows_here", "_law_k", "_law_j", "_law_row"]) (sc := defScope s_law_rows) (by decide +kernel)) (fun _ => rfl) (fun _ _ _ _ _ _ hB150 x149 s148 => (have hB := noRs hB150 hB; (jn_name 5 sc_law_rows.nd))) (fun _ _ _ _ _ _ hB150 x149 s148 => (have hB := noRs hB150 hB; jts_nil)) (fun _ _ _ _ _ _ hB150 x149 s148 => (have hB := noRs hB150 hB; (je_mapS (en := (eL (eP2 D.int D.int))) (v := fun (y213 : ((List (Int × Int)) × (List Int))) => y213.1) (st := fun (y213 : ((List (Int × Int)) × (List Int))) => y213.2) (ρ' := fun (s215 : (List Int)) => [.own 1 ((oL D.int) s215), .val (D.int n112.2.1), .val (D.int n146), .val (D.bool v_is_made_134), .non, .val (D.int x149), .non, .non]) (je_frzL (v := fun (b212 : ((List (Int × Int)) × (List Int))) => b212.1) (je_lc (xs := fun (b151 : Unit) => (rng 0 n112.2.1)) (ea := D.int) (ts := [6]) (c := fun (x153 : Int) (s152 : (List Int)) => R.ok ()) (bn := fun (z210 : Unit) => true) (me := fun (x153 : Int) (s152 : (List Int)) => ((m_law_any_fraction (s152, n146)).bind fun (y209 : ((Int × Int) × (List Int))) => R.ok (y209.1, y209.2))) [("_law_j", 6)] (eP2 D.int D.int) (fun (s152 : (List Int)) => [.own 1 ((oL D.int) s152), .val (D.int n112.2.1), .val (D.int n146), .val (D.bool v_is_made_134), .non, .val (D.int x149), .non, .non]) (fun (b151 : Unit) => s148) (fun (x153 : Int) (s152 : (List Int)) => [.own 1 ((oL D.int) s152), .val (D.int n112.2.1), .val (D.int n146), .val (D.bool v_is_made_134), .non, .val (D.int x149), .val (D.int x153), .non]) Prod.fst Prod.snd rfl sc_law_rows.nd (ji_rng1P (i := n112.2.1) T.z_range (ja_p (jp_var 1) ja_nil)) (blkOk_by (by rfl)) (fun _ => rfl) (fun _ _ _ _ _ _ hB154 x153 s152 => (have hB := noRs hB154 hB; (jn_name 6 sc_law_rows.nd))) (fun _ _ _ _ _ _ hB154 x153 s152 => (have hB := noRs hB154 hB; jts_nil)) (fun _ _ _ _ _ _ hB154 x153 s152 => (have hB := noRs hB154 hB; (je_mapS (en := (eP2 D.int D.int)) (v := fun (y209 : ((Int × Int) × (List Int))) => y209.1) (st := fun (y209 : ((Int × Int) × (List Int))) => y209.2) (ρ' := fun (s211 : (List Int)) => [.own 1 ((oL D.int) s211), .val (D.int n112.2.1), .val (D.int n146), .val (D.bool v_is_made_134), .non, .val (D.int x149), .val (D.int x153), .non]) (je_callQ (ins := i_law_any_fraction) (mf := m_law_any_fraction) (sl := l_law_any_fraction) (outs := o_law_any_fraction) (ok_law_any_fraction T) (hr.mono (by decide)) (by rfl) T.law_any_fraction.g T.law_any_fraction.f.kp T.law_any_fraction.b pass0 (arg := (s152, n146)) (fun (b208 : ((Int × Int) × (List Int))) => [.own 1 ((oL D.int) b208.2), .val (D.int n112.2.1), .val (D.int n146), .val (D.bool v_is_made_134), .non, .val (D.int x149), .val (D.int x153), .non]) (ja_s 0 (ja_p (jp_var 2) ja_nil)) hB)))))))))) fun (b216 : ((List (List (Int × Int))) × (List Int))) => (js_lt (fun (v_rows_here_217 : List (List (Int × Int))) => [.own 1 ((oL D.int) b216.2), .val (D.int n112.2.1), .val (D.int n146), .val (D.bool v_is_made_134), .own 0 ((oL (eL (eP2 D.int D.int))) v_rows_here_217), .non, .non, .non]) b216.1 fun v_rows_here_217 =>
(js_cons (ρ1 := fun (n340 : ((List Int) × (List (List (Int × Int))))) => [.own 1 ((oL D.int) n340.1), .val (D.int n112.2.1), .val (D.int n146), .val (D.bool v_is_made_134), .own 0 ((oL (eL (eP2 D.int D.int))) n340.2), .non, .non, .non]) (js_ifP (jt_val (jp_var 3)) (js_frz 4 rfl (toD_oL _ _) (js_setOQ 4 (oL (eL (eP2 D.int D.int))) (fun (b327 : ((List (List (Int × Int))) × (List Int))) => b327.1) (fun (b327 : ((List (List (Int × Int))) × (List Int))) (v_rows_here_326 : (List (List (Int × Int)))) => [.own 1 ((oL D.int) b327.2), .val (D.int n112.2.1), .val (D.int n146), .val (D.bool v_is_made_134), .own 0 ((oL (eL (eP2 D.int D.int))) v_rows_here_326), .non, .non, .non]) sc_law_rows.nd (je_callQ (ins := i_law_made) (mf := m_law_made) (sl := l_law_made) (outs := o_law_made) (ok_law_made T) (hr.mono (by decide)) (by rfl) T.law_made.g T.law_made.f.kp T.law_made.b pass0 (arg := (b216.2, v_rows_here_217)) (fun (b325 : ((List (List (Int × Int))) × (List Int))) => [.own 1 ((oL D.int) b325.2), .val (D.int n112.2.1), .val (D.int n146), .val (D.bool v_is_made_134), .val ((eL (eL (eP2 D.int D.int))) v_rows_here_217), .non, .non, .non]) (ja_s 0 (ja_p (jp_var 4) ja_nil)) hB) fun b327 v_rows_here_326 =>
(js_setEQ 5 D.int (fun (b330 : (Int × (List Int))) => b330.1) (fun (b330 : (Int × (List Int))) (v_k_329 : Int) => [.own 1 ((oL D.int) b330.2), .val (D.int n112.2.1), .val (D.int n146), .val (D.bool v_is_made_134), .own 0 ((oL (eL (eP2 D.int D.int))) v_rows_here_326), .val (D.int v_k_329), .non, .non]) sc_law_rows.nd (je_callQ (ins := i_law_digit) (mf := m_law_digit) (sl := l_law_digit) (outs := o_law_digit) (ok_law_digit T) (hr.mono (by decide)) (by rfl) T.law_digit.g T.law_digit.f.kp T.law_digit.b pass0 (arg := (b327.2, n112.2.1)) (fun (b328 : (Int × (List Int))) => [.own 1 ((oL D.int) b328.2), .val (D.int n112.2.1), .val (D.int n146), .val (D.bool v_is_made_134), .own 0 ((oL (eL (eP2 D.int D.int))) v_rows_here_326), .non, .non, .non]) (ja_s 0 (ja_p (jp_var 1) ja_nil)) hB) fun b330 v_k_329 =>
(js_consQ1 (fun (p339 : ((List (Int × Int)) × (List (Int × Int))) × (Nat × (Nat × Unit))) => [.own 1 ((oL D.int) b330.2), .val (D.int n112.2.1), .val (D.int n146), .val (D.bool v_is_made_134), .own 0 ((oL (eL (eP2 D.int D.int))) (List.set (List.set v_rows_here_326 p339.2.1 ((p339.1.1, p339.1.2).1)) p339.2.2.1 ((p339.1.1, p339.1.2).2))), .val (D.int v_k_329), .non, .non]) (j1_asg (d := fun (b334 : ((List (Int × Int)) × (List (Int × Int)))) => (eP2 (eL (eP2 D.int D.int)) (eL (eP2 D.int D.int))) (b334.1, b334.2)) (je_tup (ja_e (ρ' := fun _ _ => _) (ρa := fun _ => _) (xa := fun (x331 : (List (Int × Int))) => (eL (eP2 D.int D.int)) x331) (je_ixO 4 (xs := v_rows_here_326) (en := (eL (eP2 D.int D.int))) (k := (-(1 : Int))) rfl (jp_neg jp_int)) (fun x331 => (ja_el (ρa := fun _ => _) (xa := fun (x332 : (List (Int × Int))) => (eL (eP2 D.int D.int)) x332) (je_ixO 4 (xs := v_rows_here_326) (en := (eL (eP2 D.int D.int))) (k := v_k_329) rfl (jp_var 5)) (fun x332 => ja_nil))))) (fun b334 => jg_tup rfl (jgs_cons (jg_sub 4 (xs := v_rows_here_326) (en := (eL (eP2 D.int D.int))) (y := (b334.1, b334.2).1) (k := v_k_329) rfl (jp_var 5)) (fun j335 => (jgs_cons (jg_sub 4 (xs := (List.set v_rows_here_326 j335 ((b334.1, b334.2).1))) (en := (eL (eP2 D.int D.int))) (y := (b334.1, b334.2).2) (k := (-(1 : Int))) rfl (jp_neg jp_int)) (fun j336 => jgs_nil)))))) fun p339 =>
(js_nil [true, true, true, true, true, false, true, true] (b330.2, (List.set (List.set v_rows_here_326 p339.2.1 ((p339.1.1, p339.1.2).1)) p339.2.2.1 ((p339.1.1, p339.1.2).2)))))))) (js_nil [true, true, true, true, true, true, true, true] (b216.2, v_rows_here_217))) fun n340 =>
(js_one (js_ret (fun (b351 : Unit) => ((List.map (fun (x343 : (List (Int × Int))) => x343) (List.filter (fun (x343 : (List (Int × Int))) => true) n340.2)), n340.1)) [true, false, false, false, false, true, true, true] (je_cbN (ρa := fun _ => _) (s := fun (c349 : Unit) => .val ((eT (eT (eP2 D.int D.int))) (List.map (fun (x343 : (List (Int × Int))) => x343) (List.filter (fun (x343 : (List (Int × Int))) => true) n340.2)))) (fun _ ht => pe_callTy call_tuple_of (by rfl) T.z_tuple (by decide +kernel) ht) (ja_el (ρa := fun _ => _) (xa := fun (x348 : Unit) => (eL (eT (eP2 D.int D.int))) (List.map (fun (x343 : (List (Int × Int))) => x343) (List.filter (fun (x343 : (List (Int × Int))) => true) n340.2))) (je_frzL (v := fun (b347 : Unit) => (List.map (fun (x343 : (List (Int × Int))) => x343) (List.filter (fun (x343 : (List (Int × Int))) => true) n340.2))) (je_bor 4 (d := (eL (eL (eP2 D.int D.int))) n340.2) (ρ1 := fun (b345 : Unit) => [.own 1 ((oL D.int) n340.1), .val (D.int n112.2.1), .val (D.int n146), .val (D.bool v_is_made_134), .val ((eL (eL (eP2 D.int D.int))) n340.2), .non, .non, .non]) (ρ2 := fun (b345 : Unit) => [.own 1 ((oL D.int) n340.1), .val (D.int n112.2.1), .val (D.int n146), .val (D.bool v_is_made_134), .non, .non, .non, .non]) (ρ' := fun (b345 : Unit) => [.own 1 ((oL D.int) n340.1), .val (D.int n112.2.1), .val (D.int n146), .val (D.bool v_is_made_134), .own 0 ((oL (eL (eP2 D.int D.int))) n340.2), .non, .non, .non]) (sl := fun (b345 : Unit) => .own 0 ((oL (eT (eP2 D.int D.int))) (List.map (fun (x343 : (List (Int × Int))) => x343) (List.filter (fun (x343 : (List (Int × Int))) => true) n340.2)))) rfl (toD_oL _ _) (fun _ hB346 => (have hB := noRs hB346 hB; (je_lcP (xs := fun (b341 : Unit) => n340.2) (ea := (eL (eP2 D.int D.int))) (ts := [7]) [("_law_row", 7)] (eT (eP2 D.int D.int)) (fun (x343 : (List (Int × Int))) => [.own 1 ((oL D.int) n340.1), .val (D.int n112.2.1), .val (D.int n146), .val (D.bool v_is_made_134), .val ((eL (eL (eP2 D.int D.int))) n340.2), .non, .non, .val ((eL (eP2 D.int D.int)) x343)]) (fun (x343 : (List (Int × Int))) => true) (fun (x343 : (List (Int × Int))) => x343) rfl sc_law_rows.nd (ji_list (jp_var 4)) (blkOk_by (N := ["_law_pot_here", "_law_many", "_law_most", "_law_is_made", "_law_rows_here", "_law_k", "_law_j", "_law_row"]) (sc := defScope s_law_rows) (by decide +kernel)) (fun _ _ _ _ _ _ hB344 x343 => (have hB := noRs hB344 hB; (jn_name 7 sc_law_rows.nd))) (fun _ _ _ _ _ _ hB344 x343 => (have hB := noRs hB344 hB; jts_t)) (fun _ _ _ _ _ _ hB344 x343 => (have hB := noRs hB344 hB; (je_cb (fun _ ht => pe_callTy call_tuple_of (by rfl) T.z_tuple (by decide +kernel) ht) (ja_p (jp_var 7) ja_nil) cb_tupL)))))) (fun (b345 : Unit) => (.cons (.o (fl_oL fl_int n340.1)) (.cons .k (.cons .k (.cons .k (.cons .f (.cons .f (.cons .f (.cons .f .nil))))))))) (fun (b345 : Unit) => fl_oL (fl_T (fl_P2 fl_int fl_int)) (List.map (fun (x343 : (List (Int × Int))) => x343) (List.filter (fun (x343 : (List (Int × Int))) => true) n340.2))) (fun _ => rfl))) (fun x348 => ja_nil)) (fun c349 => cb_tupL)))))))))))))
abbrev s_lead_at : Stmt := topS 6
theorem sc_lead_at : FnScope ["rows", "k", "at"] ["rows", "k"] (defScope s_lead_at) := ⟨rfl, rfl, rfl, by decide +kernel, rfl, by decide +kernel, by decide +kernel⟩
noncomputable def mb_lead_at (v_rows : (List (List Int))) (v_k : Int) : R (Fl Unit Unit (Option Int)) :=
(bindF (((R.ok ()).bind fun (b383 : Unit) => (R.guard (rngOk v_k ∧ rngOk ((List.length v_rows : Nat) : Int))).bind fun z384 => R.ok b383).bind fun (b385 : Unit) => forR (fun (x388 : Int) (s386 : Unit) =>
(bindF (((R.some (atI v_rows x388)).bind fun (x391 : (List Int)) => (R.some (atI x391 v_k)).bind fun (z393 : Int) => R.ok (x391, z393)).bind fun (b397 : ((List Int) × Int)) => if (!decide (b397.2 = (0 : Int))) = true then (R.ok (.rt (some x388))) else (R.ok (.nx ()))) fun n399 =>
(R.ok (.nx ())))) (rng v_k ((List.length v_rows : Nat) : Int)) ()) fun n387 =>
(R.ok (.rt (none : (Option Int)))))
noncomputable def m_lead_at (a : ((List (List Int)) × Int)) : R (Option Int) := fin0 (mb_lead_at a.1 a.2)
abbrev i_lead_at (a : ((List (List Int)) × Int)) : List Slot := [.val ((eL (eL D.int)) a.1), .val (D.int a.2)]
abbrev l_lead_at (b : (Option Int)) : Slot := .val ((eO D.int) b)
abbrev o_lead_at (b : (Option Int)) : List Slot := [.non, .non]
theorem ok_lead_at {P : Program} {w : World} {K : PySem.W.Frag} {mg : Str → Option Value} {base : Heap} (T : Top K mg) : FnG P w K mg base CX0 1 T.lead_at.a T.lead_at.d ["rows", "k"] (spM K i_lead_at m_lead_at l_lead_at o_lead_at) := by
  show FnG P w K mg base CX0 (0 + 1) T.lead_at.a T.lead_at.d ["rows", "k"] (spM K i_lead_at (fun (a : ((List (List Int)) × Int)) => fin0 (mb_lead_at a.1 a.2)) l_lead_at o_lead_at)
  refine fn_ok (n1 := fun _ => []) (c1 := fun _ => []) (k1 := fun _ => []) (ins := i_lead_at) (sl := l_lead_at) (outs := o_lead_at) (fun (a : ((List (List Int)) × Int)) => mb_lead_at a.1 a.2) 1 T.lead_at.f sc_lead_at rfl (fun _ => rfl) (fun _ => rfl) (fun _ => rfl) (fun cdv A outer s H E hr B hB a => ?_)
  show JSs _ B _ _ (mb_lead_at a.1 a.2) _
  unfold mb_lead_at
  exact ((js_cons (ρ1 := fun (n387 : Unit) => [.val ((eL (eL D.int)) a.1), .val (D.int a.2), .non]) (js_for (en := D.int) (xs := fun (b385 : Unit) => (rng a.2 ((List.length a.1 : Nat) : Int))) (s0 := fun (b385 : Unit) => ()) (fun (s386 : Unit) => [.val ((eL (eL D.int)) a.1), .val (D.int a.2), .non]) (fun (x388 : Int) (s386 : Unit) => [.val ((eL (eL D.int)) a.1), .val (D.int a.2), .val (D.int x388)]) PassesOwn.never rfl (ji_rng2 (fun (b383 : Unit) => a.2) (fun (b383 : Unit) => ((List.length a.1 : Nat) : Int)) T.z_range (ja_p (jp_var 1) (ja_p (je_cb (fun _ ht => pe_callB call_len_seq (by rfl) T.z_len (by decide +kernel) ht) (ja_p (jp_var 0) ja_nil) cb_lenLm) ja_nil))) [true, true, true] (fun _ => rfl) (fun x388 s386 => (jg_name 2 sc_lead_at.nd)) (fun x388 s386 =>
(js_cons (ρ1 := fun (n399 : Unit) => [.val ((eL (eL D.int)) a.1), .val (D.int a.2), .val (D.int x388)]) (js_if (jt_opL (ρa := fun _ => _) (bn := fun (x394 : ((List Int) × Int)) => (!decide (x394.2 = (0 : Int)))) (xa := fun (x394 : ((List Int) × Int)) => D.int x394.2) (y := fun (x394 : ((List Int) × Int)) => D.int (0 : Int)) (fun _ _ ha hb => pt_cmpR op_ne ha hb (nomark _)) (je_opLG (ρa := fun _ => _) (s := fun (x391 : (List Int)) (z393 : Int) => (.val (D.int z393))) (xa := fun (x391 : (List Int)) => (eL D.int) x391) (y := fun (x391 : (List Int)) => D.int a.2) (fun _ _ ha hb => pe_ix ix_list ha hb (fun _ _ => rfl)) (je_op (fun _ _ ha hb => pe_ix ix_list ha hb (fun _ _ => rfl)) (jp_var 0) (jp_var 2) od_ixLm) (fun x391 => (jp_var 1)) (fun x391 => od_ixLm)) (fun x394 => jp_int) (fun x394 => od_neI)) (fun b397 => (js_one (js_retP (some x388) [false, false, false] (show JP _ _ _ _ ((eO D.int) (some x388)) from (jp_var 2))))) (fun b397 => (js_nil [true, true, true] ()))) fun n399 =>
(js_nil [true, true, false] ())))) fun n387 =>
(js_one (js_retP (none : (Option Int)) [false, false, true] (show JP _ _ _ _ ((eO D.int) (none : (Option Int))) from jp_non)))))
abbrev s_taken_off : Stmt := topS 7
theorem sc_taken_off : FnScope ["row", "lead", "k", "last", "one", "other"] ["row", "lead", "k", "last"] (defScope s_taken_off) := ⟨rfl, rfl, rfl, by decide +kernel, rfl, by decide +kernel, by decide +kernel⟩
noncomputable def mb_taken_off (v_row : (List Int)) (v_lead : (List Int)) (v_k : Int) (v_last : Int) : R (Fl Unit Unit (List Int)) :=
(((R.ok ()).bind fun (b429 : Unit) => (R.guard (List.length (List.zip v_row v_lead) ≤ sizeLine)).bind fun _ => compR (compF (fun (x431 : (Int × Int)) (s430 : Unit) => R.ok ()) (fun (z449 : Unit) => true) (fun (x431 : (Int × Int)) (s430 : Unit) => (((op2 ((R.some (atI v_lead v_k)).bind fun (x435 : Int) => (R.guard (CMulX x435 x431.1)).bind fun (z437 : Unit) => R.ok (x435, z437)) (fun (x438 : (Int × Unit)) => ((R.some (atI v_row v_k)).bind fun (x442 : Int) => (R.guard (CMulX x442 x431.2)).bind fun (z444 : Unit) => R.ok (x442, z444))) (fun (x438 : (Int × Unit)) (y439 : (Int × Unit)) => R.ok ())).bind fun (x445 : ((Int × Unit) × (Int × Unit) × Unit)) => (R.guard (divOk ((x445.1.1 * x431.1) - (x445.2.1.1 * x431.2)) v_last)).bind fun (z447 : Unit) => R.ok (x445, z447)).bind fun (y448 : (((Int × Unit) × (Int × Unit) × Unit) × Unit)) => R.ok ((Int.fdiv ((y448.1.1.1 * x431.1) - (y448.1.2.1.1 * x431.2)) v_last), ()))) Prod.fst Prod.snd) (List.zip v_row v_lead) [] ()).bind fun (b451 : ((List Int) × Unit)) => R.ok (.rt b451.1))
noncomputable def m_taken_off (a : ((List Int) × (List Int) × Int × Int)) : R (List Int) := fin0 (mb_taken_off a.1 a.2.1 a.2.2.1 a.2.2.2)
abbrev i_taken_off (a : ((List Int) × (List Int) × Int × Int)) : List Slot := [.val ((eL D.int) a.1), .val ((eL D.int) a.2.1), .val (D.int a.2.2.1), .val (D.int a.2.2.2)]
abbrev l_taken_off (b : (List Int)) : Slot := .own 0 ((oL D.int) b)
abbrev o_taken_off (b : (List Int)) : List Slot := [.non, .non, .non, .non]
theorem ok_taken_off {P : Program} {w : World} {K : PySem.W.Frag} {mg : Str → Option Value} {base : Heap} (T : Top K mg) : FnG P w K mg base CX0 1 T.taken_off.a T.taken_off.d ["row", "lead", "k", "last"] (spM K i_taken_off m_taken_off l_taken_off o_taken_off) := by
  show FnG P w K mg base CX0 (0 + 1) T.taken_off.a T.taken_off.d ["row", "lead", "k", "last"] (spM K i_taken_off (fun (a : ((List Int) × (List Int) × Int × Int)) => fin0 (mb_taken_off a.1 a.2.1 a.2.2.1 a.2.2.2)) l_taken_off o_taken_off)
  refine fn_ok (n1 := fun _ => []) (c1 := fun _ => []) (k1 := fun _ => []) (ins := i_taken_off) (sl := l_taken_off) (outs := o_taken_off) (fun (a : ((List Int) × (List Int) × Int × Int)) => mb_taken_off a.1 a.2.1 a.2.2.1 a.2.2.2) 2 T.taken_off.f sc_taken_off rfl (fun _ => rfl) (fun _ => rfl) (fun _ => rfl) (fun cdv A outer s H E hr B hB a => ?_)
  show JSs _ B _ _ (mb_taken_off a.1 a.2.1 a.2.2.1 a.2.2.2) _
  unfold mb_taken_off
  exact ((js_one (js_ret (fun (b451 : ((List Int) × Unit)) => b451.1) [false, false, false, false, true, true] (je_lc (xs := fun (b429 : Unit) => (List.zip a.1 a.2.1)) (ea := (eP2 D.int D.int)) (ts := [4, 5]) (c := fun (x431 : (Int × Int)) (s430 : Unit) => R.ok ()) (bn := fun (z449 : Unit) => true) (me := fun (x431 : (Int × Int)) (s430 : Unit) => (((op2 ((R.some (atI a.2.1 a.2.2.1)).bind fun (x435 : Int) => (R.guard (CMulX x435 x431.1)).bind fun (z437 : Unit) => R.ok (x435, z437)) (fun (x438 : (Int × Unit)) => ((R.some (atI a.1 a.2.2.1)).bind fun (x442 : Int) => (R.guard (CMulX x442 x431.2)).bind fun (z444 : Unit) => R.ok (x442, z444))) (fun (x438 : (Int × Unit)) (y439 : (Int × Unit)) => R.ok ())).bind fun (x445 : ((Int × Unit) × (Int × Unit) × Unit)) => (R.guard (divOk ((x445.1.1 * x431.1) - (x445.2.1.1 * x431.2)) a.2.2.2)).bind fun (z447 : Unit) => R.ok (x445, z447)).bind fun (y448 : (((Int × Unit) × (Int × Unit) × Unit) × Unit)) => R.ok ((Int.fdiv ((y448.1.1.1 * x431.1) - (y448.1.2.1.1 * x431.2)) a.2.2.2), ()))) [("one", 4), ("other", 5)] D.int (fun (s430 : Unit) => [.val ((eL D.int) a.1), .val ((eL D.int) a.2.1), .val (D.int a.2.2.1), .val (D.int a.2.2.2), .non, .non]) (fun (b429 : Unit) => ()) (fun (x431 : (Int × Int)) (s430 : Unit) => [.val ((eL D.int) a.1), .val ((eL D.int) a.2.1), .val (D.int a.2.2.1), .val (D.int a.2.2.2), .val (D.int x431.1), .val (D.int x431.2)]) Prod.fst Prod.snd rfl sc_taken_off.nd (ji_zipL (f := D.int) (g := D.int) (xs := fun (b428 : Unit) => a.1) (ys := fun (b428 : Unit) => a.2.1) (by rfl) T.z_zip (ja_p (jp_var 0) (ja_p (jp_var 1) ja_nil))) (blkOk_by (by rfl)) (fun _ => rfl) (fun _ _ _ _ _ _ hB432 x431 s430 => (have hB := noRs hB432 hB; (jn_tup rfl (jns_cons (jn_name 4 sc_taken_off.nd) (jns_cons (jn_name 5 sc_taken_off.nd) jns_nil))))) (fun _ _ _ _ _ _ hB432 x431 s430 => (have hB := noRs hB432 hB; jts_nil)) (fun _ _ _ _ _ _ hB432 x431 s430 => (have hB := noRs hB432 hB; (je_mapS (en := D.int) (v := fun (y448 : (((Int × Unit) × (Int × Unit) × Unit) × Unit)) => (Int.fdiv ((y448.1.1.1 * x431.1) - (y448.1.2.1.1 * x431.2)) a.2.2.2)) (st := fun (y448 : (((Int × Unit) × (Int × Unit) × Unit) × Unit)) => ()) (ρ' := fun (s450 : Unit) => [.val ((eL D.int) a.1), .val ((eL D.int) a.2.1), .val (D.int a.2.2.1), .val (D.int a.2.2.2), .val (D.int x431.1), .val (D.int x431.2)]) (je_opLG (ρa := fun _ => _) (s := fun (x445 : ((Int × Unit) × (Int × Unit) × Unit)) (z447 : Unit) => (.val (D.int (Int.fdiv ((x445.1.1 * x431.1) - (x445.2.1.1 * x431.2)) a.2.2.2)))) (xa := fun (x445 : ((Int × Unit) × (Int × Unit) × Unit)) => D.int ((x445.1.1 * x431.1) - (x445.2.1.1 * x431.2))) (y := fun (x445 : ((Int × Unit) × (Int × Unit) × Unit)) => D.int a.2.2.2) (fun _ _ ha hb => pe_op op_fdivZ ha hb) (je_op2 (ρa := fun _ => _) (ρb := fun _ _ => _) (s := fun (x438 : (Int × Unit)) (y439 : (Int × Unit)) (z0 : Unit) => (.val (D.int ((x438.1 * x431.1) - (y439.1 * x431.2))))) (xa := fun (x438 : (Int × Unit)) => D.int (x438.1 * x431.1)) (xb := fun (x438 : (Int × Unit)) (y439 : (Int × Unit)) => D.int (y439.1 * x431.2)) (fun _ _ ha hb => pe_op op_sub ha hb) (je_opLG (ρa := fun _ => _) (s := fun (x435 : Int) (z437 : Unit) => (.val (D.int (x435 * x431.1)))) (xa := fun (x435 : Int) => D.int x435) (y := fun (x435 : Int) => D.int x431.1) (fun _ _ ha hb => pe_op op_mulX ha hb) (je_op (fun _ _ ha hb => pe_ix ix_list ha hb (fun _ _ => rfl)) (jp_var 1) (jp_var 2) od_ixLm) (fun x435 => (jp_var 4)) (fun x435 => od_mul)) (fun x438 => (je_opLG (ρa := fun _ => _) (s := fun (x442 : Int) (z444 : Unit) => (.val (D.int (x442 * x431.2)))) (xa := fun (x442 : Int) => D.int x442) (y := fun (x442 : Int) => D.int x431.2) (fun _ _ ha hb => pe_op op_mulX ha hb) (je_op (fun _ _ ha hb => pe_ix ix_list ha hb (fun _ _ => rfl)) (jp_var 0) (jp_var 2) od_ixLm) (fun x442 => (jp_var 5)) (fun x442 => od_mul))) (fun x438 y439 => od_sub)) (fun x445 => (jp_var 3)) (fun x445 => od_fdiv)))))))))
abbrev s_cleared : Stmt := topS 8
theorem sc_cleared : FnScope ["rows", "last", "k", "at", "lead", "row"] ["rows"] (defScope s_cleared) := ⟨rfl, rfl, rfl, by decide +kernel, rfl, by decide +kernel, by decide +kernel⟩
noncomputable def mb_cleared (v_rows : (List (List Int))) : R (Fl Unit Unit (Option (List (List Int)))) :=
(lt (1 : Int) fun v_last_376 =>
(bindF ((R.guard (rngOk ((List.length v_rows : Nat) : Int))).bind fun (b379 : Unit) => forR (fun (x382 : Int) (s380 : ((List (List Int)) × Int)) =>
((m_lead_at (s380.1, x382)).bind fun (b403 : (Option Int)) => lt b403 fun v_at_402 =>
(bindF (if (isNon ((eO D.int) v_at_402)) = true then (R.ok (.rt (none : (Option (List (List Int)))))) else (R.ok (.nx ()))) fun n407 =>
((R.some v_at_402).bind fun (v_at_408 : Int) =>
((((R.some (atI s380.1 v_at_408)).bind fun (x409 : (List Int)) => (R.some (atI s380.1 x382)).bind fun (z411 : (List Int)) => R.ok (x409, z411)).bind fun (b412 : ((List Int) × (List Int))) => ((R.some (ixN (List.length s380.1) x382)).bind fun (j413 : Nat) => (((R.some (ixN (List.length (List.set s380.1 j413 ((b412.1, b412.2).1))) v_at_408)).bind fun (j414 : Nat) => (R.ok ()).bind fun (c_ : Unit) => R.ok (j414, c_))).bind fun (p415_ : (Nat × Unit)) => R.ok (j413, p415_)).bind fun (p416 : (Nat × (Nat × Unit))) => R.ok (b412, p416)).bind fun (p417 : ((List Int) × (List Int)) × (Nat × (Nat × Unit))) =>
((R.some (atI (List.set (List.set s380.1 p417.2.1 ((p417.1.1, p417.1.2).1)) p417.2.2.1 ((p417.1.1, p417.1.2).2)) x382)).bind fun (b419 : (List Int)) => lt b419 fun v_lead_418 =>
(((R.ok ()).bind fun (b421 : Unit) => (R.guard (List.length (enumL (List.set (List.set s380.1 p417.2.1 ((p417.1.1, p417.1.2).1)) p417.2.2.1 ((p417.1.1, p417.1.2).2))) ≤ sizeLine)).bind fun _ => compR (compF (fun (x423 : (Int × (List Int))) (s422 : Unit) => R.ok ()) (fun (z455 : Unit) => true) (fun (x423 : (Int × (List Int))) (s422 : Unit) => (((R.ok ()).bind fun (y427 : Unit) => if (decide (x423.1 = x382)) = true then R.ok x423.2 else ((m_taken_off (x423.2, v_lead_418, x382, s380.2)).bind fun (z453 : (List Int)) => R.ok z453)).bind fun (y454 : (List Int)) => R.ok (y454, ()))) Prod.fst Prod.snd) (enumL (List.set (List.set s380.1 p417.2.1 ((p417.1.1, p417.1.2).1)) p417.2.2.1 ((p417.1.1, p417.1.2).2))) [] ()).bind fun (b457 : ((List (List Int)) × Unit)) => lt b457.1 fun v_rows_458 =>
((R.some (atI v_lead_418 x382)).bind fun (b462 : Int) => lt b462 fun v_last_461 =>
(R.ok (.nx (v_rows_458, v_last_461))))))))))) (rng 0 ((List.length v_rows : Nat) : Int)) (v_rows, v_last_376)) fun n381 =>
((R.ok ()).bind fun (b465 : Unit) => R.ok (.rt (some n381.1)))))
noncomputable def m_cleared (a : (List (List Int))) : R (Option (List (List Int))) := fin0 (mb_cleared a)
abbrev i_cleared (a : (List (List Int))) : List Slot := [.own 0 ((oL (eL D.int)) a)]
abbrev l_cleared (b : (Option (List (List Int)))) : Slot := .val ((eO (eL (eL D.int))) b)
abbrev o_cleared (b : (Option (List (List Int)))) : List Slot := [.non]
theorem ok_cleared {P : Program} {w : World} {K : PySem.W.Frag} {mg : Str → Option Value} {base : Heap} (T : Top K mg) : FnG P w K mg base CX0 2 T.cleared.a T.cleared.d ["rows"] (spMv K 0 i_cleared m_cleared l_cleared o_cleared) := by
  show FnG P w K mg base CX0 (1 + 1) T.cleared.a T.cleared.d ["rows"] (spMv K 0 i_cleared (fun (a : (List (List Int))) => fin0 (mb_cleared a)) l_cleared o_cleared)
  refine fn_okMv 0 (n1 := fun _ => []) (c1 := fun _ => []) (k1 := fun _ => []) (ins := i_cleared) (sl := l_cleared) (outs := o_cleared) (fun (a : (List (List Int))) => mb_cleared a) 5 T.cleared.f sc_cleared rfl (fun _ => rfl) (fun _ => rfl) (fun _ => rfl) (fun cdv A outer s H E hr B hB a => ?_)
  show JSs _ B _ _ (mb_cleared a) _
  unfold mb_cleared
  exact ((js_setPQ 1 D.int (1 : Int) (fun (v_last_376 : Int) => [.own 0 ((oL (eL D.int)) a), .val (D.int v_last_376), .non, .non, .non, .non]) sc_cleared.nd jp_int fun v_last_376 =>
(js_cons (ρ1 := fun (n381 : ((List (List Int)) × Int)) => [.own 0 ((oL (eL D.int)) n381.1), .val (D.int n381.2), .non, .non, .non, .non]) (js_for (en := D.int) (xs := fun (b379 : Unit) => (rng 0 ((List.length a : Nat) : Int))) (s0 := fun (b379 : Unit) => (a, v_last_376)) (fun (s380 : ((List (List Int)) × Int)) => [.own 0 ((oL (eL D.int)) s380.1), .val (D.int s380.2), .non, .non, .non, .non]) (fun (x382 : Int) (s380 : ((List (List Int)) × Int)) => [.own 0 ((oL (eL D.int)) s380.1), .val (D.int s380.2), .val (D.int x382), .non, .non, .non]) PassesOwn.never rfl (ji_rng1P (i := ((List.length a : Nat) : Int)) T.z_range (ja_p (je_bor 0 (d := (eL (eL D.int)) a) (ρ1 := fun (b377 : Unit) => [.val ((eL (eL D.int)) a), .val (D.int v_last_376), .non, .non, .non, .non]) (ρ2 := fun (b377 : Unit) => [.non, .val (D.int v_last_376), .non, .non, .non, .non]) (ρ' := fun (b377 : Unit) => [.own 0 ((oL (eL D.int)) a), .val (D.int v_last_376), .non, .non, .non, .non]) (sl := fun (b377 : Unit) => .val (D.int ((List.length a : Nat) : Int))) rfl (toD_oL _ _) (fun _ hB378 => (have hB := noRs hB378 hB; (je_cb (fun _ ht => pe_callB call_len_seq (by rfl) T.z_len (by decide +kernel) ht) (ja_p (jp_var 0) ja_nil) cb_lenLm))) (fun (b377 : Unit) => (.cons .f (.cons .k (.cons .f (.cons .f (.cons .f (.cons .f .nil))))))) (fun (b377 : Unit) => fl_int ((List.length a : Nat) : Int)) (fun _ => rfl)) ja_nil)) [true, true, true, true, true, true] (fun _ => rfl) (fun x382 s380 => (jg_name 2 sc_cleared.nd)) (fun x382 s380 =>
(js_setEQ 3 (eO D.int) (fun (b403 : (Option Int)) => b403) (fun (b403 : (Option Int)) (v_at_402 : (Option Int)) => [.own 0 ((oL (eL D.int)) s380.1), .val (D.int s380.2), .val (D.int x382), .val ((eO D.int) v_at_402), .non, .non]) sc_cleared.nd (je_bor 0 (d := (eL (eL D.int)) s380.1) (ρ1 := fun (b400 : (Option Int)) => [.val ((eL (eL D.int)) s380.1), .val (D.int s380.2), .val (D.int x382), .non, .non, .non]) (ρ2 := fun (b400 : (Option Int)) => [.non, .val (D.int s380.2), .val (D.int x382), .non, .non, .non]) (ρ' := fun (b400 : (Option Int)) => [.own 0 ((oL (eL D.int)) s380.1), .val (D.int s380.2), .val (D.int x382), .non, .non, .non]) (sl := fun (b400 : (Option Int)) => .val ((eO D.int) b400)) rfl (toD_oL _ _) (fun _ hB401 => (have hB := noRs hB401 hB; (je_callV (ins := i_lead_at) (mf := m_lead_at) (sl := l_lead_at) (outs := o_lead_at) (ok_lead_at T) (hr.mono (by decide)) (by rfl) T.lead_at.g T.lead_at.f.kp T.lead_at.b pass0 (arg := (s380.1, x382)) (ja_p (jp_var 0) (ja_p (jp_var 2) ja_nil)) hB))) (fun (b400 : (Option Int)) => (.cons .f (.cons .k (.cons .k (.cons .f (.cons .f (.cons .f .nil))))))) (fun (b400 : (Option Int)) => (fl_Op fl_int) b400) (fun _ => rfl)) fun b403 v_at_402 =>
(js_cons (ρ1 := fun (n407 : Unit) => [.own 0 ((oL (eL D.int)) s380.1), .val (D.int s380.2), .val (D.int x382), .val ((eO D.int) v_at_402), .non, .non]) (js_ifP (jt_op (fun _ _ ha hb => pt_cmpR op_isN ha hb (nomark _)) (jp_var 3) jp_non od_isN) (js_one (js_retP (none : (Option (List (List Int)))) [false, false, false, false, true, true] (show JP _ _ _ _ ((eO (eL (eL D.int))) (none : (Option (List (List Int))))) from jp_non))) (js_nil [true, true, true, true, true, true] ())) fun n407 =>
(js_castO 3 (g := D.int) v_at_402 fun v_at_408 =>
(js_consQ1 (fun (p417 : ((List Int) × (List Int)) × (Nat × (Nat × Unit))) => [.own 0 ((oL (eL D.int)) (List.set (List.set s380.1 p417.2.1 ((p417.1.1, p417.1.2).1)) p417.2.2.1 ((p417.1.1, p417.1.2).2))), .val (D.int s380.2), .val (D.int x382), .val (D.int v_at_408), .non, .non]) (j1_asg (d := fun (b412 : ((List Int) × (List Int))) => (eP2 (eL D.int) (eL D.int)) (b412.1, b412.2)) (je_tup (ja_e (ρ' := fun _ _ => _) (ρa := fun _ => _) (xa := fun (x409 : (List Int)) => (eL D.int) x409) (je_ixO 0 (xs := s380.1) (en := (eL D.int)) (k := v_at_408) rfl (jp_var 3)) (fun x409 => (ja_el (ρa := fun _ => _) (xa := fun (x410 : (List Int)) => (eL D.int) x410) (je_ixO 0 (xs := s380.1) (en := (eL D.int)) (k := x382) rfl (jp_var 2)) (fun x410 => ja_nil))))) (fun b412 => jg_tup rfl (jgs_cons (jg_sub 0 (xs := s380.1) (en := (eL D.int)) (y := (b412.1, b412.2).1) (k := x382) rfl (jp_var 2)) (fun j413 => (jgs_cons (jg_sub 0 (xs := (List.set s380.1 j413 ((b412.1, b412.2).1))) (en := (eL D.int)) (y := (b412.1, b412.2).2) (k := v_at_408) rfl (jp_var 3)) (fun j414 => jgs_nil)))))) fun p417 =>
(js_setEQ 4 (eL D.int) (fun (b419 : (List Int)) => b419) (fun (b419 : (List Int)) (v_lead_418 : (List Int)) => [.own 0 ((oL (eL D.int)) (List.set (List.set s380.1 p417.2.1 ((p417.1.1, p417.1.2).1)) p417.2.2.1 ((p417.1.1, p417.1.2).2))), .val (D.int s380.2), .val (D.int x382), .val (D.int v_at_408), .val ((eL D.int) v_lead_418), .non]) sc_cleared.nd (je_ixO 0 (xs := (List.set (List.set s380.1 p417.2.1 ((p417.1.1, p417.1.2).1)) p417.2.2.1 ((p417.1.1, p417.1.2).2))) (en := (eL D.int)) (k := x382) rfl (jp_var 2)) fun b419 v_lead_418 =>
(js_frz 0 rfl (toD_oL _ _) (js_cons1 (j1_setLc 0 (xs := fun (b421 : Unit) => (enumL (List.set (List.set s380.1 p417.2.1 ((p417.1.1, p417.1.2).1)) p417.2.2.1 ((p417.1.1, p417.1.2).2)))) (ea := (eP2 D.int (eL D.int))) (ts := [3, 5]) (c := fun (x423 : (Int × (List Int))) (s422 : Unit) => R.ok ()) (bn := fun (z455 : Unit) => true) (me := fun (x423 : (Int × (List Int))) (s422 : Unit) => (((R.ok ()).bind fun (y427 : Unit) => if (decide (x423.1 = x382)) = true then R.ok x423.2 else ((m_taken_off (x423.2, v_lead_418, x382, s380.2)).bind fun (z453 : (List Int)) => R.ok z453)).bind fun (y454 : (List Int)) => R.ok (y454, ()))) [("at", 3), ("row", 5)] (eL D.int) (fun (s422 : Unit) => [.val ((eL (eL D.int)) (List.set (List.set s380.1 p417.2.1 ((p417.1.1, p417.1.2).1)) p417.2.2.1 ((p417.1.1, p417.1.2).2))), .val (D.int s380.2), .val (D.int x382), .val (D.int v_at_408), .val ((eL D.int) v_lead_418), .non]) (fun (b421 : Unit) => ()) (fun (x423 : (Int × (List Int))) (s422 : Unit) => [.val ((eL (eL D.int)) (List.set (List.set s380.1 p417.2.1 ((p417.1.1, p417.1.2).1)) p417.2.2.1 ((p417.1.1, p417.1.2).2))), .val (D.int s380.2), .val (D.int x382), .val (D.int x423.1), .val ((eL D.int) v_lead_418), .val ((eL D.int) x423.2)]) Prod.fst Prod.snd rfl sc_cleared.nd (ji_enum (f := (eL D.int)) (xs := fun (b420 : Unit) => (List.set (List.set s380.1 p417.2.1 ((p417.1.1, p417.1.2).1)) p417.2.2.1 ((p417.1.1, p417.1.2).2))) (by rfl) T.z_enumerate (jp_var 0)) (blkOk_by (N := ["rows", "last", "k", "at", "lead", "row"]) (sc := defScope s_cleared) (by decide +kernel)) (fun _ => rfl) (fun _ _ _ _ _ _ hB424 x423 s422 => (have hB := noRs hB424 hB; (jn_tup rfl (jns_cons (jn_name 3 sc_cleared.nd) (jns_cons (jn_name 5 sc_cleared.nd) jns_nil))))) (fun _ _ _ _ _ _ hB424 x423 s422 => (have hB := noRs hB424 hB; jts_nil)) (fun _ _ _ _ _ _ hB424 x423 s422 => (have hB := noRs hB424 hB; (je_mapS (en := (eL D.int)) (v := fun (y454 : (List Int)) => y454) (st := fun (y454 : (List Int)) => ()) (ρ' := fun (s456 : Unit) => [.val ((eL (eL D.int)) (List.set (List.set s380.1 p417.2.1 ((p417.1.1, p417.1.2).1)) p417.2.2.1 ((p417.1.1, p417.1.2).2))), .val (D.int s380.2), .val (D.int x382), .val (D.int x423.1), .val ((eL D.int) v_lead_418), .val ((eL D.int) x423.2)]) (je_if (γ := Unit) (δ := Unit) (bn := fun (y427 : Unit) => (decide (x423.1 = x382))) (s := fun (z : (List Int)) => .val ((eL D.int) z)) (ρc := fun _ => _) (ρ' := fun _ => _) (jt_op (fun _ _ ha hb => pt_cmpR op_eq ha hb (nomark _)) (jp_var 3) (jp_var 2) od_eqI) (fun y427 => (je_pe (en := (eL D.int)) x423.2 (jp_var 5))) (fun y427 => (je_map (sl' := fun y => .val ((eL D.int) y)) (f := fun (z453 : (List Int)) => z453) (je_frzL (v := fun (b452 : (List Int)) => b452) (je_callV (ins := i_taken_off) (mf := m_taken_off) (sl := l_taken_off) (outs := o_taken_off) (ok_taken_off T) (hr.mono (by decide)) (by rfl) T.taken_off.g T.taken_off.f.kp T.taken_off.b pass0 (arg := (x423.2, v_lead_418, x382, s380.2)) (ja_p (jp_var 5) (ja_p (jp_var 4) (ja_p (jp_var 2) (ja_p (jp_var 1) ja_nil)))) hB)) (fun _ => rfl)))))))) fun (b457 : ((List (List Int)) × Unit)) => (js_lt (fun (v_rows_458 : List (List Int)) => [.own 0 ((oL (eL D.int)) v_rows_458), .val (D.int s380.2), .val (D.int x382), .val (D.int v_at_408), .val ((eL D.int) v_lead_418), .non]) b457.1 fun v_rows_458 =>
(js_setEQ 1 D.int (fun (b462 : Int) => b462) (fun (b462 : Int) (v_last_461 : Int) => [.own 0 ((oL (eL D.int)) v_rows_458), .val (D.int v_last_461), .val (D.int x382), .val (D.int v_at_408), .val ((eL D.int) v_lead_418), .non]) sc_cleared.nd (je_op (fun _ _ ha hb => pe_ix ix_list ha hb (fun _ _ => rfl)) (jp_var 4) (jp_var 2) od_ixLm) fun b462 v_last_461 =>
(js_nil [true, true, false, false, false, true] (v_rows_458, v_last_461))))))))))))) fun n381 =>
(js_one (js_ret (fun (b465 : Unit) => (some n381.1)) [true, false, true, true, true, true] (je_cast (s2 := fun (b464 : Unit) => .val ((eO (eL (eL D.int))) (some n381.1))) (je_frzL (v := fun (b463 : Unit) => n381.1) (je_nameO 0)) (fun _ => rfl)))))))
abbrev s_divisor : Stmt := topS 1
theorem sc_divisor : FnScope ["one", "other"] ["one", "other"] (defScope s_divisor) := ⟨rfl, rfl, rfl, by decide +kernel, rfl, by decide +kernel, by decide +kernel⟩
noncomputable def mb_divisor (v_one : Int) (v_other : Int) : R (Fl Unit Unit Int) :=
(bindF (whR (fun (s487 : (Int × Int)) => R.ok (decide (s487.2 > (0 : Int)))) (fun s487 =>
((R.guard (s487.2 ≠ (0 : Int))).bind fun (b495 : Unit) =>
(R.ok (.nx (s487.2, (Int.fmod s487.1 s487.2)))))) ((if v_one < 0 then -v_one else v_one), (if v_other < 0 then -v_other else v_other))) fun n488 =>
(R.ok (.rt n488.1)))
noncomputable def m_divisor (a : (Int × Int)) : R Int := fin0 (mb_divisor a.1 a.2)
abbrev i_divisor (a : (Int × Int)) : List Slot := [.val (D.int a.1), .val (D.int a.2)]
abbrev l_divisor (b : Int) : Slot := .val (D.int b)
abbrev o_divisor (b : Int) : List Slot := [.non, .non]
theorem ok_divisor {P : Program} {w : World} {K : PySem.W.Frag} {mg : Str → Option Value} {base : Heap} (T : Top K mg) : FnG P w K mg base CX0 1 T.divisor.a T.divisor.d ["one", "other"] (spM K i_divisor m_divisor l_divisor o_divisor) := by
  show FnG P w K mg base CX0 (0 + 1) T.divisor.a T.divisor.d ["one", "other"] (spM K i_divisor (fun (a : (Int × Int)) => fin0 (mb_divisor a.1 a.2)) l_divisor o_divisor)
  refine fn_ok (n1 := fun _ => []) (c1 := fun _ => []) (k1 := fun _ => []) (ins := i_divisor) (sl := l_divisor) (outs := o_divisor) (fun (a : (Int × Int)) => mb_divisor a.1 a.2) 0 T.divisor.f sc_divisor rfl (fun _ => rfl) (fun _ => rfl) (fun _ => rfl) (fun cdv A outer s H E hr B hB a => ?_)
  show JSs _ B _ _ (mb_divisor a.1 a.2) _
  unfold mb_divisor
  exact ((js_consQP [.val (D.int (if a.1 < 0 then -a.1 else a.1)), .val (D.int (if a.2 < 0 then -a.2 else a.2))] (j1_par 0 1 (d1 := fun (b486 : Unit) => D.int (if a.1 < 0 then -a.1 else a.1)) (d2 := fun (b486 : Unit) => D.int (if a.2 < 0 then -a.2 else a.2)) rfl sc_divisor.nd (ja_p (je_cb (fun _ ht => pe_callB call_abs (by rfl) T.z_abs (by decide +kernel) ht) (ja_p (jp_var 0) ja_nil) cb_abs) (ja_p (je_cb (fun _ ht => pe_callB call_abs (by rfl) T.z_abs (by decide +kernel) ht) (ja_p (jp_var 1) ja_nil) cb_abs) ja_nil)))
(js_cons (ρ1 := fun (n488 : (Int × Int)) => [.val (D.int n488.1), .val (D.int n488.2)]) (js_while (fun (s487 : (Int × Int)) => [.val (D.int s487.1), .val (D.int s487.2)]) PassesOwn.never ((if a.1 < 0 then -a.1 else a.1), (if a.2 < 0 then -a.2 else a.2)) [true, true] rfl (fun s487 => (jt_pb (jt_op (fun _ _ ha hb => pt_cmpR op_gt ha hb (nomark _)) (jp_var 1) jp_int od_gt))) (fun s487 =>
(js_consQ1 (fun (b495 : Unit) => [.val (D.int s487.2), .val (D.int (Int.fmod s487.1 s487.2))]) (j1_par 0 1 (d1 := fun (b495 : Unit) => D.int s487.2) (d2 := fun (b495 : Unit) => D.int (Int.fmod s487.1 s487.2)) rfl sc_divisor.nd (ja_p (jp_var 1) (ja_el (ρa := fun _ => _) (xa := fun (x494 : Unit) => D.int (Int.fmod s487.1 s487.2)) (je_op (fun _ _ ha hb => pe_op op_modN ha hb) (jp_var 0) (jp_var 1) od_mod) (fun x494 => ja_nil)))) fun b495 =>
(js_nil [true, true] (s487.2, (Int.fmod s487.1 s487.2)))))) fun n488 =>
(js_one (js_retP n488.1 [false, false] (jp_var 0))))))
abbrev s_common_below : Stmt := topS 4
theorem sc_common_below : FnScope ["some", "found", "n", "d"] ["some"] (defScope s_common_below) := ⟨rfl, rfl, rfl, by decide +kernel, rfl, by decide +kernel, by decide +kernel⟩
noncomputable def mb_common_below (v_some : (List (Int × Int))) : R (Fl Unit Unit Int) :=
(lt (1 : Int) fun v_found_479 =>
(bindF (forR (fun (x483 : (Int × Int)) (s481 : Int) =>
((((m_divisor (s481, x483.2)).bind fun (y485 : Int) => (R.guard (divOk s481 y485)).bind fun (z496 : Unit) => R.ok (y485, z496)).bind fun (x497 : (Int × Unit)) => (R.guard (CMulX (Int.fdiv s481 x497.1) x483.2)).bind fun (z499 : Unit) => R.ok (x497, z499)).bind fun (b501 : ((Int × Unit) × Unit)) => lt ((Int.fdiv s481 b501.1.1) * x483.2) fun v_found_500 =>
(R.ok (.nx v_found_500)))) v_some v_found_479) fun n482 =>
(R.ok (.rt n482))))
noncomputable def m_common_below (a : (List (Int × Int))) : R Int := fin0 (mb_common_below a)
abbrev i_common_below (a : (List (Int × Int))) : List Slot := [.val ((eL (eP2 D.int D.int)) a)]
abbrev l_common_below (b : Int) : Slot := .val (D.int b)
abbrev o_common_below (b : Int) : List Slot := [.non]
theorem ok_common_below {P : Program} {w : World} {K : PySem.W.Frag} {mg : Str → Option Value} {base : Heap} (T : Top K mg) : FnG P w K mg base CX0 2 T.common_below.a T.common_below.d ["some"] (spM K i_common_below m_common_below l_common_below o_common_below) := by
  show FnG P w K mg base CX0 (1 + 1) T.common_below.a T.common_below.d ["some"] (spM K i_common_below (fun (a : (List (Int × Int))) => fin0 (mb_common_below a)) l_common_below o_common_below)
  refine fn_ok (n1 := fun _ => []) (c1 := fun _ => []) (k1 := fun _ => []) (ins := i_common_below) (sl := l_common_below) (outs := o_common_below) (fun (a : (List (Int × Int))) => mb_common_below a) 3 T.common_below.f sc_common_below rfl (fun _ => rfl) (fun _ => rfl) (fun _ => rfl) (fun cdv A outer s H E hr B hB a => ?_)
  show JSs _ B _ _ (mb_common_below a) _
  unfold mb_common_below
  exact ((js_setPQ 1 D.int (1 : Int) (fun (v_found_479 : Int) => [.val ((eL (eP2 D.int D.int)) a), .val (D.int v_found_479), .non, .non]) sc_common_below.nd jp_int fun v_found_479 =>
(js_cons (ρ1 := fun (n482 : Int) => [.val ((eL (eP2 D.int D.int)) a), .val (D.int n482), .non, .non]) (js_forP (en := (eP2 D.int D.int)) (fun (s481 : Int) => [.val ((eL (eP2 D.int D.int)) a), .val (D.int s481), .non, .non]) (fun (x483 : (Int × Int)) (s481 : Int) => [.val ((eL (eP2 D.int D.int)) a), .val (D.int s481), .val (D.int x483.1), .val (D.int x483.2)]) PassesOwn.never rfl (ji_list (jp_var 0)) [true, true, true, true] rfl (fun x483 s481 => (jg_tup rfl (jgs_p (jg_name 2 sc_common_below.nd) (jgs_p (jg_name 3 sc_common_below.nd) jgs_nil)))) (fun x483 s481 =>
(js_setEQ 1 D.int (fun (b501 : ((Int × Unit) × Unit)) => ((Int.fdiv s481 b501.1.1) * x483.2)) (fun (b501 : ((Int × Unit) × Unit)) (v_found_500 : Int) => [.val ((eL (eP2 D.int D.int)) a), .val (D.int v_found_500), .val (D.int x483.1), .val (D.int x483.2)]) sc_common_below.nd (je_opLG (ρa := fun _ => _) (s := fun (x497 : (Int × Unit)) (z499 : Unit) => (.val (D.int ((Int.fdiv s481 x497.1) * x483.2)))) (xa := fun (x497 : (Int × Unit)) => D.int (Int.fdiv s481 x497.1)) (y := fun (x497 : (Int × Unit)) => D.int x483.2) (fun _ _ ha hb => pe_op op_mulX ha hb) (je_opRG (ρb := fun _ => _) (s := fun (y485 : Int) (z496 : Unit) => (.val (D.int (Int.fdiv s481 y485)))) (xb := fun (y485 : Int) => D.int y485) (fun _ _ ha hb => pe_op op_fdivZ ha hb) (jp_var 1) (je_callV (ins := i_divisor) (mf := m_divisor) (sl := l_divisor) (outs := o_divisor) (ok_divisor T) (hr.mono (by decide)) (by rfl) T.divisor.g T.divisor.f.kp T.divisor.b pass0 (arg := (s481, x483.2)) (ja_p (jp_var 1) (ja_p (jp_var 3) ja_nil)) hB) (fun y485 => od_fdiv)) (fun x497 => (jp_var 3)) (fun x497 => od_mul)) fun b501 v_found_500 =>
(js_nil [true, true, false, false] v_found_500)))) fun n482 =>
(js_one (js_retP n482 [false, false, true, true] (jp_var 1))))))
abbrev s_whole_row : Stmt := topS 5
theorem sc_whole_row : FnScope ["row", "side", "some", "common", "n", "d"] ["row", "side"] (defScope s_whole_row) := ⟨rfl, rfl, rfl, by decide +kernel, rfl, by decide +kernel, by decide +kernel⟩
noncomputable def mb_whole_row (v_row : (List (Int × Int))) (v_side : ((Int × Int) × (Int × Int))) : R (Fl Unit Unit (List Int)) :=
((R.guard (List.length v_row + List.length [v_side.1, v_side.2] ≤ sizeLine)).bind fun (b478 : Unit) => lt (v_row ++ [v_side.1, v_side.2]) fun v_some_477 =>
((m_common_below v_some_477).bind fun (b503 : Int) => lt b503 fun v_common_502 =>
(((R.ok ()).bind fun (b504 : Unit) => (R.guard (List.length v_some_477 ≤ sizeLine)).bind fun _ => compR (compF (fun (x506 : (Int × Int)) (s505 : Unit) => R.ok ()) (fun (z514 : Unit) => true) (fun (x506 : (Int × Int)) (s505 : Unit) => (((R.guard (divOk v_common_502 x506.2)).bind fun (y509 : Unit) => (R.guard (CMulX x506.1 (Int.fdiv v_common_502 x506.2))).bind fun (z512 : Unit) => R.ok (y509, z512)).bind fun (y513 : (Unit × Unit)) => R.ok ((x506.1 * (Int.fdiv v_common_502 x506.2)), ()))) Prod.fst Prod.snd) v_some_477 [] ()).bind fun (b516 : ((List Int) × Unit)) => R.ok (.rt b516.1))))
noncomputable def m_whole_row (a : ((List (Int × Int)) × ((Int × Int) × (Int × Int)))) : R (List Int) := fin0 (mb_whole_row a.1 a.2)
abbrev i_whole_row (a : ((List (Int × Int)) × ((Int × Int) × (Int × Int)))) : List Slot := [.val ((eT (eP2 D.int D.int)) a.1), .val ((eP2 (eP2 D.int D.int) (eP2 D.int D.int)) a.2)]
abbrev l_whole_row (b : (List Int)) : Slot := .own 0 ((oL D.int) b)
abbrev o_whole_row (b : (List Int)) : List Slot := [.non, .non]
theorem ok_whole_row {P : Program} {w : World} {K : PySem.W.Frag} {mg : Str → Option Value} {base : Heap} (T : Top K mg) : FnG P w K mg base CX0 3 T.whole_row.a T.whole_row.d ["row", "side"] (spM K i_whole_row m_whole_row l_whole_row o_whole_row) := by
  show FnG P w K mg base CX0 (2 + 1) T.whole_row.a T.whole_row.d ["row", "side"] (spM K i_whole_row (fun (a : ((List (Int × Int)) × ((Int × Int) × (Int × Int)))) => fin0 (mb_whole_row a.1 a.2)) l_whole_row o_whole_row)
  refine fn_ok (n1 := fun _ => []) (c1 := fun _ => []) (k1 := fun _ => []) (ins := i_whole_row) (sl := l_whole_row) (outs := o_whole_row) (fun (a : ((List (Int × Int)) × ((Int × Int) × (Int × Int)))) => mb_whole_row a.1 a.2) 4 T.whole_row.f sc_whole_row rfl (fun _ => rfl) (fun _ => rfl) (fun _ => rfl) (fun cdv A outer s H E hr B hB a => ?_)
  show JSs _ B _ _ (mb_whole_row a.1 a.2) _
  unfold mb_whole_row
  exact ((js_setEQ 2 (eL (eP2 D.int D.int)) (fun (b478 : Unit) => (a.1 ++ [a.2.1, a.2.2])) (fun (b478 : Unit) (v_some_477 : (List (Int × Int))) => [.val ((eT (eP2 D.int D.int)) a.1), .val ((eP2 (eP2 D.int D.int) (eP2 D.int D.int)) a.2), .val ((eL (eP2 D.int D.int)) v_some_477), .non, .non, .non]) sc_whole_row.nd (je_frzL (v := fun (b476 : Unit) => (a.1 ++ [a.2.1, a.2.2])) (je_op (fun _ _ ha hb => pe_op op_catR ha hb) (je_frzL (v := fun (b471 : Unit) => a.1) (je_cb (fun _ ht => pe_callTy call_list_of (by rfl) T.z_list (by decide +kernel) ht) (ja_p (jp_var 0) ja_nil) cb_lstT)) (je_frzL (v := fun (b475 : Unit) => [a.2.1, a.2.2]) (je_cb (fun _ ht => pe_callTy call_list_of (by rfl) T.z_list (by decide +kernel) ht) (ja_p (show JP _ _ _ _ ((eT (eP2 D.int D.int)) [a.2.1, a.2.2]) from (jp_var 1)) ja_nil) cb_lstT)) od_catm)) fun b478 v_some_477 =>
(js_setEQ 3 D.int (fun (b503 : Int) => b503) (fun (b503 : Int) (v_common_502 : Int) => [.val ((eT (eP2 D.int D.int)) a.1), .val ((eP2 (eP2 D.int D.int) (eP2 D.int D.int)) a.2), .val ((eL (eP2 D.int D.int)) v_some_477), .val (D.int v_common_502), .non, .non]) sc_whole_row.nd (je_callV (ins := i_common_below) (mf := m_common_below) (sl := l_common_below) (outs := o_common_below) (ok_common_below T) (hr.mono (by decide)) (by rfl) T.common_below.g T.common_below.f.kp T.common_below.b pass0 (arg := v_some_477) (ja_p (jp_var 2) ja_nil) hB) fun b503 v_common_502 =>
(js_one (js_ret (fun (b516 : ((List Int) × Unit)) => b516.1) [false, false, false, false, true, true] (je_lc (xs := fun (b504 : Unit) => v_some_477) (ea := (eP2 D.int D.int)) (ts := [4, 5]) (c := fun (x506 : (Int × Int)) (s505 : Unit) => R.ok ()) (bn := fun (z514 : Unit) => true) (me := fun (x506 : (Int × Int)) (s505 : Unit) => (((R.guard (divOk v_common_502 x506.2)).bind fun (y509 : Unit) => (R.guard (CMulX x506.1 (Int.fdiv v_common_502 x506.2))).bind fun (z512 : Unit) => R.ok (y509, z512)).bind fun (y513 : (Unit × Unit)) => R.ok ((x506.1 * (Int.fdiv v_common_502 x506.2)), ()))) [("n", 4), ("d", 5)] D.int (fun (s505 : Unit) => [.val ((eT (eP2 D.int D.int)) a.1), .val ((eP2 (eP2 D.int D.int) (eP2 D.int D.int)) a.2), .val ((eL (eP2 D.int D.int)) v_some_477), .val (D.int v_common_502), .non, .non]) (fun (b504 : Unit) => ()) (fun (x506 : (Int × Int)) (s505 : Unit) => [.val ((eT (eP2 D.int D.int)) a.1), .val ((eP2 (eP2 D.int D.int) (eP2 D.int D.int)) a.2), .val ((eL (eP2 D.int D.int)) v_some_477), .val (D.int v_common_502), .val (D.int x506.1), .val (D.int x506.2)]) Prod.fst Prod.snd rfl sc_whole_row.nd (ji_list (jp_var 2)) (blkOk_by (by rfl)) (fun _ => rfl) (fun _ _ _ _ _ _ hB507 x506 s505 => (have hB := noRs hB507 hB; (jn_tup rfl (jns_cons (jn_name 4 sc_whole_row.nd) (jns_cons (jn_name 5 sc_whole_row.nd) jns_nil))))) (fun _ _ _ _ _ _ hB507 x506 s505 => (have hB := noRs hB507 hB; jts_nil)) (fun _ _ _ _ _ _ hB507 x506 s505 => (have hB := noRs hB507 hB; (je_mapS (en := D.int) (v := fun (y513 : (Unit × Unit)) => (x506.1 * (Int.fdiv v_common_502 x506.2))) (st := fun (y513 : (Unit × Unit)) => ()) (ρ' := fun (s515 : Unit) => [.val ((eT (eP2 D.int D.int)) a.1), .val ((eP2 (eP2 D.int D.int) (eP2 D.int D.int)) a.2), .val ((eL (eP2 D.int D.int)) v_some_477), .val (D.int v_common_502), .val (D.int x506.1), .val (D.int x506.2)]) (je_opRG (ρb := fun _ => _) (s := fun (y509 : Unit) (z512 : Unit) => (.val (D.int (x506.1 * (Int.fdiv v_common_502 x506.2))))) (xb := fun (y509 : Unit) => D.int (Int.fdiv v_common_502 x506.2)) (fun _ _ ha hb => pe_op op_mulX ha hb) (jp_var 4) (je_op (fun _ _ ha hb => pe_op op_fdivZ ha hb) (jp_var 3) (jp_var 5) od_fdiv) (fun y509 => od_mul)))))))))))
abbrev s_fraction : Stmt := topS 2
theorem sc_fraction : FnScope ["n", "d", "by"] ["n", "d"] (defScope s_fraction) := ⟨rfl, rfl, rfl, by decide +kernel, rfl, by decide +kernel, by decide +kernel⟩
noncomputable def mb_fraction (v_n : Int) (v_d : Int) : R (Fl Unit Unit (Int × Int)) :=
((m_divisor (v_n, v_d)).bind fun (b537 : Int) => lt b537 fun v_by_536 =>
(bindF (if (decide (v_d < (0 : Int))) = true then (lt (-v_by_536) fun v_by_543 =>
(R.ok (.nx v_by_543))) else (R.ok (.nx v_by_536))) fun n544 =>
(((R.guard (divOk v_n n544)).bind fun (x547 : Unit) => (R.guard (divOk v_d n544)).bind fun (z551 : Unit) => R.ok (x547, z551)).bind fun (b552 : (Unit × Unit)) => R.ok (.rt ((Int.fdiv v_n n544), (Int.fdiv v_d n544))))))
noncomputable def m_fraction (a : (Int × Int)) : R (Int × Int) := fin0 (mb_fraction a.1 a.2)
abbrev i_fraction (a : (Int × Int)) : List Slot := [.val (D.int a.1), .val (D.int a.2)]
abbrev l_fraction (b : (Int × Int)) : Slot := .val ((eP2 D.int D.int) b)
abbrev o_fraction (b : (Int × Int)) : List Slot := [.non, .non]
theorem ok_fraction {P : Program} {w : World} {K : PySem.W.Frag} {mg : Str → Option Value} {base : Heap} (T : Top K mg) : FnG P w K mg base CX0 2 T.fraction.a T.fraction.d ["n", "d"] (spM K i_fraction m_fraction l_fraction o_fraction) := by
  show FnG P w K mg base CX0 (1 + 1) T.fraction.a T.fraction.d ["n", "d"] (spM K i_fraction (fun (a : (Int × Int)) => fin0 (mb_fraction a.1 a.2)) l_fraction o_fraction)
  refine fn_ok (n1 := fun _ => []) (c1 := fun _ => []) (k1 := fun _ => []) (ins := i_fraction) (sl := l_fraction) (outs := o_fraction) (fun (a : (Int × Int)) => mb_fraction a.1 a.2) 1 T.fraction.f sc_fraction rfl (fun _ => rfl) (fun _ => rfl) (fun _ => rfl) (fun cdv A outer s H E hr B hB a => ?_)
  show JSs _ B _ _ (mb_fraction a.1 a.2) _
  unfold mb_fraction
  exact ((js_setEQ 2 D.int (fun (b537 : Int) => b537) (fun (b537 : Int) (v_by_536 : Int) => [.val (D.int a.1), .val (D.int a.2), .val (D.int v_by_536)]) sc_fraction.nd (je_callV (ins := i_divisor) (mf := m_divisor) (sl := l_divisor) (outs := o_divisor) (ok_divisor T) (hr.mono (by decide)) (by rfl) T.divisor.g T.divisor.f.kp T.divisor.b pass0 (arg := (a.1, a.2)) (ja_p (jp_var 0) (ja_p (jp_var 1) ja_nil)) hB) fun b537 v_by_536 =>
(js_cons (ρ1 := fun (n544 : Int) => [.val (D.int a.1), .val (D.int a.2), .val (D.int n544)]) (js_ifP (jt_op (fun _ _ ha hb => pt_cmpR op_lt ha hb (nomark _)) (jp_var 1) jp_int od_lt) (js_setPQ 2 D.int (-v_by_536) (fun (v_by_543 : Int) => [.val (D.int a.1), .val (D.int a.2), .val (D.int v_by_543)]) sc_fraction.nd (jp_neg (jp_var 2)) fun v_by_543 =>
(js_nil [true, true, true] v_by_543)) (js_nil [true, true, true] v_by_536)) fun n544 =>
(js_one (js_ret (fun (b552 : (Unit × Unit)) => ((Int.fdiv a.1 n544), (Int.fdiv a.2 n544))) [false, false, false] (je_tup (ja_e (ρ' := fun _ _ => _) (ρa := fun _ => _) (xa := fun (x547 : Unit) => D.int (Int.fdiv a.1 n544)) (je_op (fun _ _ ha hb => pe_op op_fdivZ ha hb) (jp_var 0) (jp_var 2) od_fdiv) (fun x547 => (ja_el (ρa := fun _ => _) (xa := fun (x550 : Unit) => D.int (Int.fdiv a.2 n544)) (je_op (fun _ _ ha hb => pe_op op_fdivZ ha hb) (jp_var 1) (jp_var 2) od_fdiv) (fun x550 => ja_nil))))))))))
abbrev s_solved : Stmt := topS 9
theorem sc_solved : FnScope ["rows", "sides", "many", "found", "row", "side", "k"] ["rows", "sides"] (defScope s_solved) := ⟨rfl, rfl, rfl, by decide +kernel, rfl, by decide +kernel, by decide +kernel⟩
noncomputable def mb_solved (v_rows : (List (List (Int × Int)))) (v_sides : (List ((Int × Int) × (Int × Int)))) : R (Fl Unit Unit (Option (List ((Int × Int) × (Int × Int))))) :=
(lt ((List.length v_rows : Nat) : Int) fun v_many_375 =>
((((R.ok ()).bind fun (b467 : Unit) => (R.guard (List.length (List.zip v_rows v_sides) ≤ sizeLine)).bind fun _ => compR (compF (fun (x469 : ((List (Int × Int)) × ((Int × Int) × (Int × Int)))) (s468 : Unit) => R.ok ()) (fun (z519 : Unit) => true) (fun (x469 : ((List (Int × Int)) × ((Int × Int) × (Int × Int)))) (s468 : Unit) => ((m_whole_row (x469.1, x469.2)).bind fun (y518 : (List Int)) => R.ok (y518, ()))) Prod.fst Prod.snd) (List.zip v_rows v_sides) [] ()).bind fun (c521 : ((List (List Int)) × Unit)) => (m_cleared c521.1).bind fun (z522 : (Option (List (List Int)))) => R.ok (c521, z522)).bind fun (b525 : (((List (List Int)) × Unit) × (Option (List (List Int))))) => lt b525.2 fun v_found_524 =>
(bindF (if (isNon ((eO (eL (eL D.int))) v_found_524)) = true then (R.ok (.rt (none : (Option (List ((Int × Int) × (Int × Int))))))) else (R.ok (.nx ()))) fun n529 =>
((R.some v_found_524).bind fun (v_found_530 : (List (List Int))) =>
(((R.ok ()).bind fun (b532 : Unit) => (R.guard (List.length (enumL v_found_530) ≤ sizeLine)).bind fun _ => compR (compF (fun (x534 : (Int × (List Int))) (s533 : Unit) => R.ok ()) (fun (z577 : Unit) => true) (fun (x534 : (Int × (List Int))) (s533 : Unit) => (((((R.some (atI x534.2 v_many_375)).bind fun (x555 : Int) => (R.some (atI x534.2 x534.1)).bind fun (z559 : Int) => R.ok (x555, z559)).bind fun (c560 : (Int × Int)) => (m_fraction (c560.1, c560.2)).bind fun (z561 : (Int × Int)) => R.ok (c560, z561)).bind fun (x562 : ((Int × Int) × (Int × Int))) => (((R.some (atI x534.2 (v_many_375 + (1 : Int)))).bind fun (x567 : Int) => (R.some (atI x534.2 x534.1)).bind fun (z571 : Int) => R.ok (x567, z571)).bind fun (c572 : (Int × Int)) => (m_fraction (c572.1, c572.2)).bind fun (z573 : (Int × Int)) => R.ok (c572, z573)).bind fun (z575 : ((Int × Int) × (Int × Int))) => R.ok (x562, z575)).bind fun (y576 : (((Int × Int) × (Int × Int)) × ((Int × Int) × (Int × Int)))) => R.ok ((y576.1.2, y576.2.2), ()))) Prod.fst Prod.snd) (enumL v_found_530) [] ()).bind fun (b584 : ((List ((Int × Int) × (Int × Int))) × Unit)) => R.ok (.rt (some b584.1)))))))
noncomputable def m_solved (a : ((List (List (Int × Int))) × (List ((Int × Int) × (Int × Int))))) : R (Option (List ((Int × Int) × (Int × Int)))) := fin0 (mb_solved a.1 a.2)
abbrev i_solved (a : ((List (List (Int × Int))) × (List ((Int × Int) × (Int × Int))))) : List Slot := [.val ((eT (eT (eP2 D.int D.int))) a.1), .val ((eT (eP2 (eP2 D.int D.int) (eP2 D.int D.int))) a.2)]
abbrev l_solved (b : (Option (List ((Int × Int) × (Int × Int))))) : Slot := .val ((eO (eT (eP2 (eP2 D.int D.int) (eP2 D.int D.int)))) b)
abbrev o_solved (b : (Option (List ((Int × Int) × (Int × Int))))) : List Slot := [.non, .non]
theorem ok_solved {P : Program} {w : World} {K : PySem.W.Frag} {mg : Str → Option Value} {base : Heap} (T : Top K mg) : FnG P w K mg base CX0 4 T.solved.a T.solved.d ["rows", "sides"] (spM K i_solved m_solved l_solved o_solved) := by
  show FnG P w K mg base CX0 (3 + 1) T.solved.a T.solved.d ["rows", "sides"] (spM K i_solved (fun (a : ((List (List (Int × Int))) × (List ((Int × Int) × (Int × Int))))) => fin0 (mb_solved a.1 a.2)) l_solved o_solved)
  refine fn_ok (n1 := fun _ => []) (c1 := fun _ => []) (k1 := fun _ => []) (ins := i_solved) (sl := l_solved) (outs := o_solved) (fun (a : ((List (List (Int × Int))) × (List ((Int × Int) × (Int × Int))))) => mb_solved a.1 a.2) 5 T.solved.f sc_solved rfl (fun _ => rfl) (fun _ => rfl) (fun _ => rfl) (fun cdv A outer s H E hr B hB a => ?_)
  show JSs _ B _ _ (mb_solved a.1 a.2) _
  unfold mb_solved
  exact ((js_setPQ 2 D.int ((List.length a.1 : Nat) : Int) (fun (v_many_375 : Int) => [.val ((eT (eT (eP2 D.int D.int))) a.1), .val ((eT (eP2 (eP2 D.int D.int) (eP2 D.int D.int))) a.2), .val (D.int v_many_375), .non, .non, .non, .non]) sc_solved.nd (je_cb (fun _ ht => pe_callB call_len_seq (by rfl) T.z_len (by decide +kernel) ht) (ja_p (jp_var 0) ja_nil) cb_lenTm) fun v_many_375 =>
(js_setEQ 3 (eO (eL (eL D.int))) (fun (b525 : (((List (List Int)) × Unit) × (Option (List (List Int))))) => b525.2) (fun (b525 : (((List (List Int)) × Unit) × (Option (List (List Int))))) (v_found_524 : (Option (List (List Int)))) => [.val ((eT (eT (eP2 D.int D.int))) a.1), .val ((eT (eP2 (eP2 D.int D.int) (eP2 D.int D.int))) a.2), .val (D.int v_many_375), .val ((eO (eL (eL D.int))) v_found_524), .non, .non, .non]) sc_solved.nd (je_callTMv (ρa := fun _ => _) (ins := i_cleared) (mf := m_cleared) (sl := l_cleared) (outs := o_cleared) (ok_cleared T) (hr.mono (by decide)) (by rfl) T.cleared.g T.cleared.f.kp T.cleared.b pass0 (o := fun (c521 : ((List (List Int)) × Unit)) => (oL (eL D.int)) c521.1) (arg := fun (c521 : ((List (List Int)) × Unit)) => c521.1) (je_lc (xs := fun (b467 : Unit) => (List.zip a.1 a.2)) (ea := (eP2 (eT (eP2 D.int D.int)) (eP2 (eP2 D.int D.int) (eP2 D.int D.int)))) (ts := [4, 5]) (c := fun (x469 : ((List (Int × Int)) × ((Int × Int) × (Int × Int)))) (s468 : Unit) => R.ok ()) (bn := fun (z519 : Unit) => true) (me := fun (x469 : ((List (Int × Int)) × ((Int × Int) × (Int × Int)))) (s468 : Unit) => ((m_whole_row (x469.1, x469.2)).bind fun (y518 : (List Int)) => R.ok (y518, ()))) [("row", 4), ("side", 5)] (eL D.int) (fun (s468 : Unit) => [.val ((eT (eT (eP2 D.int D.int))) a.1), .val ((eT (eP2 (eP2 D.int D.int) (eP2 D.int D.int))) a.2), .val (D.int v_many_375), .non, .non, .non, .non]) (fun (b467 : Unit) => ()) (fun (x469 : ((List (Int × Int)) × ((Int × Int) × (Int × Int)))) (s468 : Unit) => [.val ((eT (eT (eP2 D.int D.int))) a.1), .val ((eT (eP2 (eP2 D.int D.int) (eP2 D.int D.int))) a.2), .val (D.int v_many_375), .non, .val ((eT (eP2 D.int D.int)) x469.1), .val ((eP2 (eP2 D.int D.int) (eP2 D.int D.int)) x469.2), .non]) Prod.fst Prod.snd rfl sc_solved.nd (ji_zipT (f := (eT (eP2 D.int D.int))) (g := (eP2 (eP2 D.int D.int) (eP2 D.int D.int))) (xs := fun (b466 : Unit) => a.1) (ys := fun (b466 : Unit) => a.2) (by rfl) T.z_zip (ja_p (jp_var 0) (ja_p (jp_var 1) ja_nil))) (blkOk_by (N := ["rows", "sides", "many", "found", "row", "side", "k"]) (sc := defScope s_solved) (by decide +kernel)) (fun _ => rfl) (fun _ _ _ _ _ _ hB470 x469 s468 => (have hB := noRs hB470 hB; (jn_tup rfl (jns_cons (jn_name 4 sc_solved.nd) (jns_cons (jn_name 5 sc_solved.nd) jns_nil))))) (fun _ _ _ _ _ _ hB470 x469 s468 => (have hB := noRs hB470 hB; jts_nil)) (fun _ _ _ _ _ _ hB470 x469 s468 => (have hB := noRs hB470 hB; (je_mapS (en := (eL D.int)) (v := fun (y518 : (List Int)) => y518) (st := fun (y518 : (List Int)) => ()) (ρ' := fun (s520 : Unit) => [.val ((eT (eT (eP2 D.int D.int))) a.1), .val ((eT (eP2 (eP2 D.int D.int) (eP2 D.int D.int))) a.2), .val (D.int v_many_375), .non, .val ((eT (eP2 D.int D.int)) x469.1), .val ((eP2 (eP2 D.int D.int) (eP2 D.int D.int)) x469.2), .non]) (je_frzL (v := fun (b517 : (List Int)) => b517) (je_callV (ins := i_whole_row) (mf := m_whole_row) (sl := l_whole_row) (outs := o_whole_row) (ok_whole_row T) (hr.mono (by decide)) (by rfl) T.whole_row.g T.whole_row.f.kp T.whole_row.b pass0 (arg := (x469.1, x469.2)) (ja_p (jp_var 4) (ja_p (jp_var 5) ja_nil)) hB)))))) (fun _ hB523 c521 => (have hB := noRs hB523 hB; ja_nil)) hB) fun b525 v_found_524 =>
(js_cons (ρ1 := fun (n529 : Unit) => [.val ((eT (eT (eP2 D.int D.int))) a.1), .val ((eT (eP2 (eP2 D.int D.int) (eP2 D.int D.int))) a.2), .val (D.int v_many_375), .val ((eO (eL (eL D.int))) v_found_524), .non, .non, .non]) (js_ifP (jt_op (fun _ _ ha hb => pt_cmpR op_isN ha hb (nomark _)) (jp_var 3) jp_non od_isN) (js_one (js_retP (none : (Option (List ((Int × Int) × (Int × Int))))) [false, false, false, false, true, true, true] (show JP _ _ _ _ ((eO (eT (eP2 (eP2 D.int D.int) (eP2 D.int D.int)))) (none : (Option (List ((Int × Int) × (Int × Int)))))) from jp_non))) (js_nil [true, true, true, true, true, true, true] ())) fun n529 =>
(js_castO 3 (g := (eL (eL D.int))) v_found_524 fun v_found_530 =>
(js_one (js_ret (fun (b584 : ((List ((Int × Int) × (Int × Int))) × Unit)) => (some b584.1)) [false, false, false, false, true, true, true] (je_cast (s2 := fun (b583 : ((List ((Int × Int) × (Int × Int))) × Unit)) => .val ((eO (eT (eP2 (eP2 D.int D.int) (eP2 D.int D.int)))) (some b583.1))) (je_cbN (ρa := fun _ => _) (s := fun (c581 : ((List ((Int × Int) × (Int × Int))) × Unit)) => .val ((eT (eP2 (eP2 D.int D.int) (eP2 D.int D.int))) c581.1)) (fun _ ht => pe_callTy call_tuple_of (by rfl) T.z_tuple (by decide +kernel) ht) (ja_el (ρa := fun _ => _) (xa := fun (x580 : ((List ((Int × Int) × (Int × Int))) × Unit)) => (eL (eP2 (eP2 D.int D.int) (eP2 D.int D.int))) x580.1) (je_frzL (v := fun (b579 : ((List ((Int × Int) × (Int × Int))) × Unit)) => b579.1) (je_lc (xs := fun (b532 : Unit) => (enumL v_found_530)) (ea := (eP2 D.int (eL D.int))) (ts := [6, 4]) (c := fun (x534 : (Int × (List Int))) (s533 : Unit) => R.ok ()) (bn := fun (z577 : Unit) => true) (me := fun (x534 : (Int × (List Int))) (s533 : Unit) => (((((R.some (atI x534.2 v_many_375)).bind fun (x555 : Int) => (R.some (atI x534.2 x534.1)).bind fun (z559 : Int) => R.ok (x555, z559)).bind fun (c560 : (Int × Int)) => (m_fraction (c560.1, c560.2)).bind fun (z561 : (Int × Int)) => R.ok (c560, z561)).bind fun (x562 : ((Int × Int) × (Int × Int))) => (((R.some (atI x534.2 (v_many_375 + (1 : Int)))).bind fun (x567 : Int) => (R.some (atI x534.2 x534.1)).bind fun (z571 : Int) => R.ok (x567, z571)).bind fun (c572 : (Int × Int)) => (m_fraction (c572.1, c572.2)).bind fun (z573 : (Int × Int)) => R.ok (c572, z573)).bind fun (z575 : ((Int × Int) × (Int × Int))) => R.ok (x562, z575)).bind fun (y576 : (((Int × Int) × (Int × Int)) × ((Int × Int) × (Int × Int)))) => R.ok ((y576.1.2, y576.2.2), ()))) [("k", 6), ("row", 4)] (eP2 (eP2 D.int D.int) (eP2 D.int D.int)) (fun (s533 : Unit) => [.val ((eT (eT (eP2 D.int D.int))) a.1), .val ((eT (eP2 (eP2 D.int D.int) (eP2 D.int D.int))) a.2), .val (D.int v_many_375), .val ((eL (eL D.int)) v_found_530), .non, .non, .non]) (fun (b532 : Unit) => ()) (fun (x534 : (Int × (List Int))) (s533 : Unit) => [.val ((eT (eT (eP2 D.int D.int))) a.1), .val ((eT (eP2 (eP2 D.int D.int) (eP2 D.int D.int))) a.2), .val (D.int v_many_375), .val ((eL (eL D.int)) v_found_530), .val ((eL D.int) x534.2), .non, .val (D.int x534.1)]) Prod.fst Prod.snd rfl sc_solved.nd (ji_enum (f := (eL D.int)) (xs := fun (b531 : Unit) => v_found_530) (by rfl) T.z_enumerate (jp_var 3)) (blkOk_by (N := ["rows", "sides", "many", "found", "row", "side", "k"]) (sc := defScope s_solved) (by decide +kernel)) (fun _ => rfl) (fun _ _ _ _ _ _ hB535 x534 s533 => (have hB := noRs hB535 hB; (jn_tup rfl (jns_cons (jn_name 6 sc_solved.nd) (jns_cons (jn_name 4 sc_solved.nd) jns_nil))))) (fun _ _ _ _ _ _ hB535 x534 s533 => (have hB := noRs hB535 hB; jts_nil)) (fun _ _ _ _ _ _ hB535 x534 s533 => (have hB := noRs hB535 hB; (je_mapS (en := (eP2 (eP2 D.int D.int) (eP2 D.int D.int))) (v := fun (y576 : (((Int × Int) × (Int × Int)) × ((Int × Int) × (Int × Int)))) => (y576.1.2, y576.2.2)) (st := fun (y576 : (((Int × Int) × (Int × Int)) × ((Int × Int) × (Int × Int)))) => ()) (ρ' := fun (s578 : Unit) => [.val ((eT (eT (eP2 D.int D.int))) a.1), .val ((eT (eP2 (eP2 D.int D.int) (eP2 D.int D.int))) a.2), .val (D.int v_many_375), .val ((eL (eL D.int)) v_found_530), .val ((eL D.int) x534.2), .non, .val (D.int x534.1)]) (je_tup (ja_e (ρ' := fun _ _ => _) (ρa := fun _ => _) (xa := fun (x562 : ((Int × Int) × (Int × Int))) => (eP2 D.int D.int) x562.2) (je_callVE (ρa := fun _ => _) (ins := i_fraction) (mf := m_fraction) (sl := l_fraction) (outs := o_fraction) (ok_fraction T) (hr.mono (by decide)) (by rfl) T.fraction.g T.fraction.f.kp T.fraction.b pass0 (arg := fun (c560 : (Int × Int)) => (c560.1, c560.2)) (ja_e (ρ' := fun _ _ => _) (ρa := fun _ => _) (xa := fun (x555 : Int) => D.int x555) (je_op (fun _ _ ha hb => pe_ix ix_list ha hb (fun _ _ => rfl)) (jp_var 4) (jp_var 2) od_ixLm) (fun x555 => (ja_el (ρa := fun _ => _) (xa := fun (x558 : Int) => D.int x558) (je_op (fun _ _ ha hb => pe_ix ix_list ha hb (fun _ _ => rfl)) (jp_var 4) (jp_var 6) od_ixLm) (fun x558 => ja_nil)))) hB) (fun x562 => (ja_el (ρa := fun _ => _) (xa := fun (x574 : ((Int × Int) × (Int × Int))) => (eP2 D.int D.int) x574.2) (je_callVE (ρa := fun _ => _) (ins := i_fraction) (mf := m_fraction) (sl := l_fraction) (outs := o_fraction) (ok_fraction T) (hr.mono (by decide)) (by rfl) T.fraction.g T.fraction.f.kp T.fraction.b pass0 (arg := fun (c572 : (Int × Int)) => (c572.1, c572.2)) (ja_e (ρ' := fun _ _ => _) (ρa := fun _ => _) (xa := fun (x567 : Int) => D.int x567) (je_op (fun _ _ ha hb => pe_ix ix_list ha hb (fun _ _ => rfl)) (jp_var 4) (je_op (fun _ _ ha hb => pe_op op_add ha hb) (jp_var 2) jp_int od_add) od_ixLm) (fun x567 => (ja_el (ρa := fun _ => _) (xa := fun (x570 : Int) => D.int x570) (je_op (fun _ _ ha hb => pe_ix ix_list ha hb (fun _ _ => rfl)) (jp_var 4) (jp_var 6) od_ixLm) (fun x570 => ja_nil)))) hB) (fun x574 => ja_nil)))))))))) (fun x580 => ja_nil)) (fun c581 => cb_tupL)) (fun _ => rfl)))))))))
abbrev s_law_shorter : Stmt := topS 23
theorem sc_law_shorter : FnScope ["_law_row", "_law_lead", "_law_found", "_law_by", "_law_number", "_law_one", "_law_other"] ["_law_row", "_law_lead"] (defScope s_law_shorter) := ⟨rfl, rfl, rfl, by decide +kernel, rfl, by decide +kernel, by decide +kernel⟩
noncomputable def mb_law_shorter (v_row : (List Int)) (v_lead : (List Int)) : R (Fl Unit Unit (List Int)) :=
(((R.ok ()).bind fun (b663 : Unit) => (R.guard (List.length (List.zip v_row v_lead) ≤ sizeLine)).bind fun _ => compR (compF (fun (x665 : (Int × Int)) (s664 : Unit) => R.ok ()) (fun (z680 : Unit) => true) (fun (x665 : (Int × Int)) (s664 : Unit) => ((op2 ((R.some (atI v_lead (-(1 : Int)))).bind fun (y668 : Int) => (R.guard (CMulX x665.1 y668)).bind fun (z671 : Unit) => R.ok (y668, z671)) (fun (x672 : (Int × Unit)) => ((R.some (atI v_row (-(1 : Int)))).bind fun (y675 : Int) => (R.guard (CMulX x665.2 y675)).bind fun (z678 : Unit) => R.ok (y675, z678))) (fun (x672 : (Int × Unit)) (y673 : (Int × Unit)) => R.ok ())).bind fun (y679 : ((Int × Unit) × (Int × Unit) × Unit)) => R.ok (((x665.1 * y679.1.1) - (x665.2 * y679.2.1.1)), ()))) Prod.fst Prod.snd) (List.zip v_row v_lead) [] ()).bind fun (b685 : ((List Int) × Unit)) => lt (cut b685.1 none (some (-(1 : Int)))) fun v_found_684 =>
(lt (0 : Int) fun v_by_686 =>
(bindF (forR (fun (x690 : Int) (s688 : Int) =>
((m_law_common (s688, (if x690 < 0 then -x690 else x690))).bind fun (b692 : Int) => lt b692 fun v_by_691 =>
(R.ok (.nx v_by_691)))) v_found_684 v_by_686) fun n689 =>
(((R.ok ()).bind fun (b693 : Unit) => (R.guard (List.length v_found_684 ≤ sizeLine)).bind fun _ => compR (compF (fun (x695 : Int) (s694 : Unit) => R.ok ()) (fun (z700 : Unit) => true) (fun (x695 : Int) (s694 : Unit) => ((R.guard (divOk x695 (max (1 : Int) n689))).bind fun (y699 : Unit) => R.ok ((Int.fdiv x695 (max (1 : Int) n689)), ()))) Prod.fst Prod.snd) v_found_684 [] ()).bind fun (b702 : ((List Int) × Unit)) => R.ok (.rt b702.1)))))
noncomputable def m_law_shorter (a : ((List Int) × (List Int))) : R (List Int) := fin0 (mb_law_shorter a.1 a.2)
abbrev i_law_shorter (a : ((List Int) × (List Int))) : List Slot := [.val ((eL D.int) a.1), .val ((eL D.int) a.2)]
abbrev l_law_shorter (b : (List Int)) : Slot := .own 0 ((oL D.int) b)
abbrev o_law_shorter (b : (List Int)) : List Slot := [.non, .non]
theorem ok_law_shorter {P : Program} {w : World} {K : PySem.W.Frag} {mg : Str → Option Value} {base : Heap} (T : Top K mg) : FnG P w K mg base CX0 2 T.law_shorter.a T.law_shorter.d ["_law_row", "_law_lead"] (spM K i_law_shorter m_law_shorter l_law_shorter o_law_shorter) := by
  show FnG P w K mg base CX0 (1 + 1) T.law_shorter.a T.law_shorter.d ["_law_row", "_law_lead"] (spM K i_law_shorter (fun (a : ((List Int) × (List Int))) => fin0 (mb_law_shorter a.1 a.2)) l_law_shorter o_law_shorter)
  refine fn_ok (n1 := fun _ => []) (c1 := fun _ => []) (k1 := fun _ => []) (ins := i_law_shorter) (sl := l_law_shorter) (outs := o_law_shorter) (fun (a : ((List Int) × (List Int))) => mb_law_shorter a.1 a.2) 5 T.law_shorter.f sc_law_shorter rfl (fun _ => rfl) (fun _ => rfl) (fun _ => rfl) (fun cdv A outer s H E hr B hB a => ?_)
  show JSs _ B _ _ (mb_law_shorter a.1 a.2) _
  unfold mb_law_shorter
  exact ((js_setEQ 2 (eL D.int) (fun (b685 : ((List Int) × Unit)) => (cut b685.1 none (some (-(1 : Int))))) (fun (b685 : ((List Int) × Unit)) (v_found_684 : (List Int)) => [.val ((eL D.int) a.1), .val ((eL D.int) a.2), .val ((eL D.int) v_found_684), .non, .non, .non, .non]) sc_law_shorter.nd (je_frzL (v := fun (b683 : ((List Int) × Unit)) => (cut b683.1 none (some (-(1 : Int))))) (je_slLm (je_frzL (v := fun (b682 : ((List Int) × Unit)) => b682.1) (je_lc (xs := fun (b663 : Unit) => (List.zip a.1 a.2)) (ea := (eP2 D.int D.int)) (ts := [5, 6]) (c := fun (x665 : (Int × Int)) (s664 : Unit) => R.ok ()) (bn := fun (z680 : Unit) => true) (me := fun (x665 : (Int × Int)) (s664 : Unit) => ((op2 ((R.some (atI a.2 (-(1 : Int)))).bind fun (y668 : Int) => (R.guard (CMulX x665.1 y668)).bind fun (z671 : Unit) => R.ok (y668, z671)) (fun (x672 : (Int × Unit)) => ((R.some (atI a.1 (-(1 : Int)))).bind fun (y675 : Int) => (R.guard (CMulX x665.2 y675)).bind fun (z678 : Unit) => R.ok (y675, z678))) (fun (x672 : (Int × Unit)) (y673 : (Int × Unit)) => R.ok ())).bind fun (y679 : ((Int × Unit) × (Int × Unit) × Unit)) => R.ok (((x665.1 * y679.1.1) - (x665.2 * y679.2.1.1)), ()))) [("_law_one", 5), ("_law_other", 6)] D.int (fun (s664 : Unit) => [.val ((eL D.int) a.1), .val ((eL D.int) a.2), .non, .non, .non, .non, .non]) (fun (b663 : Unit) => ()) (fun (x665 : (Int × Int)) (s664 : Unit) => [.val ((eL D.int) a.1), .val ((eL D.int) a.2), .non, .non, .non, .val (D.int x665.1), .val (D.int x665.2)]) Prod.fst Prod.snd rfl sc_law_shorter.nd (ji_zipL (f := D.int) (g := D.int) (xs := fun (b662 : Unit) => a.1) (ys := fun (b662 : Unit) => a.2) (by rfl) T.z_zip (ja_p (jp_var 0) (ja_p (jp_var 1) ja_nil))) (blkOk_by (by rfl)) (fun _ => rfl) (fun _ _ _ _ _ _ hB666 x665 s664 => (have hB := noRs hB666 hB; (jn_tup rfl (jns_cons (jn_name 5 sc_law_shorter.nd) (jns_cons (jn_name 6 sc_law_shorter.nd) jns_nil))))) (fun _ _ _ _ _ _ hB666 x665 s664 => (have hB := noRs hB666 hB; jts_nil)) (fun _ _ _ _ _ _ hB666 x665 s664 => (have hB := noRs hB666 hB; (je_mapS (en := D.int) (v := fun (y679 : ((Int × Unit) × (Int × Unit) × Unit)) => ((x665.1 * y679.1.1) - (x665.2 * y679.2.1.1))) (st := fun (y679 : ((Int × Unit) × (Int × Unit) × Unit)) => ()) (ρ' := fun (s681 : Unit) => [.val ((eL D.int) a.1), .val ((eL D.int) a.2), .non, .non, .non, .val (D.int x665.1), .val (D.int x665.2)]) (je_op2 (ρa := fun _ => _) (ρb := fun _ _ => _) (s := fun (x672 : (Int × Unit)) (y673 : (Int × Unit)) (z0 : Unit) => (.val (D.int ((x665.1 * x672.1) - (x665.2 * y673.1))))) (xa := fun (x672 : (Int × Unit)) => D.int (x665.1 * x672.1)) (xb := fun (x672 : (Int × Unit)) (y673 : (Int × Unit)) => D.int (x665.2 * y673.1)) (fun _ _ ha hb => pe_op op_sub ha hb) (je_opRG (ρb := fun _ => _) (s := fun (y668 : Int) (z671 : Unit) => (.val (D.int (x665.1 * y668)))) (xb := fun (y668 : Int) => D.int y668) (fun _ _ ha hb => pe_op op_mulX ha hb) (jp_var 5) (je_op (fun _ _ ha hb => pe_ix ix_list ha hb (fun _ _ => rfl)) (jp_var 1) (jp_neg jp_int) od_ixLm) (fun y668 => od_mul)) (fun x672 => (je_opRG (ρb := fun _ => _) (s := fun (y675 : Int) (z678 : Unit) => (.val (D.int (x665.2 * y675)))) (xb := fun (y675 : Int) => D.int y675) (fun _ _ ha hb => pe_op op_mulX ha hb) (jp_var 6) (je_op (fun _ _ ha hb => pe_ix ix_list ha hb (fun _ _ => rfl)) (jp_var 0) (jp_neg jp_int) od_ixLm) (fun y675 => od_mul))) (fun x672 y673 => od_sub))))))) (fun _ => jo_none) (fun _ => (jo_some (jp_neg jp_int))))) fun b685 v_found_684 =>
(js_setPQ 3 D.int (0 : Int) (fun (v_by_686 : Int) => [.val ((eL D.int) a.1), .val ((eL D.int) a.2), .val ((eL D.int) v_found_684), .val (D.int v_by_686), .non, .non, .non]) sc_law_shorter.nd jp_int fun v_by_686 =>
(js_cons (ρ1 := fun (n689 : Int) => [.val ((eL D.int) a.1), .val ((eL D.int) a.2), .val ((eL D.int) v_found_684), .val (D.int n689), .non, .non, .non]) (js_forP (en := D.int) (fun (s688 : Int) => [.val ((eL D.int) a.1), .val ((eL D.int) a.2), .val ((eL D.int) v_found_684), .val (D.int s688), .non, .non, .non]) (fun (x690 : Int) (s688 : Int) => [.val ((eL D.int) a.1), .val ((eL D.int) a.2), .val ((eL D.int) v_found_684), .val (D.int s688), .val (D.int x690), .non, .non]) PassesOwn.never rfl (ji_list (jp_var 2)) [true, true, true, true, true, true, true] rfl (fun x690 s688 => (jg_name 4 sc_law_shorter.nd)) (fun x690 s688 =>
(js_setEQ 3 D.int (fun (b692 : Int) => b692) (fun (b692 : Int) (v_by_691 : Int) => [.val ((eL D.int) a.1), .val ((eL D.int) a.2), .val ((eL D.int) v_found_684), .val (D.int v_by_691), .val (D.int x690), .non, .non]) sc_law_shorter.nd (je_callV (ins := i_law_common) (mf := m_law_common) (sl := l_law_common) (outs := o_law_common) (ok_law_common T) (hr.mono (by decide)) (by rfl) T.law_common.g T.law_common.f.kp T.law_common.b pass0 (arg := (s688, (if x690 < 0 then -x690 else x690))) (ja_p (jp_var 3) (ja_p (je_cb (fun _ ht => pe_callB call_abs (by rfl) T.z_abs (by decide +kernel) ht) (ja_p (jp_var 4) ja_nil) cb_abs) ja_nil)) hB) fun b692 v_by_691 =>
(js_nil [true, true, true, true, false, true, true] v_by_691)))) fun n689 =>
(js_one (js_ret (fun (b702 : ((List Int) × Unit)) => b702.1) [false, false, false, false, true, true, true] (je_lc (xs := fun (b693 : Unit) => v_found_684) (ea := D.int) (ts := [4]) (c := fun (x695 : Int) (s694 : Unit) => R.ok ()) (bn := fun (z700 : Unit) => true) (me := fun (x695 : Int) (s694 : Unit) => ((R.guard (divOk x695 (max (1 : Int) n689))).bind fun (y699 : Unit) => R.ok ((Int.fdiv x695 (max (1 : Int) n689)), ()))) [("_law_number", 4)] D.int (fun (s694 : Unit) => [.val ((eL D.int) a.1), .val ((eL D.int) a.2), .val ((eL D.int) v_found_684), .val (D.int n689), .non, .non, .non]) (fun (b693 : Unit) => ()) (fun (x695 : Int) (s694 : Unit) => [.val ((eL D.int) a.1), .val ((eL D.int) a.2), .val ((eL D.int) v_found_684), .val (D.int n689), .val (D.int x695), .non, .non]) Prod.fst Prod.snd rfl sc_law_shorter.nd (ji_list (jp_var 2)) (blkOk_by (by rfl)) (fun _ => rfl) (fun _ _ _ _ _ _ hB696 x695 s694 => (have hB := noRs hB696 hB; (jn_name 4 sc_law_shorter.nd))) (fun _ _ _ _ _ _ hB696 x695 s694 => (have hB := noRs hB696 hB; jts_nil)) (fun _ _ _ _ _ _ hB696 x695 s694 => (have hB := noRs hB696 hB; (je_mapS (en := D.int) (v := fun (y699 : Unit) => (Int.fdiv x695 (max (1 : Int) n689))) (st := fun (y699 : Unit) => ()) (ρ' := fun (s701 : Unit) => [.val ((eL D.int) a.1), .val ((eL D.int) a.2), .val ((eL D.int) v_found_684), .val (D.int n689), .val (D.int x695), .non, .non]) (je_op (fun _ _ ha hb => pe_op op_fdivZ ha hb) (jp_var 4) (je_cb (fun _ ht => pe_callB (call_max2 rfl) (by rfl) T.z_max (by decide +kernel) ht) (ja_p jp_int (ja_p (jp_var 3) ja_nil)) cb_max) od_fdiv)))))))))))
abbrev s_law_is_lone : Stmt := topS 22
theorem sc_law_is_lone : FnScope ["_law_rows_here", "_law_here", "_law_row", "_law_by", "_law_n", "_law_d", "_law_lead"] ["_law_rows_here"] (defScope s_law_is_lone) := ⟨rfl, rfl, rfl, by decide +kernel, rfl, by decide +kernel, by decide +kernel⟩
noncomputable def mb_law_is_lone (v_rows_here : (List (List (Int × Int)))) : R (Fl Unit Unit Bool) :=
((R.ok ()).bind fun (b593 : Unit) => lt ([] : List (List Int)) fun v_here_592 =>
(bindF (forR (fun (x597 : (List (Int × Int))) (s595 : (List (List Int))) =>
(lt (1 : Int) fun v_by_598 =>
(bindF (forR (fun (x602 : (Int × Int)) (s600 : Int) =>
((R.guard (CMulX s600 x602.2)).bind fun (b606 : Unit) => lt (s600 * x602.2) fun v_by_605 =>
(R.ok (.nx v_by_605)))) x597 v_by_598) fun n601 =>
((((R.ok ()).bind fun (b608 : Unit) => (R.guard (List.length x597 ≤ sizeLine)).bind fun _ => compR (compF (fun (x610 : (Int × Int)) (s609 : Unit) => R.ok ()) (fun (z618 : Unit) => true) (fun (x610 : (Int × Int)) (s609 : Unit) => (((R.guard (divOk n601 x610.2)).bind fun (y613 : Unit) => (R.guard (CMulX x610.1 (Int.fdiv n601 x610.2))).bind fun (z616 : Unit) => R.ok (y613, z616)).bind fun (y617 : (Unit × Unit)) => R.ok ((x610.1 * (Int.fdiv n601 x610.2)), ()))) Prod.fst Prod.snd) x597 [] ()).bind fun (b607 : ((List Int) × Unit)) => (R.guard (List.length s595 < sizeLine)).bind fun _ => R.ok b607).bind fun (b621 : ((List Int) × Unit)) =>
(R.ok (.nx (s595 ++ [b621.1]))))))) v_rows_here v_here_592) fun n596 =>
(bindF (whR (fun (s622 : (List (List Int))) => R.ok (!decide (s622 = ([] : List (List Int))))) (fun s622 =>
(((R.guard (s622 ≠ [])).bind fun _ => ((R.ok ()).bind fun (b630 : Unit) => (R.guard (List.length s622 ≤ sizeLine)).bind fun _ => compR (compF (fun (x632 : (List Int)) (s631 : Unit) => R.some (atI x632 (-(1 : Int)))) (fun (z640 : Int) => (!decide (z640 = (0 : Int)))) (fun (x632 : (List Int)) (s631 : Unit) => ((R.ok ()).bind fun (y639 : Unit) => R.ok (x632, ()))) Prod.fst Prod.snd) s622 [] ())).bind fun (b647 : ((List (List Int)) × Unit)) => lt (cut b647.1 none (some (1 : Int))) fun v_lead_646 =>
(bindF (if (decide (v_lead_646 = ([] : List (List Int)))) = true then (R.ok (.rt false)) else (R.ok (.nx ()))) fun n652 =>
(((R.some (atI v_lead_646 (0 : Int))).bind fun (b655 : (List Int)) => (R.some (ixOf b655 s622)).bind fun (j656 : Nat) => R.ok (b655, j656)).bind fun (b657 : ((List Int) × Nat)) =>
(((R.ok ()).bind fun (b658 : Unit) => (R.guard (List.length (List.eraseIdx s622 b657.2) ≤ sizeLine)).bind fun _ => compR (compF (fun (x660 : (List Int)) (s659 : Unit) => R.ok ()) (fun (z710 : Unit) => true) (fun (x660 : (List Int)) (s659 : Unit) => (((R.some (atI v_lead_646 (0 : Int))).bind fun (c706 : (List Int)) => (m_law_shorter (x660, c706)).bind fun (z707 : (List Int)) => R.ok (c706, z707)).bind fun (y709 : ((List Int) × (List Int))) => R.ok (y709.2, ()))) Prod.fst Prod.snd) (List.eraseIdx s622 b657.2) [] ()).bind fun (b712 : ((List (List Int)) × Unit)) => lt b712.1 fun v_here_713 =>
(R.ok (.nx v_here_713))))))) n596) fun n623 =>
(R.ok (.rt true)))))
noncomputable def m_law_is_lone (a : (List (List (Int × Int)))) : R Bool := fin0 (mb_law_is_lone a)
abbrev i_law_is_lone (a : (List (List (Int × Int)))) : List Slot := [.val ((eT (eT (eP2 D.int D.int))) a)]
abbrev l_law_is_lone (b : Bool) : Slot := .val (D.bool b)
abbrev o_law_is_lone (b : Bool) : List Slot := [.non]
theorem ok_law_is_lone {P : Program} {w : World} {K : PySem.W.Frag} {mg : Str → Option Value} {base : Heap} (T : Top K mg) : FnG P w K mg base CX0 3 T.law_is_lone.a T.law_is_lone.d ["_law_rows_here"] (spM K i_law_is_lone m_law_is_lone l_law_is_lone o_law_is_lone) := by
  show FnG P w K mg base CX0 (2 + 1) T.law_is_lone.a T.law_is_lone.d ["_law_rows_here"] (spM K i_law_is_lone (fun (a : (List (List (Int × Int)))) => fin0 (mb_law_is_lone a)) l_law_is_lone o_law_is_lone)
  refine fn_ok (n1 := fun _ => []) (c1 := fun _ => []) (k1 := fun _ => []) (ins := i_law_is_lone) (sl := l_law_is_lone) (outs := o_law_is_lone) (fun (a : (List (List (Int × Int)))) => mb_law_is_lone a) 6 T.law_is_lone.f sc_law_is_lone rfl (fun _ => rfl) (fun _ => rfl) (fun _ => rfl) (fun cdv A outer s H E hr B hB a => ?_)
  show JSs _ B _ _ (mb_law_is_lone a) _
  unfold mb_law_is_lone
  exact ((js_setOQ 1 (oL (eL D.int)) (fun (b593 : Unit) => ([] : List (List Int))) (fun (b593 : Unit) (v_here_592 : (List (List Int))) => [.val ((eT (eT (eP2 D.int D.int))) a), .own 0 ((oL (eL D.int)) v_here_592), .non, .non, .non, .non, .non]) sc_law_is_lone.nd (je_lstT (eL D.int) (fun (_ : Unit) => ([] : List (List Int))) ja_nil) fun b593 v_here_592 =>
(js_cons (ρ1 := fun (n596 : (List (List Int))) => [.val ((eT (eT (eP2 D.int D.int))) a), .own 0 ((oL (eL D.int)) n596), .non, .non, .non, .non, .non]) (js_forP (en := (eT (eP2 D.int D.int))) (fun (s595 : (List (List Int))) => [.val ((eT (eT (eP2 D.int D.int))) a), .own 0 ((oL (eL D.int)) s595), .non, .non, .non, .non, .non]) (fun (x597 : (List (Int × Int))) (s595 : (List (List Int))) => [.val ((eT (eT (eP2 D.int D.int))) a), .own 0 ((oL (eL D.int)) s595), .val ((eT (eP2 D.int D.int)) x597), .non, .non, .non, .non]) PassesOwn.never rfl (ji_tup (jp_var 0)) [true, true, true, true, true, true, true] rfl (fun x597 s595 => (jg_name 2 sc_law_is_lone.nd)) (fun x597 s595 =>
(js_setPQ 3 D.int (1 : Int) (fun (v_by_598 : Int) => [.val ((eT (eT (eP2 D.int D.int))) a), .own 0 ((oL (eL D.int)) s595), .val ((eT (eP2 D.int D.int)) x597), .val (D.int v_by_598), .non, .non, .non]) sc_law_is_lone.nd jp_int fun v_by_598 =>
(js_cons (ρ1 := fun (n601 : Int) => [.val ((eT (eT (eP2 D.int D.int))) a), .own 0 ((oL (eL D.int)) s595), .val ((eT (eP2 D.int D.int)) x597), .val (D.int n601), .non, .non, .non]) (js_forP (en := (eP2 D.int D.int)) (fun (s600 : Int) => [.val ((eT (eT (eP2 D.int D.int))) a), .own 0 ((oL (eL D.int)) s595), .val ((eT (eP2 D.int D.int)) x597), .val (D.int s600), .non, .non, .non]) (fun (x602 : (Int × Int)) (s600 : Int) => [.val ((eT (eT (eP2 D.int D.int))) a), .own 0 ((oL (eL D.int)) s595), .val ((eT (eP2 D.int D.int)) x597), .val (D.int s600), .val (D.int x602.1), .val (D.int x602.2), .non]) PassesOwn.never rfl (ji_tup (jp_var 2)) [true, true, true, true, true, true, true] rfl (fun x602 s600 => (jg_tup rfl (jgs_p (jg_name 4 sc_law_is_lone.nd) (jgs_p (jg_name 5 sc_law_is_lone.nd) jgs_nil)))) (fun x602 s600 =>
(js_setEQ 3 D.int (fun (b606 : Unit) => (s600 * x602.2)) (fun (b606 : Unit) (v_by_605 : Int) => [.val ((eT (eT (eP2 D.int D.int))) a), .own 0 ((oL (eL D.int)) s595), .val ((eT (eP2 D.int D.int)) x597), .val (D.int v_by_605), .val (D.int x602.1), .val (D.int x602.2), .non]) sc_law_is_lone.nd (je_op (fun _ _ ha hb => pe_op op_mulX ha hb) (jp_var 3) (jp_var 5) od_mul) fun b606 v_by_605 =>
(js_nil [true, true, true, true, false, false, true] v_by_605)))) fun n601 =>
(js_consQ1 (fun (b621 : ((List Int) × Unit)) => [.val ((eT (eT (eP2 D.int D.int))) a), .own 0 ((oL (eL D.int)) (s595 ++ [b621.1])), .val ((eT (eP2 D.int D.int)) x597), .val (D.int n601), .non, .non, .non]) (j1_expr (je_app 1 (f := (eL D.int)) (y := fun (b607 : ((List Int) × Unit)) => b607.1) (ρ' := fun (b607 : ((List Int) × Unit)) => [.val ((eT (eT (eP2 D.int D.int))) a), .own 0 ((oL (eL D.int)) s595), .val ((eT (eP2 D.int D.int)) x597), .val (D.int n601), .non, .non, .non]) (fun (b607 : ((List Int) × Unit)) => s595) (je_frzL (v := fun (b620 : ((List Int) × Unit)) => b620.1) (je_lc (xs := fun (b608 : Unit) => x597) (ea := (eP2 D.int D.int)) (ts := [4, 5]) (c := fun (x610 : (Int × Int)) (s609 : Unit) => R.ok ()) (bn := fun (z618 : Unit) => true) (me := fun (x610 : (Int × Int)) (s609 : Unit) => (((R.guard (divOk n601 x610.2)).bind fun (y613 : Unit) => (R.guard (CMulX x610.1 (Int.fdiv n601 x610.2))).bind fun (z616 : Unit) => R.ok (y613, z616)).bind fun (y617 : (Unit × Unit)) => R.ok ((x610.1 * (Int.fdiv n601 x610.2)), ()))) [("_law_n", 4), ("_law_d", 5)] D.int (fun (s609 : Unit) => [.val ((eT (eT (eP2 D.int D.int))) a), .own 0 ((oL (eL D.int)) s595), .val ((eT (eP2 D.int D.int)) x597), .val (D.int n601), .non, .non, .non]) (fun (b608 : Unit) => ()) (fun (x610 : (Int × Int)) (s609 : Unit) => [.val ((eT (eT (eP2 D.int D.int))) a), .own 0 ((oL (eL D.int)) s595), .val ((eT (eP2 D.int D.int)) x597), .val (D.int n601), .val (D.int x610.1), .val (D.int x610.2), .non]) Prod.fst Prod.snd rfl sc_law_is_lone.nd (ji_tup (jp_var 2)) (blkOk_by (N := ["_law_rows_here", "_law_here", "_law_row", "_law_by", "_law_n", "_law_d", "_law_lead"]) (sc := defScope s_law_is_lone) (by decide +kernel)) (fun _ => rfl) (fun _ _ _ _ _ _ hB611 x610 s609 => (have hB := noRs hB611 hB; (jn_tup rfl (jns_cons (jn_name 4 sc_law_is_lone.nd) (jns_cons (jn_name 5 sc_law_is_lone.nd) jns_nil))))) (fun _ _ _ _ _ _ hB611 x610 s609 => (have hB := noRs hB611 hB; jts_nil)) (fun _ _ _ _ _ _ hB611 x610 s609 => (have hB := noRs hB611 hB; (je_mapS (en := D.int) (v := fun (y617 : (Unit × Unit)) => (x610.1 * (Int.fdiv n601 x610.2))) (st := fun (y617 : (Unit × Unit)) => ()) (ρ' := fun (s619 : Unit) => [.val ((eT (eT (eP2 D.int D.int))) a), .own 0 ((oL (eL D.int)) s595), .val ((eT (eP2 D.int D.int)) x597), .val (D.int n601), .val (D.int x610.1), .val (D.int x610.2), .non]) (je_opRG (ρb := fun _ => _) (s := fun (y613 : Unit) (z616 : Unit) => (.val (D.int (x610.1 * (Int.fdiv n601 x610.2))))) (xb := fun (y613 : Unit) => D.int (Int.fdiv n601 x610.2)) (fun _ _ ha hb => pe_op op_mulX ha hb) (jp_var 4) (je_op (fun _ _ ha hb => pe_op op_fdivZ ha hb) (jp_var 3) (jp_var 5) od_fdiv) (fun y613 => od_mul))))))))) fun b621 =>
(js_nil [true, true, false, false, true, true, true] (s595 ++ [b621.1]))))))) fun n596 =>
(js_cons (ρ1 := fun (n623 : (List (List Int))) => [.val ((eT (eT (eP2 D.int D.int))) a), .own 0 ((oL (eL D.int)) n623), .non, .non, .non, .non, .non]) (js_while (fun (s622 : (List (List Int))) => [.val ((eT (eT (eP2 D.int D.int))) a), .own 0 ((oL (eL D.int)) s622), .non, .non, .non, .non, .non]) PassesOwn.never n596 [true, true, true, true, true, true, true] rfl (fun s622 => (jt_pb (jt_bor 1 (d := (eL (eL D.int)) s622) (ρ1 := fun (b627 : Unit) => [.val ((eT (eT (eP2 D.int D.int))) a), .val ((eL (eL D.int)) s622), .non, .non, .non, .non, .non]) (ρ2 := fun (b627 : Unit) => [.val ((eT (eT (eP2 D.int D.int))) a), .non, .non, .non, .non, .non, .non]) (ρ' := fun (b627 : Unit) => [.val ((eT (eT (eP2 D.int D.int))) a), .own 0 ((oL (eL D.int)) s622), .non, .non, .non, .non, .non]) (bn := fun (b627 : Unit) => (!decide (s622 = ([] : List (List Int))))) rfl (toD_oL _ _) (fun _ hB628 => (have hB := noRs hB628 hB; (jt_op (fun _ _ ha hb => pt_cmpR (op_neD (un64 hr)) ha hb (nomark _)) (jp_var 1) (je_frzL (v := fun (b626 : Unit) => ([] : List (List Int))) (je_lstT (eL D.int) (fun (_ : Unit) => ([] : List (List Int))) ja_nil)) (od_neD (ee_L (ee_L ee_int)))))) (fun (b627 : Unit) => (.cons .k (.cons .f (.cons .f (.cons .f (.cons .f (.cons .f (.cons .f .nil)))))))) (fun _ => rfl)))) (fun s622 =>
(js_setEQ 6 (eL (eL D.int)) (fun (b647 : ((List (List Int)) × Unit)) => (cut b647.1 none (some (1 : Int)))) (fun (b647 : ((List (List Int)) × Unit)) (v_lead_646 : (List (List Int))) => [.val ((eT (eT (eP2 D.int D.int))) a), .own 0 ((oL (eL D.int)) s622), .non, .non, .non, .non, .val ((eL (eL D.int)) v_lead_646)]) sc_law_is_lone.nd (je_frzL (v := fun (b645 : ((List (List Int)) × Unit)) => (cut b645.1 none (some (1 : Int)))) (je_slLm (je_frzL (v := fun (b644 : ((List (List Int)) × Unit)) => b644.1) (je_bor1 1 (rows := s622) (ys := fun (b642 : ((List (List Int)) × Unit)) => b642.1) (ρ1 := fun (b642 : ((List (List Int)) × Unit)) => [.val ((eT (eT (eP2 D.int D.int))) a), .val ((eL (eL D.int)) s622), .non, .non, .non, .non, .non]) (ρ2 := fun (b642 : ((List (List Int)) × Unit)) => [.val ((eT (eT (eP2 D.int D.int))) a), .non, .non, .non, .non, .non, .non]) (ρ' := fun (b642 : ((List (List Int)) × Unit)) => [.val ((eT (eT (eP2 D.int D.int))) a), .own 0 ((oL (eL D.int)) s622), .non, .non, .non, .non, .non]) rfl (fun _ hB643 => (have hB := noRs hB643 hB; (je_lc (xs := fun (b630 : Unit) => s622) (ea := (eL D.int)) (ts := [2]) (c := fun (x632 : (List Int)) (s631 : Unit) => R.some (atI x632 (-(1 : Int)))) (bn := fun (z640 : Int) => (!decide (z640 = (0 : Int)))) (me := fun (x632 : (List Int)) (s631 : Unit) => ((R.ok ()).bind fun (y639 : Unit) => R.ok (x632, ()))) [("_law_row", 2)] (eL D.int) (fun (s631 : Unit) => [.val ((eT (eT (eP2 D.int D.int))) a), .val ((eL (eL D.int)) s622), .non, .non, .non, .non, .non]) (fun (b630 : Unit) => ()) (fun (x632 : (List Int)) (s631 : Unit) => [.val ((eT (eT (eP2 D.int D.int))) a), .val ((eL (eL D.int)) s622), .val ((eL D.int) x632), .non, .non, .non, .non]) Prod.fst Prod.snd rfl sc_law_is_lone.nd (ji_list (jp_var 1)) (blkOk_by (N := ["_law_rows_here", "_law_here", "_law_row", "_law_by", "_law_n", "_law_d", "_law_lead"]) (sc := defScope s_law_is_lone) (by decide +kernel)) (fun _ => rfl) (fun _ _ _ _ _ _ hB633 x632 s631 => (have hB := noRs hB633 hB; (jn_name 2 sc_law_is_lone.nd))) (fun _ _ _ _ _ _ hB633 x632 s631 => (have hB := noRs hB633 hB; (jts_one (jt_opL (ρa := fun _ => _) (bn := fun (x636 : Int) => (!decide (x636 = (0 : Int)))) (xa := fun (x636 : Int) => D.int x636) (y := fun (x636 : Int) => D.int (0 : Int)) (fun _ _ ha hb => pt_cmpR op_ne ha hb (nomark _)) (je_op (fun _ _ ha hb => pe_ix ix_list ha hb (fun _ _ => rfl)) (jp_var 2) (jp_neg jp_int) od_ixLm) (fun x636 => jp_int) (fun x636 => od_neI))))) (fun _ _ _ _ _ _ hB633 x632 s631 => (have hB := noRs hB633 hB; (je_mapS (en := (eL D.int)) (v := fun (y639 : Unit) => x632) (st := fun (y639 : Unit) => ()) (ρ' := fun (s641 : Unit) => [.val ((eT (eT (eP2 D.int D.int))) a), .val ((eL (eL D.int)) s622), .val ((eL D.int) x632), .non, .non, .non, .non]) (jp_var 2))))))) (fun (b642 : ((List (List Int)) × Unit)) => (.cons .k (.cons .f (.cons .f (.cons .f (.cons .f (.cons .f (.cons .f .nil)))))))) (fun _ => rfl))) (fun _ => jo_none) (fun _ => (jo_some jp_int)))) fun b647 v_lead_646 =>
(js_cons (ρ1 := fun (n652 : Unit) => [.val ((eT (eT (eP2 D.int D.int))) a), .own 0 ((oL (eL D.int)) s622), .non, .non, .non, .non, .val ((eL (eL D.int)) v_lead_646)]) (js_ifP (jt_op (fun _ _ ha hb => pt_cmpR (op_eqD (un64 hr)) ha hb (nomark _)) (jp_var 6) (je_frzL (v := fun (b650 : Unit) => ([] : List (List Int))) (je_lstT (eL D.int) (fun (_ : Unit) => ([] : List (List Int))) ja_nil)) (od_eqD (ee_L (ee_L ee_int)))) (js_one (js_retP false [false, false, true, true, true, true, false] jp_bl)) (js_nil [true, true, true, true, true, true, true] ())) fun n652 =>
(js_consQ1 (fun (b657 : ((List Int) × Nat)) => [.val ((eT (eT (eP2 D.int D.int))) a), .own 0 ((oL (eL D.int)) (List.eraseIdx s622 b657.2)), .non, .non, .non, .non, .val ((eL (eL D.int)) v_lead_646)]) (j1_expr (je_remD 1 (f := (eL D.int)) (ee_L ee_int) (un65 hr) (y := fun (b655 : (List Int)) => b655) (ρ' := fun (b655 : (List Int)) => [.val ((eT (eT (eP2 D.int D.int))) a), .own 0 ((oL (eL D.int)) s622), .non, .non, .non, .non, .val ((eL (eL D.int)) v_lead_646)]) (fun (b655 : (List Int)) => s622) (je_op (fun _ _ ha hb => pe_ix ix_list ha hb (fun _ _ => rfl)) (jp_var 6) jp_int od_ixLm))) fun b657 =>
(js_frz 1 rfl (toD_oL _ _) (js_cons1 (j1_setLc 1 (xs := fun (b658 : Unit) => (List.eraseIdx s622 b657.2)) (ea := (eL D.int)) (ts := [2]) (c := fun (x660 : (List Int)) (s659 : Unit) => R.ok ()) (bn := fun (z710 : Unit) => true) (me := fun (x660 : (List Int)) (s659 : Unit) => (((R.some (atI v_lead_646 (0 : Int))).bind fun (c706 : (List Int)) => (m_law_shorter (x660, c706)).bind fun (z707 : (List Int)) => R.ok (c706, z707)).bind fun (y709 : ((List Int) × (List Int))) => R.ok (y709.2, ()))) [("_law_row", 2)] (eL D.int) (fun (s659 : Unit) => [.val ((eT (eT (eP2 D.int D.int))) a), .val ((eL (eL D.int)) (List.eraseIdx s622 b657.2)), .non, .non, .non, .non, .val ((eL (eL D.int)) v_lead_646)]) (fun (b658 : Unit) => ()) (fun (x660 : (List Int)) (s659 : Unit) => [.val ((eT (eT (eP2 D.int D.int))) a), .val ((eL (eL D.int)) (List.eraseIdx s622 b657.2)), .val ((eL D.int) x660), .non, .non, .non, .val ((eL (eL D.int)) v_lead_646)]) Prod.fst Prod.snd rfl sc_law_is_lone.nd (ji_list (jp_var 1)) (blkOk_by (N := ["_law_rows_here", "_law_here", "_law_row", "_law_by", "_law_n", "_law_d", "_law_lead"]) (sc := defScope s_law_is_lone) (by decide +kernel)) (fun _ => rfl) (fun _ _ _ _ _ _ hB661 x660 s659 => (have hB := noRs hB661 hB; (jn_name 2 sc_law_is_lone.nd))) (fun _ _ _ _ _ _ hB661 x660 s659 => (have hB := noRs hB661 hB; jts_nil)) (fun _ _ _ _ _ _ hB661 x660 s659 => (have hB := noRs hB661 hB; (je_mapS (en := (eL D.int)) (v := fun (y709 : ((List Int) × (List Int))) => y709.2) (st := fun (y709 : ((List Int) × (List Int))) => ()) (ρ' := fun (s711 : Unit) => [.val ((eT (eT (eP2 D.int D.int))) a), .val ((eL (eL D.int)) (List.eraseIdx s622 b657.2)), .val ((eL D.int) x660), .non, .non, .non, .val ((eL (eL D.int)) v_lead_646)]) (je_frzL (v := fun (b708 : ((List Int) × (List Int))) => b708.2) (je_callVE (ρa := fun _ => _) (ins := i_law_shorter) (mf := m_law_shorter) (sl := l_law_shorter) (outs := o_law_shorter) (ok_law_shorter T) (hr.mono (by decide)) (by rfl) T.law_shorter.g T.law_shorter.f.kp T.law_shorter.b pass0 (arg := fun (c706 : (List Int)) => (x660, c706)) (ja_p (jp_var 2) (ja_el (ρa := fun _ => _) (xa := fun (x705 : (List Int)) => (eL D.int) x705) (je_op (fun _ _ ha hb => pe_ix ix_list ha hb (fun _ _ => rfl)) (jp_var 6) jp_int od_ixLm) (fun x705 => ja_nil))) hB)))))) fun (b712 : ((List (List Int)) × Unit)) => (js_lt (fun (v_here_713 : List (List Int)) => [.val ((eT (eT (eP2 D.int D.int))) a), .own 0 ((oL (eL D.int)) v_here_713), .non, .non, .non, .non, .val ((eL (eL D.int)) v_lead_646)]) b712.1 fun v_here_713 =>
(js_nil [true, true, true, true, true, true, false] v_here_713))))))))) fun n623 =>
(js_one (js_retP true [false, false, true, true, true, true, true] jp_bl))))))
abbrev s_law_is_fraction : Stmt := topS 14
theorem sc_law_is_fraction : FnScope ["_law_one", "_law_number"] ["_law_one"] (defScope s_law_is_fraction) := ⟨rfl, rfl, rfl, by decide +kernel, rfl, by decide +kernel, by decide +kernel⟩
noncomputable def mb_law_is_fraction (v_one : (Int × Int)) : R (Fl Unit Unit Bool) :=
(bindF (if ((!(isTup ((eP2 D.int D.int) v_one))) || (!decide ((2 : Int) = (2 : Int)))) = true then (R.ok (.rt false)) else (R.ok (.nx ()))) fun n741 =>
(bindF (forR (fun (x745 : Int) (s743 : Unit) =>
(bindF (if ((!(isInt (D.int x745))) || (isBool (D.int x745))) = true then (R.ok (.rt false)) else (R.ok (.nx ()))) fun n747 =>
(R.ok (.nx ())))) [v_one.1, v_one.2] ()) fun n744 =>
((and2 (R.ok ()) (fun (b760 : Unit) => (decide (v_one.2 > (0 : Int)))) ((m_law_common ((if v_one.1 < 0 then -v_one.1 else v_one.1), v_one.2)).bind fun (b759 : Int) => R.ok (decide (b759 = (1 : Int))))).bind fun (b761 : Bool) => R.ok (.rt b761))))
noncomputable def m_law_is_fraction (a : (Int × Int)) : R Bool := fin0 (mb_law_is_fraction a)
abbrev i_law_is_fraction (a : (Int × Int)) : List Slot := [.val ((eP2 D.int D.int) a)]
abbrev l_law_is_fraction (b : Bool) : Slot := .val (D.bool b)
abbrev o_law_is_fraction (b : Bool) : List Slot := [.non]
theorem ok_law_is_fraction {P : Program} {w : World} {K : PySem.W.Frag} {mg : Str → Option Value} {base : Heap} (T : Top K mg) : FnG P w K mg base CX0 2 T.law_is_fraction.a T.law_is_fraction.d ["_law_one"] (spM K i_law_is_fraction m_law_is_fraction l_law_is_fraction o_law_is_fraction) := by
  show FnG P w K mg base CX0 (1 + 1) T.law_is_fraction.a T.law_is_fraction.d ["_law_one"] (spM K i_law_is_fraction (fun (a : (Int × Int)) => fin0 (mb_law_is_fraction a)) l_law_is_fraction o_law_is_fraction)
  refine fn_ok (n1 := fun _ => []) (c1 := fun _ => []) (k1 := fun _ => []) (ins := i_law_is_fraction) (sl := l_law_is_fraction) (outs := o_law_is_fraction) (fun (a : (Int × Int)) => mb_law_is_fraction a) 1 T.law_is_fraction.f sc_law_is_fraction rfl (fun _ => rfl) (fun _ => rfl) (fun _ => rfl) (fun cdv A outer s H E hr B hB a => ?_)
  show JSs _ B _ _ (mb_law_is_fraction a) _
  unfold mb_law_is_fraction
  exact ((js_cons (ρ1 := fun (n741 : Unit) => [.val ((eP2 D.int D.int) a), .non]) (js_ifP (jt_w (tw_or (jt_not (jt_val (je_isi isi_tuple (jp_var 0) T.z_isinstance T.z_tuple (by decide +kernel)))) (jw_or1 (jt_op (fun _ _ ha hb => pt_cmpR op_ne ha hb (nomark _)) (je_cb (fun _ ht => pe_callB call_len_seq (by rfl) T.z_len (by decide +kernel) ht) (ja_p (jp_var 0) ja_nil) cb_lenP2) jp_int od_neI)))) (js_one (js_retP false [false, true] jp_bl)) (js_nil [true, true] ())) fun n741 =>
(js_cons (ρ1 := fun (n744 : Unit) => [.val ((eP2 D.int D.int) a), .non]) (js_forP (en := D.int) (fun (s743 : Unit) => [.val ((eP2 D.int D.int) a), .non]) (fun (x745 : Int) (s743 : Unit) => [.val ((eP2 D.int D.int) a), .val (D.int x745)]) PassesOwn.never rfl (ji_tup (show JP _ _ _ _ ((eT D.int) [a.1, a.2]) from (jp_var 0))) [true, true] rfl (fun x745 s743 => (jg_name 1 sc_law_is_fraction.nd)) (fun x745 s743 =>
(js_cons (ρ1 := fun (n747 : Unit) => [.val ((eP2 D.int D.int) a), .val (D.int x745)]) (js_ifP (jt_w (tw_or (jt_not (jt_val (je_isi isi_int (jp_var 1) T.z_isinstance T.z_int (by decide +kernel)))) (jw_or1 (jt_val (je_isi isi_bool (jp_var 1) T.z_isinstance T.z_bool (by decide +kernel)))))) (js_one (js_retP false [false, false] jp_bl)) (js_nil [true, true] ())) fun n747 =>
(js_nil [true, false] ())))) fun n744 =>
(js_one (js_ret (fun (b761 : Bool) => b761) [false, true] (je_and (xa := fun (b760 : Unit) => (decide (a.2 > (0 : Int)))) (je_op (fun _ _ ha hb => pe_cmpR op_gt ha hb (nomark _)) (je_op (fun _ _ ha hb => pe_ix ix_tup ha hb (fun _ _ => rfl)) (jp_var 0) jp_int (od_ixTs rfl)) jp_int od_gt) (jp_one (je_map (sl' := fun y => .val (.bool y)) (f := fun (b759 : Int) => (decide (b759 = (1 : Int)))) (je_opL (ρa := fun _ => _) (s := fun (x756 : Int) => (.val (D.bool (decide (x756 = (1 : Int)))))) (xa := fun (x756 : Int) => D.int x756) (y := fun (x756 : Int) => D.int (1 : Int)) (fun _ _ ha hb => pe_cmpR op_eq ha hb (nomark _)) (je_callV (ins := i_law_common) (mf := m_law_common) (sl := l_law_common) (outs := o_law_common) (ok_law_common T) (hr.mono (by decide)) (by rfl) T.law_common.g T.law_common.f.kp T.law_common.b pass0 (arg := ((if a.1 < 0 then -a.1 else a.1), a.2)) (ja_p (je_cb (fun _ ht => pe_callB call_abs (by rfl) T.z_abs (by decide +kernel) ht) (ja_p (je_op (fun _ _ ha hb => pe_ix ix_tup ha hb (fun _ _ => rfl)) (jp_var 0) jp_int (od_ixTs rfl)) ja_nil) cb_abs) (ja_p (je_op (fun _ _ ha hb => pe_ix ix_tup ha hb (fun _ _ => rfl)) (jp_var 0) jp_int (od_ixTs rfl)) ja_nil)) hB) (fun x756 => jp_int) (fun x756 => od_eqI)) (fun _ => rfl)))))))))
abbrev s_law_is_drawing : Stmt := topS 15
theorem sc_law_is_drawing : FnScope ["_law_found", "_law_many", "_law_point", "_law_one"] ["_law_found", "_law_many"] (defScope s_law_is_drawing) := ⟨rfl, rfl, rfl, by decide +kernel, rfl, by decide +kernel, by decide +kernel⟩
noncomputable def mb_law_is_drawing (v_found : (List ((Int × Int) × (Int × Int)))) (v_many : Int) : R (Fl Unit Unit Bool) :=
(bindF (if ((!(isTup ((eT (eP2 (eP2 D.int D.int) (eP2 D.int D.int))) v_found))) || (!decide (((List.length v_found : Nat) : Int) = v_many))) = true then (R.ok (.rt false)) else (R.ok (.nx ()))) fun n727 =>
(bindF (forR (fun (x731 : ((Int × Int) × (Int × Int))) (s729 : Unit) =>
(bindF ((or2 (R.ok ()) (fun (b771 : Unit) => (!(isTup ((eP2 (eP2 D.int D.int) (eP2 D.int D.int)) x731)))) (or2 (R.ok ()) (fun (b770 : Unit) => (!decide ((2 : Int) = (2 : Int)))) (((R.ok ()).bind fun (b734 : Unit) => (R.guard (List.length [x731.1, x731.2] ≤ sizeLine)).bind fun _ => compR (compF (fun (x736 : (Int × Int)) (s735 : Unit) => R.ok ()) (fun (z763 : Unit) => true) (fun (x736 : (Int × Int)) (s735 : Unit) => ((m_law_is_fraction x736).bind fun (y762 : Bool) => R.ok (y762, ()))) Prod.fst Prod.snd) [x731.1, x731.2] [] ()).bind fun (b769 : ((List Bool) × Unit)) => R.ok (!(List.all b769.1 id))))).bind fun (b772 : Bool) => if b772 = true then (R.ok (.rt false)) else (R.ok (.nx ()))) fun n773 =>
(R.ok (.nx ())))) v_found ()) fun n730 =>
(R.ok (.rt true))))
noncomputable def m_law_is_drawing (a : ((List ((Int × Int) × (Int × Int))) × Int)) : R Bool := fin0 (mb_law_is_drawing a.1 a.2)
abbrev i_law_is_drawing (a : ((List ((Int × Int) × (Int × Int))) × Int)) : List Slot := [.val ((eT (eP2 (eP2 D.int D.int) (eP2 D.int D.int))) a.1), .val (D.int a.2)]
abbrev l_law_is_drawing (b : Bool) : Slot := .val (D.bool b)
abbrev o_law_is_drawing (b : Bool) : List Slot := [.non, .non]
theorem ok_law_is_drawing {P : Program} {w : World} {K : PySem.W.Frag} {mg : Str → Option Value} {base : Heap} (T : Top K mg) : FnG P w K mg base CX0 3 T.law_is_drawing.a T.law_is_drawing.d ["_law_found", "_law_many"] (spM K i_law_is_drawing m_law_is_drawing l_law_is_drawing o_law_is_drawing) := by
  show FnG P w K mg base CX0 (2 + 1) T.law_is_drawing.a T.law_is_drawing.d ["_law_found", "_law_many"] (spM K i_law_is_drawing (fun (a : ((List ((Int × Int) × (Int × Int))) × Int)) => fin0 (mb_law_is_drawing a.1 a.2)) l_law_is_drawing o_law_is_drawing)
  refine fn_ok (n1 := fun _ => []) (c1 := fun _ => []) (k1 := fun _ => []) (ins := i_law_is_drawing) (sl := l_law_is_drawing) (outs := o_law_is_drawing) (fun (a : ((List ((Int × Int) × (Int × Int))) × Int)) => mb_law_is_drawing a.1 a.2) 2 T.law_is_drawing.f sc_law_is_drawing rfl (fun _ => rfl) (fun _ => rfl) (fun _ => rfl) (fun cdv A outer s H E hr B hB a => ?_)
  show JSs _ B _ _ (mb_law_is_drawing a.1 a.2) _
  unfold mb_law_is_drawing
  exact ((js_cons (ρ1 := fun (n727 : Unit) => [.val ((eT (eP2 (eP2 D.int D.int) (eP2 D.int D.int))) a.1), .val (D.int a.2), .non, .non]) (js_ifP (jt_w (tw_or (jt_not (jt_val (je_isi isi_tuple (jp_var 0) T.z_isinstance T.z_tuple (by decide +kernel)))) (jw_or1 (jt_op (fun _ _ ha hb => pt_cmpR op_ne ha hb (nomark _)) (je_cb (fun _ ht => pe_callB call_len_seq (by rfl) T.z_len (by decide +kernel) ht) (ja_p (jp_var 0) ja_nil) cb_lenTm) (jp_var 1) od_neI)))) (js_one (js_retP false [false, false, true, true] jp_bl)) (js_nil [true, true, true, true] ())) fun n727 =>
(js_cons (ρ1 := fun (n730 : Unit) => [.val ((eT (eP2 (eP2 D.int D.int) (eP2 D.int D.int))) a.1), .val (D.int a.2), .non, .non]) (js_forP (en := (eP2 (eP2 D.int D.int) (eP2 D.int D.int))) (fun (s729 : Unit) => [.val ((eT (eP2 (eP2 D.int D.int) (eP2 D.int D.int))) a.1), .val (D.int a.2), .non, .non]) (fun (x731 : ((Int × Int) × (Int × Int))) (s729 : Unit) => [.val ((eT (eP2 (eP2 D.int D.int) (eP2 D.int D.int))) a.1), .val (D.int a.2), .val ((eP2 (eP2 D.int D.int) (eP2 D.int D.int)) x731), .non]) PassesOwn.never rfl (ji_tup (jp_var 0)) [true, true, true, true] rfl (fun x731 s729 => (jg_name 2 sc_law_is_drawing.nd)) (fun x731 s729 =>
(js_cons (ρ1 := fun (n773 : Unit) => [.val ((eT (eP2 (eP2 D.int D.int) (eP2 D.int D.int))) a.1), .val (D.int a.2), .val ((eP2 (eP2 D.int D.int) (eP2 D.int D.int)) x731), .non]) (js_if (jt_w (jw_or (xa := fun (b771 : Unit) => (!(isTup ((eP2 (eP2 D.int D.int) (eP2 D.int D.int)) x731)))) (jt_not (jt_val (je_isi isi_tuple (jp_var 2) T.z_isinstance T.z_tuple (by decide +kernel)))) (jw_or (xa := fun (b770 : Unit) => (!decide ((2 : Int) = (2 : Int)))) (jt_op (fun _ _ ha hb => pt_cmpR op_ne ha hb (nomark _)) (je_cb (fun _ ht => pe_callB call_len_seq (by rfl) T.z_len (by decide +kernel) ht) (ja_p (jp_var 2) ja_nil) cb_lenP2) jp_int od_neI) (jw_or1 (jt_map (jt_not (jt_val (je_cbN (ρa := fun _ => _) (s := fun (c767 : ((List Bool) × Unit)) => .val (D.bool (List.all c767.1 id))) (fun _ ht => pe_callB (cr_all rfl) (by rfl) T.z_all (by decide +kernel) ht) (ja_el (ρa := fun _ => _) (xa := fun (x766 : ((List Bool) × Unit)) => (eL D.bool) x766.1) (je_frzL (v := fun (b765 : ((List Bool) × Unit)) => b765.1) (je_lc (xs := fun (b734 : Unit) => [x731.1, x731.2]) (ea := (eP2 D.int D.int)) (ts := [3]) (c := fun (x736 : (Int × Int)) (s735 : Unit) => R.ok ()) (bn := fun (z763 : Unit) => true) (me := fun (x736 : (Int × Int)) (s735 : Unit) => ((m_law_is_fraction x736).bind fun (y762 : Bool) => R.ok (y762, ()))) [("_law_one", 3)] D.bool (fun (s735 : Unit) => [.val ((eT (eP2 (eP2 D.int D.int) (eP2 D.int D.int))) a.1), .val (D.int a.2), .val ((eP2 (eP2 D.int D.int) (eP2 D.int D.int)) x731), .non]) (fun (b734 : Unit) => ()) (fun (x736 : (Int × Int)) (s735 : Unit) => [.val ((eT (eP2 (eP2 D.int D.int) (eP2 D.int D.int))) a.1), .val (D.int a.2), .val ((eP2 (eP2 D.int D.int) (eP2 D.int D.int)) x731), .val ((eP2 D.int D.int) x736)]) Prod.fst Prod.snd rfl sc_law_is_drawing.nd (ji_tup (show JP _ _ _ _ ((eT (eP2 D.int D.int)) [x731.1, x731.2]) from (jp_var 2))) (blkOk_by (N := ["_law_found", "_law_many", "_law_point", "_law_one"]) (sc := defScope s_law_is_drawing) (by decide +kernel)) (fun _ => rfl) (fun _ _ _ _ _ _ hB737 x736 s735 => (have hB := noRs hB737 hB; (jn_name 3 sc_law_is_drawing.nd))) (fun _ _ _ _ _ _ hB737 x736 s735 => (have hB := noRs hB737 hB; jts_nil)) (fun _ _ _ _ _ _ hB737 x736 s735 => (have hB := noRs hB737 hB; (je_mapS (en := D.bool) (v := fun (y762 : Bool) => y762) (st := fun (y762 : Bool) => ()) (ρ' := fun (s764 : Unit) => [.val ((eT (eP2 (eP2 D.int D.int) (eP2 D.int D.int))) a.1), .val (D.int a.2), .val ((eP2 (eP2 D.int D.int) (eP2 D.int D.int)) x731), .val ((eP2 D.int D.int) x736)]) (je_callV (ins := i_law_is_fraction) (mf := m_law_is_fraction) (sl := l_law_is_fraction) (outs := o_law_is_fraction) (ok_law_is_fraction T) (hr.mono (by decide)) (by rfl) T.law_is_fraction.g T.law_is_fraction.f.kp T.law_is_fraction.b pass0 (arg := x736) (ja_p (jp_var 3) ja_nil) hB)))))) (fun x766 => ja_nil)) (fun c767 => cb_allL))))))))) (fun b772 => (js_one (js_retP false [false, false, false, true] jp_bl))) (fun b772 => (js_nil [true, true, true, true] ()))) fun n773 =>
(js_nil [true, true, false, true] ())))) fun n730 =>
(js_one (js_retP true [false, false, true, true] jp_bl)))))
abbrev s_law_comes : Stmt := topS 24
theorem sc_law_comes : FnScope ["_law_row", "_law_points", "_law_side", "_law_axis", "_law_some", "_law_one", "_law_point"] ["_law_row", "_law_points", "_law_side", "_law_axis"] (defScope s_law_comes) := ⟨rfl, rfl, rfl, by decide +kernel, rfl, by decide +kernel, by decide +kernel⟩
noncomputable def mb_law_comes (v_row : (List (Int × Int))) (v_points : (List ((Int × Int) × (Int × Int)))) (v_side : ((Int × Int) × (Int × Int))) (v_axis : Int) : R (Fl Unit Unit Bool) :=
(((R.ok ()).bind fun (b787 : Unit) => (R.guard (List.length (List.zip v_row v_points) ≤ sizeLine)).bind fun _ => compR (compF (fun (x789 : ((Int × Int) × ((Int × Int) × (Int × Int)))) (s788 : Unit) => R.ok ()) (fun (z815 : Unit) => true) (fun (x789 : ((Int × Int) × ((Int × Int) × (Int × Int)))) (s788 : Unit) => ((((R.some (atI [x789.2.1, x789.2.2] v_axis)).bind fun (y794 : (Int × Int)) => (R.guard (CMulX x789.1.1 y794.1)).bind fun (z800 : Unit) => R.ok (y794, z800)).bind fun (x801 : ((Int × Int) × Unit)) => ((R.some (atI [x789.2.1, x789.2.2] v_axis)).bind fun (y805 : (Int × Int)) => (R.guard (CMulX x789.1.2 y805.2)).bind fun (z811 : Unit) => R.ok (y805, z811)).bind fun (z813 : ((Int × Int) × Unit)) => R.ok (x801, z813)).bind fun (y814 : (((Int × Int) × Unit) × ((Int × Int) × Unit))) => R.ok (((x789.1.1 * y814.1.1.1), (x789.1.2 * y814.2.1.2)), ()))) Prod.fst Prod.snd) (List.zip v_row v_points) [] ()).bind fun (b817 : ((List (Int × Int)) × Unit)) => lt b817.1 fun v_some_818 =>
((op2 (m_law_sum v_some_818) (fun (x821 : (Int × Int)) => R.some (atI [v_side.1, v_side.2] v_axis)) (fun (x821 : (Int × Int)) (y822 : (Int × Int)) => R.ok ())).bind fun (b825 : ((Int × Int) × (Int × Int) × Unit)) => R.ok (.rt (decide (b825.1 = b825.2.1)))))
noncomputable def m_law_comes (a : ((List (Int × Int)) × (List ((Int × Int) × (Int × Int))) × ((Int × Int) × (Int × Int)) × Int)) : R Bool := fin0 (mb_law_comes a.1 a.2.1 a.2.2.1 a.2.2.2)
abbrev i_law_comes (a : ((List (Int × Int)) × (List ((Int × Int) × (Int × Int))) × ((Int × Int) × (Int × Int)) × Int)) : List Slot := [.val ((eT (eP2 D.int D.int)) a.1), .val ((eT (eP2 (eP2 D.int D.int) (eP2 D.int D.int))) a.2.1), .val ((eP2 (eP2 D.int D.int) (eP2 D.int D.int)) a.2.2.1), .val (D.int a.2.2.2)]
abbrev l_law_comes (b : Bool) : Slot := .val (D.bool b)
abbrev o_law_comes (b : Bool) : List Slot := [.non, .non, .non, .non]
theorem ok_law_comes {P : Program} {w : World} {K : PySem.W.Frag} {mg : Str → Option Value} {base : Heap} (T : Top K mg) : FnG P w K mg base CX0 4 T.law_comes.a T.law_comes.d ["_law_row", "_law_points", "_law_side", "_law_axis"] (spM K i_law_comes m_law_comes l_law_comes o_law_comes) := by
  show FnG P w K mg base CX0 (3 + 1) T.law_comes.a T.law_comes.d ["_law_row", "_law_points", "_law_side", "_law_axis"] (spM K i_law_comes (fun (a : ((List (Int × Int)) × (List ((Int × Int) × (Int × Int))) × ((Int × Int) × (Int × Int)) × Int)) => fin0 (mb_law_comes a.1 a.2.1 a.2.2.1 a.2.2.2)) l_law_comes o_law_comes)
  refine fn_ok (n1 := fun _ => []) (c1 := fun _ => []) (k1 := fun _ => []) (ins := i_law_comes) (sl := l_law_comes) (outs := o_law_comes) (fun (a : ((List (Int × Int)) × (List ((Int × Int) × (Int × Int))) × ((Int × Int) × (Int × Int)) × Int)) => mb_law_comes a.1 a.2.1 a.2.2.1 a.2.2.2) 3 T.law_comes.f sc_law_comes rfl (fun _ => rfl) (fun _ => rfl) (fun _ => rfl) (fun cdv A outer s H E hr B hB a => ?_)
  show JSs _ B _ _ (mb_law_comes a.1 a.2.1 a.2.2.1 a.2.2.2) _
  unfold mb_law_comes
  exact ((js_cons1 (j1_setLc 4 (xs := fun (b787 : Unit) => (List.zip a.1 a.2.1)) (ea := (eP2 (eP2 D.int D.int) (eP2 (eP2 D.int D.int) (eP2 D.int D.int)))) (ts := [5, 6]) (c := fun (x789 : ((Int × Int) × ((Int × Int) × (Int × Int)))) (s788 : Unit) => R.ok ()) (bn := fun (z815 : Unit) => true) (me := fun (x789 : ((Int × Int) × ((Int × Int) × (Int × Int)))) (s788 : Unit) => ((((R.some (atI [x789.2.1, x789.2.2] a.2.2.2)).bind fun (y794 : (Int × Int)) => (R.guard (CMulX x789.1.1 y794.1)).bind fun (z800 : Unit) => R.ok (y794, z800)).bind fun (x801 : ((Int × Int) × Unit)) => ((R.some (atI [x789.2.1, x789.2.2] a.2.2.2)).bind fun (y805 : (Int × Int)) => (R.guard (CMulX x789.1.2 y805.2)).bind fun (z811 : Unit) => R.ok (y805, z811)).bind fun (z813 : ((Int × Int) × Unit)) => R.ok (x801, z813)).bind fun (y814 : (((Int × Int) × Unit) × ((Int × Int) × Unit))) => R.ok (((x789.1.1 * y814.1.1.1), (x789.1.2 * y814.2.1.2)), ()))) [("_law_one", 5), ("_law_point", 6)] (eP2 D.int D.int) (fun (s788 : Unit) => [.val ((eT (eP2 D.int D.int)) a.1), .val ((eT (eP2 (eP2 D.int D.int) (eP2 D.int D.int))) a.2.1), .val ((eP2 (eP2 D.int D.int) (eP2 D.int D.int)) a.2.2.1), .val (D.int a.2.2.2), .non, .non, .non]) (fun (b787 : Unit) => ()) (fun (x789 : ((Int × Int) × ((Int × Int) × (Int × Int)))) (s788 : Unit) => [.val ((eT (eP2 D.int D.int)) a.1), .val ((eT (eP2 (eP2 D.int D.int) (eP2 D.int D.int))) a.2.1), .val ((eP2 (eP2 D.int D.int) (eP2 D.int D.int)) a.2.2.1), .val (D.int a.2.2.2), .non, .val ((eP2 D.int D.int) x789.1), .val ((eP2 (eP2 D.int D.int) (eP2 D.int D.int)) x789.2)]) Prod.fst Prod.snd rfl sc_law_comes.nd (ji_zipT (f := (eP2 D.int D.int)) (g := (eP2 (eP2 D.int D.int) (eP2 D.int D.int))) (xs := fun (b786 : Unit) => a.1) (ys := fun (b786 : Unit) => a.2.1) (by rfl) T.z_zip (ja_p (jp_var 0) (ja_p (jp_var 1) ja_nil))) (blkOk_by (N := ["_law_row", "_law_points", "_law_side", "_law_axis", "_law_some", "_law_one", "_law_point"]) (sc := defScope s_law_comes) (by decide +kernel)) (fun _ => rfl) (fun _ _ _ _ _ _ hB790 x789 s788 => (have hB := noRs hB790 hB; (jn_tup rfl (jns_cons (jn_name 5 sc_law_comes.nd) (jns_cons (jn_name 6 sc_law_comes.nd) jns_nil))))) (fun _ _ _ _ _ _ hB790 x789 s788 => (have hB := noRs hB790 hB; jts_nil)) (fun _ _ _ _ _ _ hB790 x789 s788 => (have hB := noRs hB790 hB; (je_mapS (en := (eP2 D.int D.int)) (v := fun (y814 : (((Int × Int) × Unit) × ((Int × Int) × Unit))) => ((x789.1.1 * y814.1.1.1), (x789.1.2 * y814.2.1.2))) (st := fun (y814 : (((Int × Int) × Unit) × ((Int × Int) × Unit))) => ()) (ρ' := fun (s816 : Unit) => [.val ((eT (eP2 D.int D.int)) a.1), .val ((eT (eP2 (eP2 D.int D.int) (eP2 D.int D.int))) a.2.1), .val ((eP2 (eP2 D.int D.int) (eP2 D.int D.int)) a.2.2.1), .val (D.int a.2.2.2), .non, .val ((eP2 D.int D.int) x789.1), .val ((eP2 (eP2 D.int D.int) (eP2 D.int D.int)) x789.2)]) (je_tup (ja_e (ρ' := fun _ _ => _) (ρa := fun _ => _) (xa := fun (x801 : ((Int × Int) × Unit)) => D.int (x789.1.1 * x801.1.1)) (je_opRG (ρb := fun _ => _) (s := fun (y794 : (Int × Int)) (z800 : Unit) => (.val (D.int (x789.1.1 * y794.1)))) (xb := fun (y794 : (Int × Int)) => D.int y794.1) (fun _ _ ha hb => pe_op op_mulX ha hb) (je_op (fun _ _ ha hb => pe_ix ix_tup ha hb (fun _ _ => rfl)) (jp_var 5) jp_int (od_ixTs rfl)) (je_opL (ρa := fun _ => _) (s := fun (x797 : (Int × Int)) => (.val (D.int x797.1))) (xa := fun (x797 : (Int × Int)) => (eP2 D.int D.int) x797) (y := fun (x797 : (Int × Int)) => D.int (0 : Int)) (fun _ _ ha hb => pe_ix ix_tup ha hb (fun _ _ => rfl)) (je_op (fun _ _ ha hb => pe_ix ix_tup ha hb (fun _ _ => rfl)) (show JP _ _ _ _ ((eT (eP2 D.int D.int)) [x789.2.1, x789.2.2]) from (jp_var 6)) (jp_var 3) od_ixTm) (fun x797 => jp_int) (fun x797 => (od_ixTs rfl))) (fun y794 => od_mul)) (fun x801 => (ja_el (ρa := fun _ => _) (xa := fun (x812 : ((Int × Int) × Unit)) => D.int (x789.1.2 * x812.1.2)) (je_opRG (ρb := fun _ => _) (s := fun (y805 : (Int × Int)) (z811 : Unit) => (.val (D.int (x789.1.2 * y805.2)))) (xb := fun (y805 : (Int × Int)) => D.int y805.2) (fun _ _ ha hb => pe_op op_mulX ha hb) (je_op (fun _ _ ha hb => pe_ix ix_tup ha hb (fun _ _ => rfl)) (jp_var 5) jp_int (od_ixTs rfl)) (je_opL (ρa := fun _ => _) (s := fun (x808 : (Int × Int)) => (.val (D.int x808.2))) (xa := fun (x808 : (Int × Int)) => (eP2 D.int D.int) x808) (y := fun (x808 : (Int × Int)) => D.int (1 : Int)) (fun _ _ ha hb => pe_ix ix_tup ha hb (fun _ _ => rfl)) (je_op (fun _ _ ha hb => pe_ix ix_tup ha hb (fun _ _ => rfl)) (show JP _ _ _ _ ((eT (eP2 D.int D.int)) [x789.2.1, x789.2.2]) from (jp_var 6)) (jp_var 3) od_ixTm) (fun x808 => jp_int) (fun x808 => (od_ixTs rfl))) (fun y805 => od_mul)) (fun x812 => ja_nil))))))))) fun (b817 : ((List (Int × Int)) × Unit)) => (js_lt (fun (v_some_818 : List (Int × Int)) => [.val ((eT (eP2 D.int D.int)) a.1), .val ((eT (eP2 (eP2 D.int D.int) (eP2 D.int D.int))) a.2.1), .val ((eP2 (eP2 D.int D.int) (eP2 D.int D.int)) a.2.2.1), .val (D.int a.2.2.2), .own 0 ((oL (eP2 D.int D.int)) v_some_818), .non, .non]) b817.1 fun v_some_818 =>
(js_frz 4 rfl (toD_oL _ _) (js_one (js_ret (fun (b825 : ((Int × Int) × (Int × Int) × Unit)) => (decide (b825.1 = b825.2.1))) [false, false, false, false, false, true, true] (je_op2 (ρa := fun _ => _) (ρb := fun _ _ => _) (s := fun (x821 : (Int × Int)) (y822 : (Int × Int)) (z0 : Unit) => (.val (D.bool (decide (x821 = y822))))) (xa := fun (x821 : (Int × Int)) => (eP2 D.int D.int) x821) (xb := fun (x821 : (Int × Int)) (y822 : (Int × Int)) => (eP2 D.int D.int) y822) (fun _ _ ha hb => pe_cmpR (op_eqD (un64 hr)) ha hb (nomark _)) (je_callV (ins := i_law_sum) (mf := m_law_sum) (sl := l_law_sum) (outs := o_law_sum) (ok_law_sum T) (hr.mono (by decide)) (by rfl) T.law_sum.g T.law_sum.f.kp T.law_sum.b pass0 (arg := v_some_818) (ja_p (jp_var 4) ja_nil) hB) (fun x821 => (je_op (fun _ _ ha hb => pe_ix ix_tup ha hb (fun _ _ => rfl)) (show JP _ _ _ _ ((eT (eP2 D.int D.int)) [a.2.2.1.1, a.2.2.1.2]) from (jp_var 2)) (jp_var 3) od_ixTm)) (fun x821 y822 => (od_eqD (ee_p2 ee_int ee_int))))))))))
abbrev s_law : Stmt := topS 25
theorem sc_law : FnScope ["_law_script", "_law_k", "_law_pot_here", "_law_rows_here", "_law_sides", "_law_kept", "_law_found", "_law_row", "_law_side"] ["_law_script"] (defScope s_law) := ⟨rfl, rfl, rfl, by decide +kernel, rfl, by decide +kernel, by decide +kernel⟩
noncomputable def mb_law (v_script : List Int) : R (Fl Unit Unit Bool) :=
(bindF ((R.guard (rngOk (max (1 : Int) (min ((List.length v_script : Nat) : Int) (4 : Int))))).bind fun (b1 : Unit) => forR (fun (x4 : Int) (s2 : Unit) =>
((m_law_pot (v_script, x4)).bind fun (b36 : (List Int)) => lt b36 fun v_pot_here_35 =>
((m_law_rows v_pot_here_35).bind fun (b354 : ((List (List (Int × Int))) × (List Int))) => lt b354.1 fun v_rows_here_353 =>
(((R.ok ()).bind fun (b355 : Unit) => (R.guard (List.length v_rows_here_353 ≤ sizeLine)).bind fun _ => compR (compF (fun (x357 : (List (Int × Int))) (s356 : (List Int)) => R.ok ()) (fun (z365 : Unit) => true) (fun (x357 : (List (Int × Int))) (s356 : (List Int)) => (((m_law_any_fraction (s356, (9 : Int))).bind fun (x360 : ((Int × Int) × (List Int))) => (m_law_any_fraction (x360.2, (9 : Int))).bind fun (z363 : ((Int × Int) × (List Int))) => R.ok (x360, z363)).bind fun (y364 : (((Int × Int) × (List Int)) × ((Int × Int) × (List Int)))) => R.ok ((y364.1.1, y364.2.1), y364.2.2))) Prod.fst Prod.snd) v_rows_here_353 [] b354.2).bind fun (b372 : ((List ((Int × Int) × (Int × Int))) × (List Int))) => lt b372.1 fun v_sides_371 =>
((R.guard (repOk ((eP2 (eT (eT (eP2 D.int D.int))) (eT (eP2 (eP2 D.int D.int) (eP2 D.int D.int)))) (v_rows_here_353, v_sides_371)))).bind fun (b374 : Unit) => lt (reprD ((eP2 (eT (eT (eP2 D.int D.int))) (eT (eP2 (eP2 D.int D.int) (eP2 D.int D.int)))) (v_rows_here_353, v_sides_371))) fun v_kept_373 =>
((m_solved (v_rows_here_353, v_sides_371)).bind fun (b586 : (Option (List ((Int × Int) × (Int × Int))))) => lt b586 fun v_found_585 =>
(bindF ((or2 (R.guard (repOk ((eP2 (eT (eT (eP2 D.int D.int))) (eT (eP2 (eP2 D.int D.int) (eP2 D.int D.int)))) (v_rows_here_353, v_sides_371)))) (fun (b718 : Unit) => (!decide ((reprD ((eP2 (eT (eT (eP2 D.int D.int))) (eT (eP2 (eP2 D.int D.int) (eP2 D.int D.int)))) (v_rows_here_353, v_sides_371))) = v_kept_373))) ((m_law_is_lone v_rows_here_353).bind fun (b717 : Bool) => R.ok (!decide ((!isNon ((eO (eT (eP2 (eP2 D.int D.int) (eP2 D.int D.int)))) v_found_585)) = b717)))).bind fun (b719 : Bool) => if b719 = true then (R.ok (.rt false)) else (R.ok (.nx ()))) fun n720 =>
(bindF (if (!isNon ((eO (eT (eP2 (eP2 D.int D.int) (eP2 D.int D.int)))) v_found_585)) = true then (bindF ((((R.ok ()).bind fun (b866 : Unit) => (R.some v_found_585).bind fun (c867 : (List ((Int × Int) × (Int × Int)))) => R.ok (b866, c867)).bind fun (c869 : (Unit × (List ((Int × Int) × (Int × Int))))) => (m_law_is_drawing (c869.2, ((List.length v_rows_here_353 : Nat) : Int))).bind fun (z870 : Bool) => R.ok (c869, z870)).bind fun (b871 : ((Unit × (List ((Int × Int) × (Int × Int)))) × Bool)) => if (!b871.2) = true then (R.ok (.rt false)) else (R.ok (.nx ()))) fun n872 =>
(bindF (forR (fun (x877 : ((List (Int × Int)) × ((Int × Int) × (Int × Int)))) (s875 : Unit) =>
(bindF ((or2 (((R.ok ()).bind fun (b878 : Unit) => (R.some v_found_585).bind fun (c879 : (List ((Int × Int) × (Int × Int)))) => R.ok (b878, c879)).bind fun (c881 : (Unit × (List ((Int × Int) × (Int × Int))))) => (m_law_comes (x877.1, c881.2, x877.2, (0 : Int))).bind fun (z882 : Bool) => R.ok (c881, z882)) (fun (b889 : ((Unit × (List ((Int × Int) × (Int × Int)))) × Bool)) => (!b889.2)) ((((R.ok ()).bind fun (b883 : Unit) => (R.some v_found_585).bind fun (c884 : (List ((Int × Int) × (Int × Int)))) => R.ok (b883, c884)).bind fun (c886 : (Unit × (List ((Int × Int) × (Int × Int))))) => (m_law_comes (x877.1, c886.2, x877.2, (1 : Int))).bind fun (z887 : Bool) => R.ok (c886, z887)).bind fun (b888 : ((Unit × (List ((Int × Int) × (Int × Int)))) × Bool)) => R.ok (!b888.2))).bind fun (b890 : Bool) => if b890 = true then (R.ok (.rt false)) else (R.ok (.nx ()))) fun n891 =>
(R.ok (.nx ())))) (List.zip v_rows_here_353 v_sides_371) ()) fun n876 =>
(R.ok (.nx ())))) else (R.ok (.nx ()))) fun n892 =>
(R.ok (.nx ())))))))))) (rng 0 (max (1 : Int) (min ((List.length v_script : Nat) : Int) (4 : Int)))) ()) fun n3 =>
(R.ok (.rt true)))
noncomputable def m_law (a : List Int) : R Bool := fin0 (mb_law a)
abbrev i_law (a : List Int) : List Slot := [.val (D.scr a)]
abbrev l_law (b : Bool) : Slot := .val (D.bool b)
abbrev o_law (b : Bool) : List Slot := [.non]
theorem ok_law {P : Program} {w : World} {K : PySem.W.Frag} {mg : Str → Option Value} {base : Heap} (T : Top K mg) : FnG P w K mg base CX0 6 T.law.a T.law.d ["_law_script"] (spM K i_law m_law l_law o_law) := by
  show FnG P w K mg base CX0 (5 + 1) T.law.a T.law.d ["_law_script"] (spM K i_law (fun (a : List Int) => fin0 (mb_law a)) l_law o_law)
  refine fn_ok (n1 := fun _ => []) (c1 := fun _ => []) (k1 := fun _ => []) (ins := i_law) (sl := l_law) (outs := o_law) (fun (a : List Int) => mb_law a) 8 T.law.f sc_law rfl (fun _ => rfl) (fun _ => rfl) (fun _ => rfl) (fun cdv A outer s H E hr B hB a => ?_)
  show JSs _ B _ _ (mb_law a) _
  unfold mb_law
  exact ((js_cons (ρ1 := fun (n3 : Unit) => [.val (D.scr a), .non, .non, .non, .non, .non, .non, .non, .non]) (js_for (en := D.int) (xs := fun (b1 : Unit) => (rng 0 (max (1 : Int) (min ((List.length a : Nat) : Int) (4 : Int))))) (s0 := fun (b1 : Unit) => ()) (fun (s2 : Unit) => [.val (D.scr a), .non, .non, .non, .non, .non, .non, .non, .non]) (fun (x4 : Int) (s2 : Unit) => [.val (D.scr a), .val (D.int x4), .non, .non, .non, .non, .non, .non, .non]) PassesOwn.never rfl (ji_rng1P (i := (max (1 : Int) (min ((List.length a : Nat) : Int) (4 : Int)))) T.z_range (ja_p (je_cb (fun _ ht => pe_callB (call_max2 rfl) (by rfl) T.z_max (by decide +kernel) ht) (ja_p jp_int (ja_p (je_cb (fun _ ht => pe_callB (call_min2 rfl) (by rfl) T.z_min (by decide +kernel) ht) (ja_p (je_cb (fun _ ht => pe_callB call_len_seq (by rfl) T.z_len (by decide +kernel) ht) (ja_p (jp_var 0) ja_nil) cb_lenS) (ja_p jp_int ja_nil)) cb_min) ja_nil)) cb_max) ja_nil)) [true, true, true, true, true, true, true, true, true] (fun _ => rfl) (fun x4 s2 => (jg_name 1 sc_law.nd)) (fun x4 s2 =>
(js_setOQ 2 (oL D.int) (fun (b36 : (List Int)) => b36) (fun (b36 : (List Int)) (v_pot_here_35 : (List Int)) => [.val (D.scr a), .val (D.int x4), .own 0 ((oL D.int) v_pot_here_35), .non, .non, .non, .non, .non, .non]) sc_law.nd (je_callV (ins := i_law_pot) (mf := m_law_pot) (sl := l_law_pot) (outs := o_law_pot) (ok_law_pot T) (hr.mono (by decide)) (by rfl) T.law_pot.g T.law_pot.f.kp T.law_pot.b pass0 (arg := (a, x4)) (ja_p (jp_var 0) (ja_p (jp_var 1) ja_nil)) hB) fun b36 v_pot_here_35 =>
(js_setEQ 3 (eT (eT (eP2 D.int D.int))) (fun (b354 : ((List (List (Int × Int))) × (List Int))) => b354.1) (fun (b354 : ((List (List (Int × Int))) × (List Int))) (v_rows_here_353 : (List (List (Int × Int)))) => [.val (D.scr a), .val (D.int x4), .own 0 ((oL D.int) b354.2), .val ((eT (eT (eP2 D.int D.int))) v_rows_here_353), .non, .non, .non, .non, .non]) sc_law.nd (je_callQ (ins := i_law_rows) (mf := m_law_rows) (sl := l_law_rows) (outs := o_law_rows) (ok_law_rows T) (hr.mono (by decide)) (by rfl) T.law_rows.g T.law_rows.f.kp T.law_rows.b pass0 (arg := v_pot_here_35) (fun (b352 : ((List (List (Int × Int))) × (List Int))) => [.val (D.scr a), .val (D.int x4), .own 0 ((oL D.int) b352.2), .non, .non, .non, .non, .non, .non]) (ja_s 2 ja_nil) hB) fun b354 v_rows_here_353 =>
(js_setEQ 4 (eT (eP2 (eP2 D.int D.int) (eP2 D.int D.int))) (fun (b372 : ((List ((Int × Int) × (Int × Int))) × (List Int))) => b372.1) (fun (b372 : ((List ((Int × Int) × (Int × Int))) × (List Int))) (v_sides_371 : (List ((Int × Int) × (Int × Int)))) => [.val (D.scr a), .val (D.int x4), .own 0 ((oL D.int) b372.2), .val ((eT (eT (eP2 D.int D.int))) v_rows_here_353), .val ((eT (eP2 (eP2 D.int D.int) (eP2 D.int D.int))) v_sides_371), .non, .non, .non, .non]) sc_law.nd (je_cbN (s := fun (c369 : ((List ((Int × Int) × (Int × Int))) × (List Int))) => .val ((eT (eP2 (eP2 D.int D.int) (eP2 D.int D.int))) c369.1)) (fun _ ht => pe_callTy call_tuple_of (by rfl) T.z_tuple (by decide +kernel) ht) (ja_el (xa := fun (x368 : ((List ((Int × Int) × (Int × Int))) × (List Int))) => (eL (eP2 (eP2 D.int D.int) (eP2 D.int D.int))) x368.1) (je_frzL (v := fun (b367 : ((List ((Int × Int) × (Int × Int))) × (List Int))) => b367.1) (je_lc (xs := fun (b355 : Unit) => v_rows_here_353) (ea := (eT (eP2 D.int D.int))) (ts := [7]) (c := fun (x357 : (List (Int × Int))) (s356 : (List Int)) => R.ok ()) (bn := fun (z365 : Unit) => true) (me := fun (x357 : (List (Int × Int))) (s356 : (List Int)) => (((m_law_any_fraction (s356, (9 : Int))).bind fun (x360 : ((Int × Int) × (List Int))) => (m_law_any_fraction (x360.2, (9 : Int))).bind fun (z363 : ((Int × Int) × (List Int))) => R.ok (x360, z363)).bind fun (y364 : (((Int × Int) × (List Int)) × ((Int × Int) × (List Int)))) => R.ok ((y364.1.1, y364.2.1), y364.2.2))) [("_law_row", 7)] (eP2 (eP2 D.int D.int) (eP2 D.int D.int)) (fun (s356 : (List Int)) => [.val (D.scr a), .val (D.int x4), .own 0 ((oL D.int) s356), .val ((eT (eT (eP2 D.int D.int))) v_rows_here_353), .non, .non, .non, .non, .non]) (fun (b355 : Unit) => b354.2) (fun (x357 : (List (Int × Int))) (s356 : (List Int)) => [.val (D.scr a), .val (D.int x4), .own 0 ((oL D.int) s356), .val ((eT (eT (eP2 D.int D.int))) v_rows_here_353), .non, .non, .non, .val ((eT (eP2 D.int D.int)) x357), .non]) Prod.fst Prod.snd rfl sc_law.nd (ji_tup (jp_var 3)) (blkOk_by (N := ["_law_script", "_law_k", "_law_pot_here", "_law_rows_here", "_law_sides", "_law_kept", "_law_found", "_law_row", "_law_side"]) (sc := defScope s_law) (by decide +kernel)) (fun _ => rfl) (fun _ _ _ _ _ _ hB358 x357 s356 => (have hB := noRs hB358 hB; (jn_name 7 sc_law.nd))) (fun _ _ _ _ _ _ hB358 x357 s356 => (have hB := noRs hB358 hB; jts_nil)) (fun _ _ _ _ _ _ hB358 x357 s356 => (have hB := noRs hB358 hB; (je_mapS (en := (eP2 (eP2 D.int D.int) (eP2 D.int D.int))) (v := fun (y364 : (((Int × Int) × (List Int)) × ((Int × Int) × (List Int)))) => (y364.1.1, y364.2.1)) (st := fun (y364 : (((Int × Int) × (List Int)) × ((Int × Int) × (List Int)))) => y364.2.2) (ρ' := fun (s366 : (List Int)) => [.val (D.scr a), .val (D.int x4), .own 0 ((oL D.int) s366), .val ((eT (eT (eP2 D.int D.int))) v_rows_here_353), .non, .non, .non, .val ((eT (eP2 D.int D.int)) x357), .non]) (je_tup (ja_e (xa := fun (x360 : ((Int × Int) × (List Int))) => (eP2 D.int D.int) x360.1) (je_callQ (ins := i_law_any_fraction) (mf := m_law_any_fraction) (sl := l_law_any_fraction) (outs := o_law_any_fraction) (ok_law_any_fraction T) (hr.mono (by decide)) (by rfl) T.law_any_fraction.g T.law_any_fraction.f.kp T.law_any_fraction.b pass0 (arg := (s356, (9 : Int))) (fun (b359 : ((Int × Int) × (List Int))) => [.val (D.scr a), .val (D.int x4), .own 0 ((oL D.int) b359.2), .val ((eT (eT (eP2 D.int D.int))) v_rows_here_353), .non, .non, .non, .val ((eT (eP2 D.int D.int)) x357), .non]) (ja_s 2 (ja_p jp_int ja_nil)) hB) (fun x360 => (ja_el (xa := fun (x362 : ((Int × Int) × (List Int))) => (eP2 D.int D.int) x362.1) (je_callQ (ins := i_law_any_fraction) (mf := m_law_any_fraction) (sl := l_law_any_fraction) (outs := o_law_any_fraction) (ok_law_any_fraction T) (hr.mono (by decide)) (by rfl) T.law_any_fraction.g T.law_any_fraction.f.kp T.law_any_fraction.b pass0 (arg := (x360.2, (9 : Int))) (fun (b361 : ((Int × Int) × (List Int))) => [.val (D.scr a), .val (D.int x4), .own 0 ((oL D.int) b361.2), .val ((eT (eT (eP2 D.int D.int))) v_rows_here_353), .non, .non, .non, .val ((eT (eP2 D.int D.int)) x357), .non]) (ja_s 2 (ja_p jp_int ja_nil)) hB) (fun x362 => ja_nil)))))))))) (fun x368 => ja_nil)) (fun c369 => cb_tupL)) fun b372 v_sides_371 =>
(js_setEQ 5 D.str (fun (b374 : Unit) => (reprD ((eP2 (eT (eT (eP2 D.int D.int))) (eT (eP2 (eP2 D.int D.int) (eP2 D.int D.int)))) (v_rows_here_353, v_sides_371)))) (fun (b374 : Unit) (v_kept_373 : Str) => [.val (D.scr a), .val (D.int x4), .own 0 ((oL D.int) b372.2), .val ((eT (eT (eP2 D.int D.int))) v_rows_here_353), .val ((eT (eP2 (eP2 D.int D.int) (eP2 D.int D.int))) v_sides_371), .val (D.str v_kept_373), .non, .non, .non]) sc_law.nd (je_cb (fun _ ht => pe_callB (call_reprD hr.gd (un64 hr)) (by rfl) T.z_repr (by decide +kernel) ht) (ja_p (je_tup (ja_p (jp_var 3) (ja_p (jp_var 4) ja_nil))) ja_nil) cb_repr) fun b374 v_kept_373 =>
(js_setEQ 6 (eO (eT (eP2 (eP2 D.int D.int) (eP2 D.int D.int)))) (fun (b586 : (Option (List ((Int × Int) × (Int × Int))))) => b586) (fun (b586 : (Option (List ((Int × Int) × (Int × Int))))) (v_found_585 : (Option (List ((Int × Int) × (Int × Int))))) => [.val (D.scr a), .val (D.int x4), .own 0 ((oL D.int) b372.2), .val ((eT (eT (eP2 D.int D.int))) v_rows_here_353), .val ((eT (eP2 (eP2 D.int D.int) (eP2 D.int D.int))) v_sides_371), .val (D.str v_kept_373), .val ((eO (eT (eP2 (eP2 D.int D.int) (eP2 D.int D.int)))) v_found_585), .non, .non]) sc_law.nd (je_callV (ins := i_solved) (mf := m_solved) (sl := l_solved) (outs := o_solved) (ok_solved T) (hr.mono (by decide)) (by rfl) T.solved.g T.solved.f.kp T.solved.b pass0 (arg := (v_rows_here_353, v_sides_371)) (ja_p (jp_var 3) (ja_p (jp_var 4) ja_nil)) hB) fun b586 v_found_585 =>
(js_cons (ρ1 := fun (n720 : Unit) => [.val (D.scr a), .val (D.int x4), .own 0 ((oL D.int) b372.2), .val ((eT (eT (eP2 D.int D.int))) v_rows_here_353), .val ((eT (eP2 (eP2 D.int D.int) (eP2 D.int D.int))) v_sides_371), .val (D.str v_kept_373), .val ((eO (eT (eP2 (eP2 D.int D.int) (eP2 D.int D.int)))) v_found_585), .non, .non]) (js_if (jt_w (jw_or (xa := fun (b718 : Unit) => (!decide ((reprD ((eP2 (eT (eT (eP2 D.int D.int))) (eT (eP2 (eP2 D.int D.int) (eP2 D.int D.int)))) (v_rows_here_353, v_sides_371))) = v_kept_373))) (jt_opL (ρa := fun _ => _) (bn := fun (x587 : Unit) => (!decide ((reprD ((eP2 (eT (eT (eP2 D.int D.int))) (eT (eP2 (eP2 D.int D.int) (eP2 D.int D.int)))) (v_rows_here_353, v_sides_371))) = v_kept_373))) (xa := fun (x587 : Unit) => D.str (reprD ((eP2 (eT (eT (eP2 D.int D.int))) (eT (eP2 (eP2 D.int D.int) (eP2 D.int D.int)))) (v_rows_here_353, v_sides_371)))) (y := fun (x587 : Unit) => D.str v_kept_373) (fun _ _ ha hb => pt_cmpR op_ne ha hb (nomark _)) (je_cb (fun _ ht => pe_callB (call_reprD hr.gd (un64 hr)) (by rfl) T.z_repr (by decide +kernel) ht) (ja_p (je_tup (ja_p (jp_var 3) (ja_p (jp_var 4) ja_nil))) ja_nil) cb_repr) (fun x587 => (jp_var 5)) (fun x587 => od_neS)) (jw_or1 (jt_map (jt_opR (ρb := fun _ => _) (bn := fun (y715 : Bool) => (!decide ((!isNon ((eO (eT (eP2 (eP2 D.int D.int) (eP2 D.int D.int)))) v_found_585)) = y715))) (xb := fun (y715 : Bool) => D.bool y715) (fun _ _ ha hb => pt_cmpR (op_neD (un64 hr)) ha hb (nomark _)) (je_op (fun _ _ ha hb => pe_cmpR op_notN ha hb (nomark _)) (jp_var 6) jp_non od_notN) (je_callV (ins := i_law_is_lone) (mf := m_law_is_lone) (sl := l_law_is_lone) (outs := o_law_is_lone) (ok_law_is_lone T) (hr.mono (by decide)) (by rfl) T.law_is_lone.g T.law_is_lone.f.kp T.law_is_lone.b pass0 (arg := v_rows_here_353) (ja_p (jp_var 3) ja_nil) hB) (fun y715 => (od_neD ee_bool))))))) (fun b719 => (js_one (js_retP false [false, false, false, false, false, false, false, true, true] jp_bl))) (fun b719 => (js_nil [true, true, true, true, true, true, true, true, true] ()))) fun n720 =>
(js_cons (ρ1 := fun (n892 : Unit) => [.val (D.scr a), .val (D.int x4), .own 0 ((oL D.int) b372.2), .val ((eT (eT (eP2 D.int D.int))) v_rows_here_353), .val ((eT (eP2 (eP2 D.int D.int) (eP2 D.int D.int))) v_sides_371), .val (D.str v_kept_373), .val ((eO (eT (eP2 (eP2 D.int D.int) (eP2 D.int D.int)))) v_found_585), .non, .non]) (js_ifP (jt_op (fun _ _ ha hb => pt_cmpR op_notN ha hb (nomark _)) (jp_var 6) jp_non od_notN) (js_cons (ρ1 := fun (n872 : Unit) => [.val (D.scr a), .val (D.int x4), .own 0 ((oL D.int) b372.2), .val ((eT (eT (eP2 D.int D.int))) v_rows_here_353), .val ((eT (eP2 (eP2 D.int D.int) (eP2 D.int D.int))) v_sides_371), .val (D.str v_kept_373), .val ((eO (eT (eP2 (eP2 D.int D.int) (eP2 D.int D.int)))) v_found_585), .non, .non]) (js_if (jt_not (jt_val (je_callVE (ρa := fun _ => _) (ins := i_law_is_drawing) (mf := m_law_is_drawing) (sl := l_law_is_drawing) (outs := o_law_is_drawing) (ok_law_is_drawing T) (hr.mono (by decide)) (by rfl) T.law_is_drawing.g T.law_is_drawing.f.kp T.law_is_drawing.b pass0 (arg := fun (c869 : (Unit × (List ((Int × Int) × (Int × Int))))) => (c869.2, ((List.length v_rows_here_353 : Nat) : Int))) (ja_el (ρa := fun _ => _) (xa := fun (x868 : (Unit × (List ((Int × Int) × (Int × Int))))) => (eT (eP2 (eP2 D.int D.int) (eP2 D.int D.int))) x868.2) (je_opt (g := (eT (eP2 (eP2 D.int D.int) (eP2 D.int D.int)))) (o := fun (b866 : Unit) => v_found_585) (jp_var 6)) (fun x868 => (ja_p (je_cb (fun _ ht => pe_callB call_len_seq (by rfl) T.z_len (by decide +kernel) ht) (ja_p (jp_var 3) ja_nil) cb_lenTm) ja_nil))) hB))) (fun b871 => (js_one (js_retP false [false, false, false, false, false, false, false, true, true] jp_bl))) (fun b871 => (js_nil [true, true, true, true, true, true, true, true, true] ()))) fun n872 =>
(js_cons (ρ1 := fun (n876 : Unit) => [.val (D.scr a), .val (D.int x4), .own 0 ((oL D.int) b372.2), .val ((eT (eT (eP2 D.int D.int))) v_rows_here_353), .val ((eT (eP2 (eP2 D.int D.int) (eP2 D.int D.int))) v_sides_371), .val (D.str v_kept_373), .val ((eO (eT (eP2 (eP2 D.int D.int) (eP2 D.int D.int)))) v_found_585), .non, .non]) (js_forP (en := (eP2 (eT (eP2 D.int D.int)) (eP2 (eP2 D.int D.int) (eP2 D.int D.int)))) (fun (s875 : Unit) => [.val (D.scr a), .val (D.int x4), .own 0 ((oL D.int) b372.2), .val ((eT (eT (eP2 D.int D.int))) v_rows_here_353), .val ((eT (eP2 (eP2 D.int D.int) (eP2 D.int D.int))) v_sides_371), .val (D.str v_kept_373), .val ((eO (eT (eP2 (eP2 D.int D.int) (eP2 D.int D.int)))) v_found_585), .non, .non]) (fun (x877 : ((List (Int × Int)) × ((Int × Int) × (Int × Int)))) (s875 : Unit) => [.val (D.scr a), .val (D.int x4), .own 0 ((oL D.int) b372.2), .val ((eT (eT (eP2 D.int D.int))) v_rows_here_353), .val ((eT (eP2 (eP2 D.int D.int) (eP2 D.int D.int))) v_sides_371), .val (D.str v_kept_373), .val ((eO (eT (eP2 (eP2 D.int D.int) (eP2 D.int D.int)))) v_found_585), .val ((eT (eP2 D.int D.int)) x877.1), .val ((eP2 (eP2 D.int D.int) (eP2 D.int D.int)) x877.2)]) PassesOwn.never rfl (ji_zipT (f := (eT (eP2 D.int D.int))) (g := (eP2 (eP2 D.int D.int) (eP2 D.int D.int))) (xs := fun (b873 : Unit) => v_rows_here_353) (ys := fun (b873 : Unit) => v_sides_371) (by rfl) T.z_zip (ja_p (jp_var 3) (ja_p (jp_var 4) ja_nil))) [true, true, true, true, true, true, true, true, true] rfl (fun x877 s875 => (jg_tup rfl (jgs_p (jg_name 7 sc_law.nd) (jgs_p (jg_name 8 sc_law.nd) jgs_nil)))) (fun x877 s875 =>
(js_cons (ρ1 := fun (n891 : Unit) => [.val (D.scr a), .val (D.int x4), .own 0 ((oL D.int) b372.2), .val ((eT (eT (eP2 D.int D.int))) v_rows_here_353), .val ((eT (eP2 (eP2 D.int D.int) (eP2 D.int D.int))) v_sides_371), .val (D.str v_kept_373), .val ((eO (eT (eP2 (eP2 D.int D.int) (eP2 D.int D.int)))) v_found_585), .val ((eT (eP2 D.int D.int)) x877.1), .val ((eP2 (eP2 D.int D.int) (eP2 D.int D.int)) x877.2)]) (js_if (jt_w (jw_or (xa := fun (b889 : ((Unit × (List ((Int × Int) × (Int × Int)))) × Bool)) => (!b889.2)) (jt_not (jt_val (je_callVE (ρa := fun _ => _) (ins := i_law_comes) (mf := m_law_comes) (sl := l_law_comes) (outs := o_law_comes) (ok_law_comes T) (hr.mono (by decide)) (by rfl) T.law_comes.g T.law_comes.f.kp T.law_comes.b pass0 (arg := fun (c881 : (Unit × (List ((Int × Int) × (Int × Int))))) => (x877.1, c881.2, x877.2, (0 : Int))) (ja_p (jp_var 7) (ja_el (ρa := fun _ => _) (xa := fun (x880 : (Unit × (List ((Int × Int) × (Int × Int))))) => (eT (eP2 (eP2 D.int D.int) (eP2 D.int D.int))) x880.2) (je_opt (g := (eT (eP2 (eP2 D.int D.int) (eP2 D.int D.int)))) (o := fun (b878 : Unit) => v_found_585) (jp_var 6)) (fun x880 => (ja_p (jp_var 8) (ja_p jp_int ja_nil))))) hB))) (jw_or1 (jt_map (jt_not (jt_val (je_callVE (ρa := fun _ => _) (ins := i_law_comes) (mf := m_law_comes) (sl := l_law_comes) (outs := o_law_comes) (ok_law_comes T) (hr.mono (by decide)) (by rfl) T.law_comes.g T.law_comes.f.kp T.law_comes.b pass0 (arg := fun (c886 : (Unit × (List ((Int × Int) × (Int × Int))))) => (x877.1, c886.2, x877.2, (1 : Int))) (ja_p (jp_var 7) (ja_el (ρa := fun _ => _) (xa := fun (x885 : (Unit × (List ((Int × Int) × (Int × Int))))) => (eT (eP2 (eP2 D.int D.int) (eP2 D.int D.int))) x885.2) (je_opt (g := (eT (eP2 (eP2 D.int D.int) (eP2 D.int D.int)))) (o := fun (b883 : Unit) => v_found_585) (jp_var 6)) (fun x885 => (ja_p (jp_var 8) (ja_p jp_int ja_nil))))) hB))))))) (fun b890 => (js_one (js_retP false [false, false, false, false, false, false, false, false, false] jp_bl))) (fun b890 => (js_nil [true, true, true, true, true, true, true, true, true] ()))) fun n891 =>
(js_nil [true, true, true, true, true, true, true, false, false] ())))) fun n876 =>
(js_nil [true, true, true, true, true, true, true, true, true] ()))) (js_nil [true, true, true, true, true, true, true, true, true] ())) fun n892 =>
(js_nil [true, false, false, false, false, false, false, true, true] ())))))))))) fun n3 =>
(js_one (js_retP true [false, true, true, true, true, true, true, true, true] jp_bl))))
theorem digit_ok (a b many : Int) (h : 0 < many) (h2 : many < 2 ^ 8000) : ∃ r a' b', m_law_digit ([a, b], many) = .ok (r, [a', b']) ∧ 0 ≤ r ∧ r < many := by
  unfold m_law_digit mb_law_digit
  have e0 : atI [a, b] (0 : Int) = some a := rfl
  have e1 : atI [a, b] (1 : Int) = some b := rfl
  have i0 : ixN (List.length [a, b]) (0 : Int) = some 0 := rfl
  have i1 : ixN (List.length [a, b]) (1 : Int) = some 1 := rfl
  simp only [e0, e1, i0, i1, some_ok, bind_ok, List.set_cons_succ, List.set_cons_zero]
  by_cases ha : a > 0
  · rw [guard_ok (divp_ok' h h2)]
    refine ⟨a % many, a / many, b, ?_, Int.emod_nonneg _ (by omega), Int.emod_lt_of_pos _ h⟩
    simp only [ha, decide_true, if_true, bind_ok, bindF_rt, fin0_rt]
    rfl
  · generalize hc : (b * 48271 + 39373) % 2147483647 = c
    have c0 : 0 ≤ c := by omega
    have c1 : c < 2147483647 := by omega
    have e2 : atI [a, c] (1 : Int) = some c := rfl
    have hm : CMulX c c := mulx 31 (by omega) (by omega)
    simp only [ha, decide_false, Bool.false_eq_true, if_false, bindF_nx, e2, some_ok, op2_ok, bind_ok, guard_ok hm, guard_ok (show many ≠ 0 by omega)]
    refine ⟨_, a, c, rfl, ?_, ?_⟩
    · rw [Int.fmod_eq_emod_of_nonneg _ (by omega)]
      exact Int.emod_nonneg _ (by omega)
    · rw [Int.fmod_eq_emod_of_nonneg _ (by omega)]
      exact Int.emod_lt_of_pos _ h
theorem pot_ok (ns : List Int) (k : Int) (h0 : 0 ≤ k) : ∃ a b, m_law_pot (ns, k) = .ok [a, b] := by
  unfold m_law_pot mb_law_pot
  obtain ⟨c, h1, h2⟩ := cell_ok ns k h0
  rw [guard_ok (line_ok (by simp only [List.length_cons, List.length_nil]; omega))]
  simp only [h1, some_ok, bind_ok, lt_eq, fin0_rt]
  exact ⟨_, _, rfl⟩
def Pot (l : List Int) : Prop := ∃ a b, l = [a, b]
theorem digit {l : List Int} {many : Int} (hp : Pot l) (h : 0 < many) (h2 : many < 2 ^ 8000) : Ok (m_law_digit (l, many)) fun p => 0 ≤ p.1 ∧ p.1 < many ∧ Pot p.2 := by
  obtain ⟨a, b, rfl⟩ := hp
  obtain ⟨r, a', b', e, h3, h4⟩ := digit_ok a b many h h2
  exact ⟨_, e, h3, h4, a', b', rfl⟩
theorem pot (ns : List Int) {k : Int} (h0 : 0 ≤ k) : Ok (m_law_pot (ns, k)) Pot := by
  obtain ⟨a, b, e⟩ := pot_ok ns k h0
  exact ⟨_, e, a, b, rfl⟩
theorem small8000 {k : Int} (h : k < 1000000000000) : k < 2 ^ 8000 := Int.lt_of_lt_of_le h (by decide +kernel)
theorem rng62 {k : Int} (h : -1000000 ≤ k) (h2 : k < 1000000000000) : rngOk k := ⟨by omega, by omega⟩
theorem sizeB {n : Nat} (h : n ≤ 100000) : n < sizeLine := Nat.lt_of_le_of_lt h (by decide)
theorem comp_eq {α γ : Type} {m : α → R γ} {f : α → γ} {xs : List α} (h : ∀ x ∈ xs, m x = .ok (f x)) : compR (compF (fun (x : α) (s : Unit) => R.ok ()) (fun (_ : Unit) => true) (fun (x : α) (s : Unit) => (m x).bind fun (y : γ) => R.ok (y, ())) Prod.fst Prod.snd) xs [] () = .ok (xs.map f, ()) := by
  have go : ∀ (xs : List α) (acc : List γ), (∀ x ∈ xs, m x = .ok (f x)) → compR (compF (fun (x : α) (s : Unit) => R.ok ()) (fun (_ : Unit) => true) (fun (x : α) (s : Unit) => (m x).bind fun (y : γ) => R.ok (y, ())) Prod.fst Prod.snd) xs acc () = .ok (acc ++ xs.map f, ()) := by
    intro xs
    induction xs with
    | nil => intro acc _; rw [compR, List.map_nil, List.append_nil]
    | cons x xs ih =>
      intro acc h
      have e := h x List.mem_cons_self
      rw [compR, compF]
      simp only [bind_ok, if_true, e]
      rw [ih _ fun y m => h y (List.mem_cons_of_mem _ m), List.map_cons, List.append_assoc]
      rfl
  have := go xs [] h
  rwa [List.nil_append] at this
theorem comp_eqF {α β γ : Type} {m : α → R β} {f : α → β} {k : α → β → γ} {xs : List α} (h : ∀ x ∈ xs, m x = .ok (f x)) : compR (compF (fun (x : α) (s : Unit) => R.ok ()) (fun (_ : Unit) => true) (fun (x : α) (s : Unit) => (m x).bind fun (y : β) => R.ok (k x y, ())) Prod.fst Prod.snd) xs [] () = .ok (xs.map fun x => k x (f x), ()) := by
  have := comp_eq (m := fun x => (m x).bind fun y => R.ok (k x y)) (f := fun x => k x (f x)) (xs := xs) fun x hx => by
    show (m x).bind _ = _
    rw [h x hx]
    rfl
  simp only [DL.bind_assoc, bind_okN] at this
  exact this
theorem comp_fm {α β γ : Type} {t : α → R β} {c : β → Bool} (f : α → γ) {pr : α → Bool} {xs : List α} (h : ∀ x ∈ xs, ∃ b, t x = .ok b ∧ c b = pr x) : compR (compF (fun (x : α) (s : Unit) => t x) c (fun (x : α) (s : Unit) => (R.ok ()).bind fun (y : Unit) => R.ok (f x, ())) Prod.fst Prod.snd) xs [] () = .ok ((xs.filter pr).map f, ()) := by
  have go : ∀ (ys : List α) (acc : List γ), (∀ x ∈ ys, ∃ b, t x = .ok b ∧ c b = pr x) → compR (compF (fun (x : α) (s : Unit) => t x) c (fun (x : α) (s : Unit) => R.ok (f x, ())) Prod.fst Prod.snd) ys acc () = .ok (acc ++ (ys.filter pr).map f, ()) := by
    intro ys
    induction ys with
    | nil => intro acc _; rw [compR, List.filter_nil, List.map_nil, List.append_nil]
    | cons y ys ih =>
      intro acc k
      obtain ⟨b, eb, ec⟩ := k y List.mem_cons_self
      have ih := fun acc => ih acc fun z m => k z (List.mem_cons_of_mem _ m)
      rw [compR, compF]
      simp only [eb, bind_ok, ec]
      cases hq : pr y with
      | true =>
        simp only [if_true, bind_ok]
        rw [ih, List.filter_cons, hq, if_pos rfl, List.map_cons, List.append_assoc]
        rfl
      | false =>
        simp only [Bool.false_eq_true, if_false, bind_ok]
        rw [ih, List.filter_cons, hq, if_neg (by decide)]
  have := go xs [] h
  rwa [List.nil_append] at this
theorem gcd_loop : ∀ (k : Nat) (a b : Int), 0 ≤ a → 0 ≤ b → b ≤ k → whR (L := Unit) (T := Int) (fun (s : Int × Int) => R.ok (decide (s.2 > (0 : Int)))) (fun s => (R.guard (s.2 ≠ (0 : Int))).bind fun (x : Unit) => R.ok (.nx (s.2, Int.fmod s.1 s.2))) (a, b) = .ok (.nx ((Int.gcd a b : Int), 0)) := by
  intro k
  induction k with
  | zero =>
    intro a b ha hb h
    have : b = 0 := by omega
    subst this
    rw [whR_false (by rfl)]
    rw [Int.gcd_zero_right]
    simp [Int.natAbs_of_nonneg ha]
  | succ k ih =>
    intro a b ha hb h
    by_cases hb0 : b = 0
    · subst hb0
      rw [whR_false (by rfl), Int.gcd_zero_right]
      simp [Int.natAbs_of_nonneg ha]
    · refine whR_true (s' := (b, a.fmod b)) (by simp; omega) (by rw [guard_ok hb0]; rfl) ?_
      rw [Int.fmod_eq_emod_of_nonneg _ hb]
      have := Int.emod_lt_of_pos a (show 0 < b by omega)
      rw [ih b (a % b) hb (Int.emod_nonneg _ hb0) (by omega)]
      have e : Int.gcd b (a % b) = Int.gcd a b := by
        obtain ⟨m, rfl⟩ := Int.eq_ofNat_of_zero_le ha
        obtain ⟨n, rfl⟩ := Int.eq_ofNat_of_zero_le hb
        rw [← Int.natCast_emod]
        simp only [Int.gcd, Int.natAbs_natCast]
        rw [Nat.gcd_comm n, ← Nat.gcd_rec, Nat.gcd_comm]
      rw [e]
theorem abs_ite (i : Int) : (if i < 0 then -i else i) = (i.natAbs : Int) := by split <;> omega
theorem divisor_ok (n d : Int) : m_divisor (n, d) = .ok (Int.gcd n d : Int) := by
  unfold m_divisor mb_divisor
  simp only [abs_ite]
  rw [gcd_loop d.natAbs _ _ (by omega) (by omega) (by omega)]
  simp only [bindF_nx, fin0_rt]
  rw [show Int.gcd (n.natAbs : Int) (d.natAbs : Int) = Int.gcd n d by simp [Int.gcd]]
theorem gcd_lt {n d : Int} {k : Nat} (hd : d ≠ 0) (h : d.natAbs < 2 ^ k) : (Int.gcd n d : Int).natAbs < 2 ^ k := by
  have := Nat.le_of_dvd (by omega) (Int.natAbs_dvd_natAbs.mpr (Int.gcd_dvd_right n d))
  omega
theorem pw (a b : Nat) (h : a ≤ b) {x : Nat} (hx : x < 2 ^ a) : x < 2 ^ b := Nat.lt_of_lt_of_le hx (Nat.pow_le_pow_right (by decide) h)
theorem mul_lt2 {i j : Int} {a b : Nat} (hi : i.natAbs < 2 ^ a) (hj : j.natAbs < 2 ^ b) : (i * j).natAbs < 2 ^ (a + b) := wide_lt hi hj
theorem add_lt2 {i j : Int} {a : Nat} (hi : i.natAbs < 2 ^ a) (hj : j.natAbs < 2 ^ a) : (i + j).natAbs < 2 ^ (a + 1) := by
  rw [Nat.pow_succ]
  omega
def cutP (x : Int × Int) : Int × Int := (x.1.fdiv (Int.gcd x.1 x.2 : Int), x.2.fdiv (Int.gcd x.1 x.2 : Int))
theorem cutP_spec {n d : Int} (h : 0 < d) : 0 < (cutP (n, d)).2 ∧ Int.gcd (cutP (n, d)).1 (cutP (n, d)).2 = 1 ∧ (cutP (n, d)).1 * d = n * (cutP (n, d)).2 ∧ (cutP (n, d)).1.natAbs ≤ n.natAbs ∧ (cutP (n, d)).2.natAbs ≤ d.natAbs := by
  obtain ⟨h1, h2, h3, h4, h5⟩ := fr_low (n := n) (d := d) (g := (Int.gcd n d : Int)) (by rw [if_neg (by omega)]) (by omega)
  refine ⟨h4, h5, ?_, ?_, ?_⟩
  · show n.fdiv (Int.gcd n d : Int) * d = n * d.fdiv (Int.gcd n d : Int)
    generalize (Int.gcd n d : Int) = g at *
    calc n.fdiv g * d = n.fdiv g * (d.fdiv g * g) := by rw [h3]
      _ = (n.fdiv g * g) * d.fdiv g := by rw [Int.mul_comm (d.fdiv g) g, Int.mul_assoc]
      _ = n * d.fdiv g := by rw [h2]
  · have e := congrArg Int.natAbs h2
    rw [Int.natAbs_mul] at e
    show (n.fdiv _).natAbs ≤ n.natAbs
    rw [← e]
    exact Nat.le_mul_of_pos_right _ (by omega)
  · have e := congrArg Int.natAbs h3
    rw [Int.natAbs_mul] at e
    show (d.fdiv _).natAbs ≤ d.natAbs
    rw [← e]
    exact Nat.le_mul_of_pos_right _ (by omega)
theorem coprime_unique {a b c d : Int} (hb : 0 < b) (hd : 0 < d) (g1 : Int.gcd a b = 1) (g2 : Int.gcd c d = 1) (h : a * d = c * b) : (a, b) = (c, d) := by
  have e := congrArg Int.natAbs h
  rw [Int.natAbs_mul, Int.natAbs_mul] at e
  have d1 : b.natAbs ∣ d.natAbs := Nat.Coprime.dvd_of_dvd_mul_left (show Nat.Coprime b.natAbs a.natAbs by rw [Nat.coprime_comm]; exact g1) ⟨c.natAbs, by rw [e, Nat.mul_comm]⟩
  have d2 : d.natAbs ∣ b.natAbs := Nat.Coprime.dvd_of_dvd_mul_left (show Nat.Coprime d.natAbs c.natAbs by rw [Nat.coprime_comm]; exact g2) ⟨a.natAbs, by rw [← e, Nat.mul_comm]⟩
  have e2 : b = d := by
    have := Nat.dvd_antisymm d1 d2
    omega
  subst e2
  have : a = c := Int.eq_of_mul_eq_mul_right (by omega) h
  rw [this]
theorem cutP_eq {x y : Int × Int} (hx : 0 < x.2) (hy : 0 < y.2) (h : x.1 * y.2 = y.1 * x.2) : cutP x = cutP y := by
  obtain ⟨n, d⟩ := x
  obtain ⟨m, e⟩ := y
  obtain ⟨a1, a2, a3, _⟩ := cutP_spec (n := n) hx
  obtain ⟨b1, b2, b3, _⟩ := cutP_spec (n := m) hy
  have hx : 0 < d := hx
  have hy : 0 < e := hy
  have h : n * e = m * d := h
  generalize cutP (n, d) = p at *
  generalize cutP (m, e) = q at *
  refine coprime_unique a1 b1 a2 b2 ?_
  have k : (p.1 * q.2) * (d * e) = (q.1 * p.2) * (d * e) := by
    calc (p.1 * q.2) * (d * e) = (p.1 * d) * (q.2 * e) := by ac_rfl
      _ = (n * p.2) * (q.2 * e) := by rw [a3]
      _ = (n * e) * (p.2 * q.2) := by ac_rfl
      _ = (m * d) * (p.2 * q.2) := by rw [h]
      _ = (m * q.2) * (p.2 * d) := by ac_rfl
      _ = (q.1 * e) * (p.2 * d) := by rw [b3]
      _ = (q.1 * p.2) * (d * e) := by ac_rfl
  exact Int.eq_of_mul_eq_mul_right (Int.mul_ne_zero (by omega) (by omega)) k
theorem cutP_low {x : Int × Int} (hx : 0 < x.2) (h : Int.gcd x.1 x.2 = 1) : cutP x = x := by
  obtain ⟨n, d⟩ := x
  show (n.fdiv (Int.gcd n d : Int), d.fdiv (Int.gcd n d : Int)) = _
  rw [show Int.gcd n d = 1 from h]
  simp
--#split
def sm : Nat → (Nat → Int) → Int
  | 0, _ => 0
  | k + 1, g => sm k g + g k
theorem sm_congr : ∀ {k : Nat} {g h : Nat → Int}, (∀ q, q < k → g q = h q) → sm k g = sm k h
  | 0, _, _, _ => rfl
  | k + 1, g, h, e => by rw [sm, sm, sm_congr fun q hq => e q (by omega), e k (by omega)]
theorem sm_zero : ∀ {k : Nat} {g : Nat → Int}, (∀ q, q < k → g q = 0) → sm k g = 0
  | 0, _, _ => rfl
  | k + 1, g, e => by rw [sm, sm_zero fun q hq => e q (by omega), e k (by omega)]; rfl
theorem sm_add : ∀ (k : Nat) (g h : Nat → Int), sm k (fun q => g q + h q) = sm k g + sm k h
  | 0, _, _ => rfl
  | k + 1, g, h => by
    rw [sm, sm, sm, sm_add k]
    omega
theorem sm_sub : ∀ (k : Nat) (g h : Nat → Int), sm k (fun q => g q - h q) = sm k g - sm k h
  | 0, _, _ => rfl
  | k + 1, g, h => by
    rw [sm, sm, sm, sm_sub k]
    omega
theorem sm_mul (x : Int) : ∀ (k : Nat) (g : Nat → Int), sm k (fun q => x * g q) = x * sm k g
  | 0, _ => by rw [sm, sm, Int.mul_zero]
  | k + 1, g => by rw [sm, sm, sm_mul x k, Int.mul_add]
theorem sm_one {k : Nat} {g : Nat → Int} {r : Nat} (hr : r < k) (h : ∀ q, q < k → q ≠ r → g q = 0) : sm k g = g r := by
  induction k with
  | zero => omega
  | succ k ih =>
    rw [sm]
    by_cases e : r = k
    · rw [sm_zero fun q hq => h q (by omega) (by omega), e, Int.zero_add]
    · rw [ih (by omega) fun q hq => h q (by omega), h k (by omega) (fun z => e z.symm), Int.add_zero]
theorem sm_comm : ∀ (k m : Nat) (g : Nat → Nat → Int), sm k (fun s => sm m (fun t => g s t)) = sm m (fun t => sm k (fun s => g s t))
  | 0, m, g => by
    rw [sm]
    exact (sm_zero fun _ _ => rfl).symm
  | k + 1, m, g => by
    rw [sm, sm_comm k m g, ← sm_add]
    exact sm_congr fun _ _ => rfl
theorem sm_anti {k : Nat} {g : Nat → Nat → Int} (h : ∀ s t, s < k → t < k → g s t = - g t s) : sm k (fun s => sm k (fun t => g s t)) = 0 := by
  have e : sm k (fun s => sm k (fun t => g s t)) = - sm k (fun s => sm k (fun t => g s t)) := by
    conv => lhs; rw [sm_comm]
    rw [show (-sm k fun s => sm k fun t => g s t) = (-1) * sm k (fun s => sm k fun t => g s t) by omega, ← sm_mul]
    refine sm_congr fun t ht => ?_
    rw [← sm_mul]
    refine sm_congr fun s hs => ?_
    rw [h s t hs ht]
    omega
  omega
def setc (M : Nat → Nat → Int) (q : Nat) (u : Nat → Int) : Nat → Nat → Int := fun p c => if c = q then u p else M p c
def det : Nat → (Nat → Nat → Int) → Int
  | 0, _ => 1
  | k + 1, M => M k k * det k M - sm k (fun q => M k q * det k (setc M q (fun p => M p k)))
theorem setc_at {M : Nat → Nat → Int} {q : Nat} {u : Nat → Int} {p : Nat} : setc M q u p q = u p := by rw [setc, if_pos rfl]
theorem setc_ne {M : Nat → Nat → Int} {q : Nat} {u : Nat → Int} {p c : Nat} (h : c ≠ q) : setc M q u p c = M p c := by rw [setc, if_neg h]
theorem setc_self {M : Nat → Nat → Int} {q : Nat} {u : Nat → Int} (h : ∀ p, u p = M p q) : setc M q u = M := by
  funext p c
  unfold setc
  split
  · rename_i e
    rw [e]
    exact h p
  · rfl
theorem setc_setc {M : Nat → Nat → Int} {q : Nat} {u v : Nat → Int} : setc (setc M q u) q v = setc M q v := by
  funext p c
  unfold setc
  split <;> rfl
theorem setc_comm {M : Nat → Nat → Int} {q r : Nat} {u v : Nat → Int} (h : q ≠ r) : setc (setc M q u) r v = setc (setc M r v) q u := by
  funext p c
  unfold setc
  by_cases h1 : c = r
  · rw [if_pos h1, if_neg (by omega), if_pos h1]
  · rw [if_neg h1]
    by_cases h2 : c = q
    · rw [if_pos h2, if_pos h2]
    · rw [if_neg h2, if_neg h2, if_neg h1]
theorem det_congr : ∀ {k : Nat} {M N : Nat → Nat → Int}, (∀ p c, p < k → c < k → M p c = N p c) → det k M = det k N
  | 0, _, _, _ => rfl
  | k + 1, M, N, h => by
    rw [det, det, h k k (by omega) (by omega), det_congr fun p c hp hc => h p c (by omega) (by omega)]
    congr 1
    refine sm_congr fun q hq => ?_
    rw [h k q (by omega) (by omega)]
    congr 1
    refine det_congr fun p c hp hc => ?_
    unfold setc
    split
    · exact h p k (by omega) (by omega)
    · exact h p c (by omega) (by omega)
theorem det_lin : ∀ {k : Nat} {M : Nat → Nat → Int} {q : Nat} (hq : q < k) (x y : Int) (u v : Nat → Int), det k (setc M q (fun p => x * u p + y * v p)) = x * det k (setc M q u) + y * det k (setc M q v)
  | 0, _, _, h, _, _, _, _ => absurd h (Nat.not_lt_zero _)
  | k + 1, M, q, hq, x, y, u, v => by
    rw [det, det, det]
    by_cases e : q = k
    · subst e
      have c : ∀ w : Nat → Int, det q (setc M q w) = det q M := fun w => det_congr fun p c hp hc => setc_ne (by omega)
      have c2 : ∀ (w : Nat → Int) (t : Nat), t < q → setc M q w q t * det q (setc (setc M q w) t (fun p => setc M q w p q)) = M q t * det q (setc M t w) := fun w t ht => by
        rw [setc_ne (by omega)]
        congr 1
        refine det_congr fun p c hp hc => ?_
        unfold setc
        show (if c = t then (if q = q then w p else M p q) else if c = q then w p else M p c) = _
        rw [if_pos rfl, if_neg (show ¬ c = q by omega)]
      rw [setc_at, setc_at, setc_at, c, c, c, sm_congr fun t ht => c2 _ t ht, sm_congr fun t ht => c2 u t ht, sm_congr fun t ht => c2 v t ht]
      have : sm q (fun t => M q t * det q (setc M t (fun p => x * u p + y * v p))) = x * sm q (fun t => M q t * det q (setc M t u)) + y * sm q (fun t => M q t * det q (setc M t v)) := by
        rw [← sm_mul, ← sm_mul, ← sm_add]
        refine sm_congr fun t ht => ?_
        rw [det_lin ht]
        grind
      rw [this]
      grind
    · have hq' : q < k := by omega
      have c : ∀ (w : Nat → Int) (t : Nat), t < k → t ≠ q → setc M q w k t * det k (setc (setc M q w) t (fun p => setc M q w p k)) = M k t * det k (setc (setc M t (fun p => M p k)) q w) := fun w t ht ne => by
        have e1 : (fun p => setc M q w p k) = fun p => M p k := by
          funext p
          exact setc_ne (by omega)
        rw [setc_ne ne, setc_comm (fun z => ne z.symm), e1]
      have c0 : ∀ w : Nat → Int, setc M q w k q * det k (setc (setc M q w) q (fun p => setc M q w p k)) = w k * det k (setc M q (fun p => M p k)) := fun w => by
        have e1 : (fun p => setc M q w p k) = fun p => M p k := by
          funext p
          exact setc_ne (by omega)
        rw [setc_at, setc_setc, e1]
      have split1 : ∀ w : Nat → Int, sm k (fun t => setc M q w k t * det k (setc (setc M q w) t (fun p => setc M q w p k))) = sm k (fun t => if t = q then w k * det k (setc M q (fun p => M p k)) else M k t * det k (setc (setc M t (fun p => M p k)) q w)) := fun w => sm_congr fun t ht => by
        by_cases e : t = q
        · rw [if_pos e, e, c0]
        · rw [if_neg e, c w t ht e]
      rw [setc_ne (by omega), setc_ne (by omega), setc_ne (by omega), det_lin hq', split1, split1, split1]
      have : sm k (fun t => if t = q then (x * u k + y * v k) * det k (setc M q (fun p => M p k)) else M k t * det k (setc (setc M t (fun p => M p k)) q (fun p => x * u p + y * v p))) =
          x * sm k (fun t => if t = q then u k * det k (setc M q (fun p => M p k)) else M k t * det k (setc (setc M t (fun p => M p k)) q u)) + y * sm k (fun t => if t = q then v k * det k (setc M q (fun p => M p k)) else M k t * det k (setc (setc M t (fun p => M p k)) q v)) := by
        rw [← sm_mul, ← sm_mul, ← sm_add]
        refine sm_congr fun t ht => ?_
        split
        · grind
        · rw [det_lin hq']
          grind
      rw [this]
      grind
theorem det_alt : ∀ {k : Nat} {M : Nat → Nat → Int} {q r : Nat}, q < k → r < k → q ≠ r → (∀ p, p < k → M p q = M p r) → det k M = 0
  | 0, _, _, _, h, _, _, _ => absurd h (Nat.not_lt_zero _)
  | k + 1, M, q, r, hq, hr, ne, h => by
    -- the columns exchanged, one less
    have swap : ∀ {M : Nat → Nat → Int} {q r : Nat} (u v : Nat → Int), q < k → r < k → q ≠ r → det k (setc (setc M q u) r v) = - det k (setc (setc M q v) r u) := fun {M q r} u v hq hr ne => by
      have z : ∀ w : Nat → Int, det k (setc (setc M q w) r w) = 0 := fun w => det_alt hq hr ne fun p hp => by rw [setc_ne ne, setc_at, setc_at]
      have one : ∀ w : Nat → Int, (fun p => (1 : Int) * w p + 1 * w p) = fun p => 2 * w p := fun w => by
        funext p
        omega
      have e0 := z (fun p => 1 * u p + 1 * v p)
      rw [det_lin hr, setc_comm ne, setc_comm (u := fun p => 1 * u p + 1 * v p) (v := v) ne, det_lin hq, det_lin hq, ← setc_comm ne, ← setc_comm ne, ← setc_comm ne, ← setc_comm ne, z u, z v] at e0
      omega
    -- one of them is the last
    have last : ∀ {M : Nat → Nat → Int} {q : Nat}, q < k → (∀ p, p < k + 1 → M p q = M p k) → det (k + 1) M = 0 := fun {M q} hq h => by
      have z : ∀ t, t < k → t ≠ q → M k t * det k (setc M t (fun p => M p k)) = 0 := fun t ht ne => by
        rw [det_alt (q := q) (r := t) hq ht (fun z => ne z.symm) (fun p hp => by rw [setc_ne (fun z => ne z.symm), setc_at]; exact h p (by omega)), Int.mul_zero]
      rw [det, sm_one hq z, h k (by omega), det_congr (k := k) (M := setc M q (fun p => M p k)) (N := M) (fun p c hp hc => ?_)]
      · omega
      · by_cases e : c = q
        · rw [e, setc_at]
          exact (h p (by omega)).symm
        · exact setc_ne e
    by_cases e1 : q = k
    · subst e1
      exact last (q := r) (by omega) fun p hp => (h p hp).symm
    · by_cases e2 : r = k
      · subst e2
        exact last (q := q) (by omega) h
      · have hq' : q < k := by omega
        have hr' : r < k := by omega
        have z : ∀ t, t < k → t ≠ q → t ≠ r → M k t * det k (setc M t (fun p => M p k)) = 0 := fun t ht n1 n2 => by
          rw [det_alt (q := q) (r := r) hq' hr' ne (fun p hp => by rw [setc_ne (fun z => n1 z.symm), setc_ne (fun z => n2 z.symm)]; exact h p (by omega)), Int.mul_zero]
        have two : sm k (fun t => M k t * det k (setc M t (fun p => M p k))) = M k q * det k (setc M q (fun p => M p k)) + M k r * det k (setc M r (fun p => M p k)) := by
          have e : sm k (fun t => M k t * det k (setc M t (fun p => M p k))) = sm k (fun t => (if t = q then M k q * det k (setc M q (fun p => M p k)) else 0) + (if t = r then M k r * det k (setc M r (fun p => M p k)) else 0)) := sm_congr fun t ht => by
            by_cases a : t = q
            · rw [if_pos a, if_neg (by omega), a, Int.add_zero]
            · by_cases b : t = r
              · rw [if_neg a, if_pos b, b, Int.zero_add]
              · rw [if_neg a, if_neg b, z t ht a b]
                rfl
          rw [e, sm_add, sm_one hq' (fun t _ n => if_neg n), sm_one hr' (fun t _ n => if_neg n), if_pos rfl, if_pos rfl]
        have s1 : det k (setc M q (fun p => M p k)) = - det k (setc M r (fun p => M p k)) := by
          have e1 : setc (setc M q (fun p => M p k)) r (fun p => M p r) = setc M q (fun p => M p k) := setc_self fun p => (setc_ne (fun z => ne z.symm)).symm
          have e2 : det k (setc (setc M q (fun p => M p r)) r (fun p => M p k)) = det k (setc M r (fun p => M p k)) := det_congr fun p c hp hc => by
            by_cases b : c = r
            · rw [b, setc_at, setc_at]
            · rw [setc_ne b, setc_ne b]
              by_cases a : c = q
              · rw [a, setc_at]
                exact (h p (by omega)).symm
              · exact setc_ne a
          rw [← e1, swap _ _ hq' hr' ne, e2]
        rw [det, det_alt hq' hr' ne (fun p hp => h p (by omega)), two, s1, h k (by omega)]
        grind
theorem det_swap {k : Nat} {M : Nat → Nat → Int} {q r : Nat} (u v : Nat → Int) (hq : q < k) (hr : r < k) (ne : q ≠ r) : det k (setc (setc M q u) r v) = - det k (setc (setc M q v) r u) := by
  have z : ∀ w : Nat → Int, det k (setc (setc M q w) r w) = 0 := fun w => det_alt hq hr ne fun p hp => by rw [setc_ne ne, setc_at, setc_at]
  have e0 := z (fun p => 1 * u p + 1 * v p)
  rw [det_lin hr, setc_comm ne, setc_comm (u := fun p => 1 * u p + 1 * v p) (v := v) ne, det_lin hq, det_lin hq, ← setc_comm ne, ← setc_comm ne, ← setc_comm ne, ← setc_comm ne, z u, z v] at e0
  omega
theorem det_sum {k : Nat} {M : Nat → Nat → Int} {q : Nat} (hq : q < k) (x : Nat → Int) (u : Nat → Nat → Int) : ∀ n, det k (setc M q (fun p => sm n (fun s => x s * u s p))) = sm n (fun s => x s * det k (setc M q (u s)))
  | 0 => by
    have e : (fun p : Nat => sm 0 (fun s => x s * u s p)) = fun p => 0 * u 0 p + 0 * u 0 p := by
      funext p
      rw [sm]
      omega
    rw [e, det_lin hq, sm]
    omega
  | n + 1 => by
    have e : (fun p : Nat => sm (n + 1) (fun s => x s * u s p)) = fun p => 1 * sm n (fun s => x s * u s p) + x n * u n p := by
      funext p
      rw [sm]
      omega
    rw [e, det_lin hq, det_sum hq x u n, sm]
    omega
theorem cramer : ∀ {k : Nat} (M : Nat → Nat → Int) (u : Nat → Int) {p : Nat}, p < k → sm k (fun s => M p s * det k (setc M s u)) = u p * det k M
  | 0, _, _, _, h => absurd h (Nat.not_lt_zero _)
  | k + 1, M, u, p, hp => by
    have d1 : ∀ s, s < k → det (k + 1) (setc M s u) = M k k * det k (setc M s u) - sm k (fun t => if t = s then u k * det k (setc M s (fun p => M p k)) else M k t * det k (setc (setc M t (fun p => M p k)) s u)) := fun s hs => by
      rw [det, setc_ne (by omega)]
      congr 1
      refine sm_congr fun t ht => ?_
      have e1 : (fun p => setc M s u p k) = fun p => M p k := by
        funext p
        exact setc_ne (by omega)
      rw [e1]
      by_cases e : t = s
      · rw [if_pos e, e, setc_at, setc_setc]
      · rw [if_neg e, setc_ne e, setc_comm (fun z => e z.symm)]
    have d2 : det (k + 1) (setc M k u) = u k * det k M - sm k (fun t => M k t * det k (setc M t u)) := by
      rw [det, setc_at]
      congr 1
      · rw [det_congr fun p c hp hc => setc_ne (by omega)]
      · refine sm_congr fun t ht => ?_
        rw [setc_ne (by omega)]
        congr 1
        refine det_congr fun p c hp hc => ?_
        by_cases e : c = t
        · rw [e, setc_at, setc_at, setc_at]
        · rw [setc_ne e, setc_ne e, setc_ne (by omega)]
    -- the sum over the first columns
    have first : sm k (fun s => M p s * det (k + 1) (setc M s u)) = M k k * sm k (fun s => M p s * det k (setc M s u)) - sm k (fun s => sm k (fun t => M p s * (if t = s then u k * det k (setc M s (fun p => M p k)) else M k t * det k (setc (setc M t (fun p => M p k)) s u)))) := by
      rw [← sm_mul, ← sm_sub]
      refine sm_congr fun s hs => ?_
      rw [d1 s hs, sm_mul]
      grind
    rw [sm, first, d2]
    by_cases e : p = k
    · subst e
      have a : sm p (fun s => sm p (fun t => M p s * (if t = s then u p * det p (setc M s (fun r => M r p)) else M p t * det p (setc (setc M t (fun r => M r p)) s u)))) = u p * sm p (fun s => M p s * det p (setc M s (fun r => M r p))) := by
        have e1 : sm p (fun s => sm p (fun t => M p s * (if t = s then u p * det p (setc M s (fun r => M r p)) else M p t * det p (setc (setc M t (fun r => M r p)) s u)))) =
            sm p (fun s => sm p (fun t => (if t = s then u p * (M p s * det p (setc M s (fun r => M r p))) else 0)) + sm p (fun t => if t = s then 0 else M p s * M p t * det p (setc (setc M t (fun r => M r p)) s u))) := sm_congr fun s hs => by
          rw [← sm_add]
          refine sm_congr fun t ht => ?_
          split
          · grind
          · grind
        rw [e1, sm_add, sm_anti (g := fun s t => if t = s then 0 else M p s * M p t * det p (setc (setc M t (fun r => M r p)) s u)) (fun s t hs ht => ?_), Int.add_zero, ← sm_mul]
        · refine sm_congr fun s hs => ?_
          rw [sm_one hs (fun t _ n => if_neg n), if_pos rfl]
        · by_cases c : t = s
          · rw [if_pos c, if_pos c.symm]
            rfl
          · rw [if_neg c, if_neg (fun z => c z.symm), setc_comm c, det_swap _ _ hs ht (fun z => c z.symm)]
            grind
      rw [a, det]
      grind
    · have hp' : p < k := by omega
      have c1 := cramer M u hp'
      -- for each t the others' sum, and its own
      have c2 : ∀ t, t < k → sm k (fun s => if s = t then 0 else M p s * det k (setc (setc M t (fun r => M r k)) s u)) = u p * det k (setc M t (fun r => M r k)) - M p k * det k (setc M t u) := fun t ht => by
        have := cramer (setc M t (fun r => M r k)) u hp'
        rw [← this]
        have e1 : sm k (fun s => setc M t (fun r => M r k) p s * det k (setc (setc M t (fun r => M r k)) s u)) = sm k (fun s => (if s = t then 0 else M p s * det k (setc (setc M t (fun r => M r k)) s u)) + (if s = t then M p k * det k (setc M t u) else 0)) := sm_congr fun s hs => by
          by_cases c : s = t
          · rw [if_pos c, if_pos c, c, setc_at, setc_setc, Int.zero_add]
          · rw [if_neg c, if_neg c, setc_ne c, Int.add_zero]
        rw [e1, sm_add, sm_one (g := fun s => if s = t then M p k * det k (setc M t u) else 0) ht (fun s _ n => if_neg n), if_pos rfl]
        omega
      have c3 := cramer M (fun r => M r k) hp'
      have a : sm k (fun s => sm k (fun t => M p s * (if t = s then u k * det k (setc M s (fun p => M p k)) else M k t * det k (setc (setc M t (fun p => M p k)) s u)))) = u k * (M p k * det k M) + sm k (fun t => M k t * (u p * det k (setc M t (fun r => M r k)) - M p k * det k (setc M t u))) := by
        have e1 : sm k (fun s => sm k (fun t => M p s * (if t = s then u k * det k (setc M s (fun p => M p k)) else M k t * det k (setc (setc M t (fun p => M p k)) s u)))) =
            sm k (fun s => sm k (fun t => if t = s then u k * (M p s * det k (setc M s (fun r => M r k))) else 0) + sm k (fun t => M k t * (if s = t then 0 else M p s * det k (setc (setc M t (fun r => M r k)) s u)))) := sm_congr fun s hs => by
          rw [← sm_add]
          refine sm_congr fun t ht => ?_
          by_cases c : t = s
          · rw [if_pos c, if_pos c, if_pos c.symm]
            grind
          · rw [if_neg c, if_neg c, if_neg (fun z => c z.symm)]
            grind
        rw [e1, sm_add, sm_comm k k (fun s t => M k t * (if s = t then 0 else M p s * det k (setc (setc M t (fun r => M r k)) s u)))]
        congr 1
        · rw [← c3, ← sm_mul]
          refine sm_congr fun s hs => ?_
          rw [sm_one hs (fun t _ n => if_neg n), if_pos rfl]
        · refine sm_congr fun t ht => ?_
          rw [sm_mul, c2 t ht]
      have b : sm k (fun t => M k t * (u p * det k (setc M t (fun r => M r k)) - M p k * det k (setc M t u))) = u p * sm k (fun t => M k t * det k (setc M t (fun r => M r k))) - M p k * sm k (fun t => M k t * det k (setc M t u)) := by
        rw [← sm_mul, ← sm_mul, ← sm_sub]
        refine sm_congr fun t ht => ?_
        grind
      rw [a, b, c1, det]
      grind
theorem jacobi {k : Nat} (M : Nat → Nat → Int) {q t : Nat} (hq : q < k) (ht : t < k) (ne : q ≠ t) (u v : Nat → Int) : det k M * det k (setc (setc M q u) t v) = det k (setc M q u) * det k (setc M t v) - det k (setc M q v) * det k (setc M t u) := by
  have e0 : ∀ p c, p < k → c < k → setc (setc M t v) q (fun p => sm k (fun s => det k (setc M s u) * M p s)) p c = setc (setc M t v) q (fun p => det k M * u p + 0 * u p) p c := fun p c hp hc => by
    by_cases a : c = q
    · rw [a, setc_at, setc_at]
      have := cramer M u hp
      rw [sm_congr fun s hs => Int.mul_comm (det k (setc M s u)) (M p s), this]
      grind
    · rw [setc_ne a, setc_ne a]
  have e1 := det_congr e0
  rw [det_lin hq, det_sum hq] at e1
  have z : ∀ s, s < k → s ≠ q → s ≠ t → det k (setc M s u) * det k (setc (setc M t v) q (fun p => M p s)) = 0 := fun s hs n1 n2 => by
    rw [det_alt (M := setc (setc M t v) q (fun p => M p s)) (q := q) (r := s) hq hs (fun z => n1 z.symm) (fun p hp => by rw [setc_at, setc_ne n1, setc_ne n2]), Int.mul_zero]
  have two : sm k (fun s => det k (setc M s u) * det k (setc (setc M t v) q (fun p => M p s))) = det k (setc M q u) * det k (setc (setc M t v) q (fun p => M p q)) + det k (setc M t u) * det k (setc (setc M t v) q (fun p => M p t)) := by
    have e : sm k (fun s => det k (setc M s u) * det k (setc (setc M t v) q (fun p => M p s))) = sm k (fun s => (if s = q then det k (setc M q u) * det k (setc (setc M t v) q (fun p => M p q)) else 0) + (if s = t then det k (setc M t u) * det k (setc (setc M t v) q (fun p => M p t)) else 0)) := sm_congr fun s hs => by
      by_cases a : s = q
      · rw [if_pos a, if_neg (by omega), a, Int.add_zero]
      · by_cases b : s = t
        · rw [if_neg a, if_pos b, b, Int.zero_add]
        · rw [if_neg a, if_neg b, z s hs a b]
          rfl
    rw [e, sm_add, sm_one hq (fun t _ n => if_neg n), sm_one ht (fun t _ n => if_neg n), if_pos rfl, if_pos rfl]
  have s1 : setc (setc M t v) q (fun p => M p q) = setc M t v := setc_self fun p => (setc_ne ne).symm
  have s2 : det k (setc (setc M t v) q (fun p => M p t)) = - det k (setc M q v) := by
    have : setc (setc M t (fun p => M p t)) q v = setc M q v := by rw [setc_self fun p => rfl]
    rw [det_swap _ _ ht hq (fun z => ne z.symm), this]
  rw [two, s1, s2, ← setc_comm ne] at e1
  grind
--#split
def setr (P : Nat → Nat → Int) (k : Nat) (r : Nat → Int) : Nat → Nat → Int := fun p c => if p = k then r c else P p c
theorem setr_at {P : Nat → Nat → Int} {k : Nat} {r : Nat → Int} {c : Nat} : setr P k r k c = r c := by rw [setr, if_pos rfl]
theorem setr_ne {P : Nat → Nat → Int} {k : Nat} {r : Nat → Int} {p c : Nat} (h : p ≠ k) : setr P k r p c = P p c := by rw [setr, if_neg h]
def X (k : Nat) (P : Nat → Nat → Int) (q j : Nat) : Int := det k (setc P q (fun p => P p j))
def bor (k : Nat) (P : Nat → Nat → Int) (r : Nat → Int) (j : Nat) : Int := det k P * r j - sm k (fun q => r q * X k P q j)
theorem X_congr {k : Nat} {P Q : Nat → Nat → Int} {q j : Nat} (h : ∀ p c, p < k → P p c = Q p c) : X k P q j = X k Q q j := det_congr fun p c hp hc => by
  by_cases e : c = q
  · rw [e, setc_at, setc_at, h p j hp]
  · rw [setc_ne e, setc_ne e, h p c hp]
theorem bor_congr {k : Nat} {P Q : Nat → Nat → Int} {r : Nat → Int} {j : Nat} (h : ∀ p c, p < k → P p c = Q p c) : bor k P r j = bor k Q r j := by
  unfold bor
  rw [det_congr fun p c hp _ => h p c hp, sm_congr fun q hq => by rw [X_congr h]]
theorem det_setr {k : Nat} {P : Nat → Nat → Int} {l : Nat → Int} : det (k + 1) (setr P k l) = bor k P l k := by
  rw [det, bor, setr_at, det_congr (k := k) (M := setr P k l) (N := P) fun p c hp hc => setr_ne (by omega)]
  congr 1
  · exact Int.mul_comm _ _
  · refine sm_congr fun q hq => ?_
    rw [setr_at]
    congr 1
    exact det_congr fun p c hp hc => by
      by_cases e : c = q
      · rw [e, setc_at, setc_at, setr_ne (by omega)]
      · rw [setc_ne e, setc_ne e, setr_ne (by omega)]
theorem X_last {k : Nat} {P : Nat → Nat → Int} {l : Nat → Int} {j : Nat} : X (k + 1) (setr P k l) k j = bor k P l j := by
  rw [X, det, bor, setc_at, setr_at, det_congr (k := k) (M := setc (setr P k l) k (fun p => setr P k l p j)) (N := P) fun p c hp hc => by rw [setc_ne (by omega), setr_ne (by omega)]]
  congr 1
  · exact Int.mul_comm _ _
  · refine sm_congr fun q hq => ?_
    rw [setc_ne (by omega), setr_at]
    congr 1
    exact det_congr fun p c hp hc => by
      by_cases e : c = q
      · rw [e, setc_at, setc_at, setc_at, setr_ne (by omega)]
      · rw [setc_ne e, setc_ne e, setc_ne (by omega), setr_ne (by omega)]
theorem X_up {k : Nat} {P : Nat → Nat → Int} {l : Nat → Int} {q j : Nat} (hq : q < k) : det k P * X (k + 1) (setr P k l) q j = bor k P l k * X k P q j - X k P q k * bor k P l j := by
  have e1 : X (k + 1) (setr P k l) q j = l k * X k P q j - sm k (fun t => if t = q then l j * X k P q k else l t * det k (setc (setc P t (fun p => P p k)) q (fun p => P p j))) := by
    rw [X, det, setc_ne (by omega), setr_at]
    congr 1
    · congr 1
      exact det_congr fun p c hp hc => by
        by_cases e : c = q
        · rw [e, setc_at, setc_at, setr_ne (by omega)]
        · rw [setc_ne e, setc_ne e, setr_ne (by omega)]
    · refine sm_congr fun t ht => ?_
      by_cases e : t = q
      · rw [if_pos e, e, setc_at, setr_at]
        congr 1
        exact det_congr fun p c hp hc => by
          by_cases e : c = q
          · rw [e, setc_at, setc_at, setc_ne (by omega), setr_ne (by omega)]
          · rw [setc_ne e, setc_ne e, setc_ne e, setr_ne (by omega)]
      · rw [if_neg e, setc_ne e, setr_at]
        congr 1
        exact det_congr fun p c hp hc => by
          by_cases a : c = t
          · rw [a, setc_at, setc_ne e, setc_at, setc_ne (by omega), setr_ne (by omega)]
          · by_cases b : c = q
            · rw [b, setc_ne (fun z => e z.symm), setc_at, setc_at, setr_ne (by omega)]
            · rw [setc_ne a, setc_ne b, setc_ne b, setc_ne a, setr_ne (by omega)]
  have e2 : det k P * sm k (fun t => if t = q then l j * X k P q k else l t * det k (setc (setc P t (fun p => P p k)) q (fun p => P p j))) =
      det k P * (l j * X k P q k) + (X k P q j * sm k (fun t => l t * X k P t k) - X k P q k * sm k (fun t => l t * X k P t j)) := by
    rw [← sm_mul]
    have e3 : sm k (fun t => det k P * (if t = q then l j * X k P q k else l t * det k (setc (setc P t (fun p => P p k)) q (fun p => P p j)))) = sm k (fun t => (if t = q then det k P * (l j * X k P q k) else 0) + (X k P q j * (l t * X k P t k) - X k P q k * (l t * X k P t j))) := sm_congr fun t ht => by
      by_cases e : t = q
      · rw [if_pos e, if_pos e, e]
        grind
      · rw [if_neg e, if_neg e]
        have := jacobi P ht hq e (fun p => P p k) (fun p => P p j)
        unfold X
        grind
    rw [e3, sm_add, sm_one (g := fun t => if t = q then det k P * (l j * X k P q k) else 0) hq (fun t _ n => if_neg n), if_pos rfl, sm_sub, sm_mul, sm_mul]
  rw [e1, Int.mul_sub, e2]
  unfold bor
  grind
theorem bor_up {k : Nat} {P : Nat → Nat → Int} {l r : Nat → Int} {j : Nat} : det k P * bor (k + 1) (setr P k l) r j = bor k P l k * bor k P r j - bor k P r k * bor k P l j := by
  have e1 : bor (k + 1) (setr P k l) r j = bor k P l k * r j - (sm k (fun q => r q * X (k + 1) (setr P k l) q j) + r k * bor k P l j) := by
    rw [bor, det_setr, sm, X_last]
  have e2 : det k P * sm k (fun q => r q * X (k + 1) (setr P k l) q j) = bor k P l k * sm k (fun q => r q * X k P q j) - bor k P l j * sm k (fun q => r q * X k P q k) := by
    rw [← sm_mul, ← sm_mul, ← sm_mul, ← sm_sub]
    refine sm_congr fun q hq => ?_
    have := X_up (P := P) (l := l) (j := j) hq
    grind
  rw [e1, Int.mul_sub, Int.mul_add, e2]
  conv => rhs; rw [bor, bor]
  unfold bor
  grind
theorem bor_own {k : Nat} {P : Nat → Nat → Int} {p j : Nat} (hp : p < k) : bor k P (fun c => P p c) j = 0 := by
  have := cramer P (fun s => P s j) hp
  unfold bor X
  rw [this]
  grind
theorem X_self {k : Nat} {P : Nat → Nat → Int} {q : Nat} : X k P q q = det k P := by
  unfold X
  rw [setc_self fun p => rfl]
theorem X_other {k : Nat} {P : Nat → Nat → Int} {q c : Nat} (hq : q < k) (hc : c < k) (ne : q ≠ c) : X k P q c = 0 :=
  det_alt hq hc ne fun p hp => by rw [setc_at, setc_ne fun z => ne z.symm]
theorem ker_zero {n : Nat} {P : Nat → Nat → Int} (hd : det n P ≠ 0) {x : Nat → Int} (h : ∀ p, p < n → sm n (fun s => P p s * x s) = 0) {q : Nat} (hq : q < n) : x q = 0 := by
  have e0 : det n (setc P q (fun p => sm n (fun s => x s * P p s))) = det n (setc P q (fun p => 0 * P p 0 + 0 * P p 0)) := det_congr fun p c hp hc => by
    by_cases e : c = q
    · rw [e, setc_at, setc_at, sm_congr fun s hs => Int.mul_comm (x s) (P p s), h p hp]
      omega
    · rw [setc_ne e, setc_ne e]
  rw [det_sum hq x (fun s p => P p s), det_lin hq, sm_one hq fun s hs ne => by rw [show det n (setc P q fun p => P p s) = X n P q s from rfl, X_other hq hs (fun z => ne z.symm), Int.mul_zero], show det n (setc P q fun p => P p q) = X n P q q from rfl, X_self] at e0
  have : x q * det n P = 0 := by omega
  rcases Int.mul_eq_zero.mp this with h | h
  · exact h
  · exact absurd h hd
def sn : Nat → (Nat → Nat) → Nat
  | 0, _ => 0
  | k + 1, g => sn k g + g k
def fct : Nat → Nat
  | 0 => 1
  | k + 1 => (k + 1) * fct k
theorem sm_abs : ∀ {k : Nat} {g : Nat → Int} {b : Nat}, (∀ q, q < k → (g q).natAbs ≤ b) → (sm k g).natAbs ≤ k * b
  | 0, _, _, _ => by rw [sm]; simp
  | k + 1, g, b, h => by
    have h1 := sm_abs (k := k) (g := g) (b := b) fun q hq => h q (by omega)
    have h2 := h k (by omega)
    show (sm k g + g k).natAbs ≤ (k + 1) * b
    rw [Nat.succ_mul]
    omega
theorem det_abs : ∀ {k : Nat} {M : Nat → Nat → Int} {b : Nat → Nat}, (∀ p c, p < k → c < k → (M p c).natAbs ≤ 2 ^ b p) → (det k M).natAbs ≤ fct k * 2 ^ sn k b
  | 0, _, _, _ => by rw [det, fct, sn]; decide
  | k + 1, M, b, h => by
    have h1 := det_abs (k := k) (M := M) (b := b) fun p c hp hc => h p c (by omega) (by omega)
    have h2 : ∀ q, q < k → (M k q * det k (setc M q (fun p => M p k))).natAbs ≤ 2 ^ b k * (fct k * 2 ^ sn k b) := fun q hq => by
      rw [Int.natAbs_mul]
      refine Nat.mul_le_mul (h k q (by omega) (by omega)) (det_abs fun p c hp hc => ?_)
      by_cases e : c = q
      · rw [e, setc_at]
        exact h p k (by omega) (by omega)
      · rw [setc_ne e]
        exact h p c (by omega) (by omega)
    have h3 := sm_abs h2
    have h4 : (M k k * det k M).natAbs ≤ 2 ^ b k * (fct k * 2 ^ sn k b) := by
      rw [Int.natAbs_mul]
      exact Nat.mul_le_mul (h k k (by omega) (by omega)) h1
    rw [det, fct, sn, Nat.pow_add]
    have e : (k + 1) * fct k * (2 ^ sn k b * 2 ^ b k) = 2 ^ b k * (fct k * 2 ^ sn k b) + k * (2 ^ b k * (fct k * 2 ^ sn k b)) := by
      rw [Nat.succ_mul]
      grind
    rw [e]
    omega
--#split
def fnr (rows : List (List Int)) : Nat → Nat → Int := fun i j => (rows.getD i []).getD j 0
def blr : List Int → Nat
  | [] => 0
  | x :: l => max (x.natAbs.log2 + 1) (blr l)
theorem blr_mem {x : Int} : ∀ {l : List Int}, x ∈ l → x.natAbs < 2 ^ blr l
  | [], h => nomatch h
  | y :: l, h => by
    rw [blr]
    rcases List.mem_cons.mp h with rfl | h
    · exact Nat.lt_of_lt_of_le Nat.lt_log2_self (Nat.pow_le_pow_right (by decide) (Nat.le_max_left _ _))
    · exact Nat.lt_of_lt_of_le (blr_mem h) (Nat.pow_le_pow_right (by decide) (Nat.le_max_right _ _))
theorem blr_le {b : Nat} (hb : 1 ≤ b) : ∀ {l : List Int}, (∀ x ∈ l, x.natAbs < 2 ^ b) → blr l ≤ b
  | [], _ => Nat.zero_le _
  | x :: l, h => by
    rw [blr]
    refine Nat.max_le.mpr ⟨?_, blr_le hb fun y hy => h y (List.mem_cons_of_mem _ hy)⟩
    by_cases e : x.natAbs = 0
    · rw [e]
      exact hb
    · exact (Nat.log2_lt e).mpr (h x List.mem_cons_self)
theorem getD_abs (l : List Int) (j : Nat) : (l.getD j 0).natAbs ≤ 2 ^ blr l := by
  rw [List.getD_eq_getElem?_getD]
  cases e : l[j]? with
  | none => exact Nat.zero_le _
  | some x => exact Nat.le_of_lt (blr_mem (List.mem_of_getElem? e))
theorem fnr_set {l : List (List Int)} {i : Nat} {r : List Int} (hi : i < l.length) (p j : Nat) : fnr (l.set i r) p j = if p = i then r.getD j 0 else fnr l p j := by
  unfold fnr
  have e0 : (l.set i r).getD p [] = if p = i then r else l.getD p [] := by
    rw [List.getD_eq_getElem?_getD (l := l.set i r), List.getElem?_set]
    by_cases e : i = p
    · rw [if_pos e, if_pos (by omega), if_pos e.symm]
      rfl
    · rw [if_neg e, if_neg (fun z => e z.symm), ← List.getD_eq_getElem?_getD]
  rw [e0]
  split <;> rfl
def swp (l : List (List Int)) (k a : Nat) : List (List Int) := (l.set k (l.getD a [])).set a (l.getD k [])
theorem swp_len (l : List (List Int)) (k a : Nat) : (swp l k a).length = l.length := by rw [swp, List.length_set, List.length_set]
theorem fnr_swp {l : List (List Int)} {k a : Nat} (hk : k < l.length) (ha : a < l.length) (p j : Nat) : fnr (swp l k a) p j = fnr l (if p = a then k else if p = k then a else p) j := by
  unfold swp
  rw [fnr_set (by rw [List.length_set]; exact ha), fnr_set hk]
  split
  · rfl
  · split <;> rfl
theorem set_perm {α : Type} {l : List α} {i : Nat} {a x : α} (h : l[i]? = some a) : (a :: l.set i x).Perm (x :: l) := by
  obtain ⟨hi, e⟩ := List.getElem?_eq_some_iff.mp h
  have e1 : l = l.take i ++ a :: l.drop (i + 1) := by
    have := List.drop_eq_getElem_cons hi
    rw [e] at this
    rw [← this, List.take_append_drop]
  have e2 : l.set i x = l.take i ++ x :: l.drop (i + 1) := List.set_eq_take_append_cons_drop.trans (if_pos hi)
  rw [e2]
  conv => rhs; rw [e1]
  have p1 : (a :: (l.take i ++ x :: l.drop (i + 1))).Perm (a :: x :: (l.take i ++ l.drop (i + 1))) := List.Perm.cons _ List.perm_middle
  have p2 : (x :: (l.take i ++ a :: l.drop (i + 1))).Perm (x :: a :: (l.take i ++ l.drop (i + 1))) := List.Perm.cons _ List.perm_middle
  exact p1.trans ((List.Perm.swap _ _ _).trans p2.symm)
theorem getD_some {l : List (List Int)} {i : Nat} (h : i < l.length) : l[i]? = some (l.getD i []) := by
  rw [List.getD_eq_getElem?_getD, List.getElem?_eq_getElem h]
  rfl
theorem swp_perm {l : List (List Int)} {k a : Nat} (hk : k < l.length) (ha : a < l.length) : (swp l k a).Perm l := by
  have p1 := set_perm (x := l.getD a []) (getD_some hk)
  have h2 : (l.set k (l.getD a []))[a]? = some (l.getD a []) := by
    rw [List.getElem?_set]
    by_cases e : k = a
    · rw [if_pos e, if_pos (by omega)]
    · rw [if_neg e]
      exact getD_some ha
  have p2 := set_perm (x := l.getD k []) h2
  exact List.Perm.cons_inv (p2.trans p1)
theorem sum_mem {g : List Int → Nat} {x : List Int} : ∀ {l : List (List Int)}, x ∈ l → g x ≤ (l.map g).sum
  | [], h => nomatch h
  | y :: l, h => by
    rw [List.map_cons, List.sum_cons]
    rcases List.mem_cons.mp h with rfl | h
    · omega
    · have := sum_mem (g := g) h
      omega
theorem sn_take {g : List Int → Nat} (l : List (List Int)) : ∀ {k : Nat}, k ≤ l.length → sn k (fun p => g (l.getD p [])) = ((l.take k).map g).sum
  | 0, _ => by rw [List.take_zero]; rfl
  | k + 1, h => by
    rw [sn, sn_take l (by omega), List.take_succ, getD_some (show k < l.length by omega), List.map_append, List.sum_append]
    rfl
theorem sn_le {g : List Int → Nat} {l : List (List Int)} {k : Nat} (h : k ≤ l.length) : sn k (fun p => g (l.getD p [])) ≤ (l.map g).sum := by
  rw [sn_take l h]
  conv => rhs; rw [← List.take_append_drop k l, List.map_append, List.sum_append]
  omega
theorem fct_mono {a b : Nat} (h : a ≤ b) : fct a ≤ fct b := by
  induction h with
  | refl => exact Nat.le_refl _
  | @step b _ ih =>
    rw [fct]
    exact Nat.le_trans ih (Nat.le_mul_of_pos_left _ (by omega))
theorem sn_congr : ∀ {k : Nat} {g h : Nat → Nat}, (∀ p, p < k → g p = h p) → sn k g = sn k h
  | 0, _, _, _ => rfl
  | k + 1, g, h, e => by rw [sn, sn, sn_congr fun p hp => e p (by omega), e k (by omega)]
section
variable {n m T : Nat} {R0 R C : List (List Int)}
theorem X_bits (hT : (R.map blr).sum ≤ T) (hl : R.length = n) (hn : n ≤ 16) {k q j : Nat} (hk : k ≤ n) : (X k (fnr R) q j).natAbs ≤ fct 17 * 2 ^ (2 * T) := by
  have h1 := det_abs (k := k) (M := setc (fnr R) q (fun p => fnr R p j)) (b := fun p => blr (R.getD p [])) fun p c hp hc => by
    by_cases e : c = q
    · rw [e, setc_at]
      exact getD_abs _ _
    · rw [setc_ne e]
      exact getD_abs _ _
  have h2 := sn_le (g := blr) (l := R) (k := k) (by omega)
  exact Nat.le_trans h1 (Nat.mul_le_mul (fct_mono (by omega)) (Nat.pow_le_pow_right (by decide) (by omega)))
theorem bor_bits (hT : (R.map blr).sum ≤ T) (hl : R.length = n) (hn : n ≤ 16) {k i j : Nat} (hk : k ≤ n) (hi : i < n) : (bor k (fnr R) (fnr R i) j).natAbs ≤ fct 17 * 2 ^ (2 * T) := by
  rw [← X_last]
  have h1 := det_abs (k := k + 1) (M := setc (setr (fnr R) k (fnr R i)) k (fun p => setr (fnr R) k (fnr R i) p j)) (b := fun p => if p = k then blr (R.getD i []) else blr (R.getD p [])) fun p c hp hc => by
    have e0 : ∀ c, (setr (fnr R) k (fnr R i) p c).natAbs ≤ 2 ^ (if p = k then blr (R.getD i []) else blr (R.getD p [])) := fun c => by
      by_cases e : p = k
      · rw [e, setr_at, if_pos rfl]
        exact getD_abs _ _
      · rw [setr_ne e, if_neg e]
        exact getD_abs _ _
    by_cases e : c = k
    · rw [e, setc_at]
      exact e0 j
    · rw [setc_ne e]
      exact e0 c
  have h2 := sn_le (g := blr) (l := R) (k := k) (by omega)
  have h3 := sum_mem (g := blr) (List.mem_of_getElem? (getD_some (show i < R.length by omega)))
  have h4 : sn (k + 1) (fun p => if p = k then blr (R.getD i []) else blr (R.getD p [])) ≤ 2 * T := by
    rw [sn, if_pos rfl, sn_congr (h := fun p => blr (R.getD p [])) fun p hp => if_neg (by omega)]
    omega
  exact Nat.le_trans h1 (Nat.mul_le_mul (fct_mono (by omega)) (Nat.pow_le_pow_right (by decide) h4))
structure Cl (n m : Nat) (R0 : List (List Int)) (k : Nat) (R C : List (List Int)) (last : Int) : Prop where
  pm : R.Perm R0
  lr : R.length = n
  lc : C.length = n
  wc : ∀ r ∈ C, r.length = m
  dt : last = det k (fnr R)
  nz : last ≠ 0
  up : ∀ i j, i < k → j < m → fnr C i j = X k (fnr R) i j
  lo : ∀ i j, k ≤ i → i < n → j < m → fnr C i j = bor k (fnr R) (fnr R i) j
theorem Cl.bits {k : Nat} {last : Int} (h : Cl n m R0 k R C last) (hT : (R0.map blr).sum ≤ T) (hn : n ≤ 16) (hk : k ≤ n) {i j : Nat} (hi : i < n) (hj : j < m) : (fnr C i j).natAbs ≤ fct 17 * 2 ^ (2 * T) := by
  have hT' : (R.map blr).sum ≤ T := by rw [(h.pm.map blr).sum_nat]; exact hT
  by_cases c : i < k
  · rw [h.up i j c hj]
    exact X_bits hT' h.lr hn hk
  · rw [h.lo i j (by omega) hi hj]
    exact bor_bits hT' h.lr hn hk hi
theorem Cl.start (hl : R0.length = n) (hw : ∀ r ∈ R0, r.length = m) : Cl n m R0 0 R0 R0 1 := by
  refine ⟨List.Perm.refl _, hl, hl, hw, rfl, by decide, fun i j h => absurd h (Nat.not_lt_zero _), fun i j _ _ _ => ?_⟩
  rw [bor, det, sm]
  omega
theorem Cl.swap {k a : Nat} {last : Int} (h : Cl n m R0 k R C last) (hk : k < n) (ka : k ≤ a) (ha : a < n) : Cl n m R0 k (swp R k a) (swp C k a) last := by
  have e : ∀ p c, p < k → fnr (swp R k a) p c = fnr R p c := fun p c hp => by
    rw [fnr_swp (by rw [h.lr]; exact hk) (by rw [h.lr]; exact ha), if_neg (by omega), if_neg (by omega)]
  refine ⟨(swp_perm (by rw [h.lr]; exact hk) (by rw [h.lr]; exact ha)).trans h.pm, by rw [swp_len]; exact h.lr, by rw [swp_len]; exact h.lc, fun r hr => h.wc r ((swp_perm (by rw [h.lc]; exact hk) (by rw [h.lc]; exact ha)).mem_iff.mp hr), ?_, h.nz, fun i j hi hj => ?_, fun i j ki hi hj => ?_⟩
  · rw [h.dt]
    exact (det_congr fun p c hp _ => e p c hp).symm
  · rw [fnr_swp (by rw [h.lc]; exact hk) (by rw [h.lc]; exact ha), if_neg (by omega), if_neg (by omega), h.up i j hi hj]
    exact (X_congr e).symm
  · have e2 : fnr (swp R k a) i = fnr R (if i = a then k else if i = k then a else i) := by
      funext c
      exact fnr_swp (by rw [h.lr]; exact hk) (by rw [h.lr]; exact ha) i c
    rw [fnr_swp (by rw [h.lc]; exact hk) (by rw [h.lc]; exact ha), e2, bor_congr e]
    exact h.lo _ j (by split <;> (try split) <;> omega) (by split <;> (try split) <;> omega) hj
theorem Cl.next {k : Nat} {last : Int} (h : Cl n m R0 k R C last) (hk : k < n) (hm : k < m) (pv : fnr C k k ≠ 0) {C2 : List (List Int)} (l2 : C2.length = n) (w2 : ∀ r ∈ C2, r.length = m) (own : ∀ j, j < m → fnr C2 k j = fnr C k j)
    (oth : ∀ i j, i < n → i ≠ k → j < m → fnr C2 i j = if i < k then X (k + 1) (fnr R) i j else bor (k + 1) (fnr R) (fnr R i) j) : Cl n m R0 (k + 1) R C2 (fnr C k k) := by
  have e0 : setr (fnr R) k (fnr R k) = fnr R := by
    funext p c
    unfold setr
    split
    · rename_i e
      rw [e]
    · rfl
  refine ⟨h.pm, h.lr, l2, w2, ?_, pv, fun i j hi hj => ?_, fun i j ki hi hj => ?_⟩
  · rw [h.lo k k (Nat.le_refl _) hk hm, ← det_setr, e0]
  · by_cases c : i = k
    · rw [c, own j hj, h.lo k j (Nat.le_refl _) hk hj, ← X_last, e0]
    · rw [oth i j (by omega) c hj, if_pos (by omega)]
  · rw [oth i j hi (by omega) hj, if_neg (by omega)]
theorem Cl.even {k : Nat} {last : Int} (h : Cl n m R0 k R C last) (hk : k < n) (hm : k < m) {i j : Nat} (hi : i < n) (ne : i ≠ k) (hj : j < m) :
    fnr C k k * fnr C i j - fnr C i k * fnr C k j = last * (if i < k then X (k + 1) (fnr R) i j else bor (k + 1) (fnr R) (fnr R i) j) := by
  have e0 : setr (fnr R) k (fnr R k) = fnr R := by
    funext p c
    unfold setr
    split
    · rename_i e
      rw [e]
    · rfl
  rw [h.lo k k (Nat.le_refl _) hk hm, h.lo k j (Nat.le_refl _) hk hj, h.dt]
  by_cases c : i < k
  · rw [if_pos c, h.up i j c hj, h.up i k c hm]
    have := X_up (P := fnr R) (l := fnr R k) (j := j) c
    rw [e0] at this
    exact this.symm
  · rw [if_neg c, h.lo i j (by omega) hi hj, h.lo i k (by omega) hi hm]
    have := bor_up (k := k) (P := fnr R) (l := fnr R k) (r := fnr R i) (j := j)
    rw [e0] at this
    exact this.symm
end
--#split
theorem at_row {C : List (List Int)} {t : Nat} (h : t < C.length) : atI C ((t : Nat) : Int) = some (C.getD t []) := atI_nat (by omega) (by rw [Int.toNat_natCast]; exact getD_some h)
theorem at_num {r : List Int} {j : Nat} (h : j < r.length) : atI r ((j : Nat) : Int) = some (r.getD j 0) := atI_nat (by omega) (by
  rw [Int.toNat_natCast, List.getD_eq_getElem?_getD, List.getElem?_eq_getElem h]
  rfl)
theorem fct17 : fct 17 < 2 ^ 49 := by decide
theorem big_lt {x : Nat} (h : x ≤ fct 17 * 2 ^ (2 * 3200)) : x < 2 ^ 6449 := by
  refine Nat.lt_of_le_of_lt h ?_
  rw [show (6449 : Nat) = 49 + 2 * 3200 by decide, Nat.pow_add]
  exact Nat.mul_lt_mul_of_pos_right fct17 (Nat.pow_pos (by decide))
section
variable {n m : Nat} {R0 Q C : List (List Int)}
theorem lead_ok (lc : C.length = n) (wc : ∀ r ∈ C, r.length = m) (hn : n ≤ 1000) {k : Nat} (hk : k < n) (hm : k < m) : Ok (m_lead_at (C, (k : Int))) fun o => (o = none ∧ ∀ i, k ≤ i → i < n → fnr C i k = 0) ∨ ∃ a : Nat, o = some (a : Int) ∧ k ≤ a ∧ a < n ∧ fnr C a k ≠ 0 := by
  unfold m_lead_at mb_lead_at
  simp only [DL.bind_assoc, bind_okN]
  refine Ok.f0 (Ok.bF (Pn := fun _ => ∀ i, k ≤ i → i < n → fnr C i k = 0) (Ok.grdB ⟨rng62 (by omega) (by omega), rng62 (by omega) (by omega)⟩ (Ok.forR (fun t _ => ∀ i, k ≤ i → i < k + t → fnr C i k = 0) (fun i h1 h2 => absurd h1 (by omega)) ?_ ?_)) fun _ h => Ok.rt (.inl ⟨rfl, h⟩))
  · rintro t x _ e hI
    obtain ⟨e1, e2⟩ := rng_get e
    have ex : x = ((k + t : Nat) : Int) := by omega
    have hx : k + t < n := by omega
    subst ex
    have hr : (C.getD (k + t) []).length = m := wc _ (List.mem_of_getElem? (getD_some (by omega)))
    refine Ok.bF (Pn := fun _ => fnr C (k + t) k = 0) (Ok.somB (at_row (by omega)) (Ok.somB (at_num (by omega)) ?_)) fun _ h => Ok.nx fun i h1 h2 => ?_
    · by_cases c : (C.getD (k + t) []).getD k 0 = 0
      · exact Ok.iteF (by rw [decide_eq_true c]; rfl) (Ok.nx c)
      · exact Ok.iteT (by rw [decide_eq_false c]; rfl) (Ok.rt (.inr ⟨k + t, rfl, by omega, hx, c⟩))
    · by_cases c : i = k + t
      · rw [c]
        exact h
      · exact hI i h1 (by omega)
  · intro _ h i h1 h2
    exact h i h1 (by rw [rng_len]; omega)
theorem zip_get {row lead : List Int} (lr : row.length = m) (ll : lead.length = m) {j : Nat} {x : Int × Int} (h : (List.zip row lead)[j]? = some x) : j < m ∧ x = (row.getD j 0, lead.getD j 0) := by
  rw [List.getElem?_zip_eq_some] at h
  have hj := (List.getElem?_eq_some_iff.mp h.1).1
  refine ⟨by omega, Prod.ext ?_ ?_⟩
  · show x.1 = row.getD j 0
    rw [List.getD_eq_getElem?_getD, h.1]
    rfl
  · show x.2 = lead.getD j 0
    rw [List.getD_eq_getElem?_getD, h.2]
    rfl
theorem taken_ok {row lead : List Int} (lr : row.length = m) (ll : lead.length = m) (m1 : m ≤ 1000) {k : Nat} (hk : k < m) {last : Int} (l0 : last ≠ 0) (lb : last.natAbs < 2 ^ 8000) (br : ∀ j, j < m → (row.getD j 0).natAbs < 2 ^ 7000) (bl : ∀ j, j < m → (lead.getD j 0).natAbs < 2 ^ 7000)
    {z : Nat → Int} (hz : ∀ j, j < m → lead.getD k 0 * row.getD j 0 - row.getD k 0 * lead.getD j 0 = last * z j) : m_taken_off (row, lead, (k : Int), last) = .ok ((List.range m).map z) := by
  have hc := comp_eqF (m := fun (x431 : (Int × Int)) => ((op2 ((R.some (atI lead (k : Int))).bind fun (x435 : Int) => (R.guard (CMulX x435 x431.1)).bind fun (z437 : Unit) => R.ok (x435, z437)) (fun (x438 : (Int × Unit)) => ((R.some (atI row (k : Int))).bind fun (x442 : Int) => (R.guard (CMulX x442 x431.2)).bind fun (z444 : Unit) => R.ok (x442, z444))) (fun (x438 : (Int × Unit)) (y439 : (Int × Unit)) => R.ok ())).bind fun (x445 : ((Int × Unit) × (Int × Unit) × Unit)) => (R.guard (divOk ((x445.1.1 * x431.1) - (x445.2.1.1 * x431.2)) last)).bind fun (z447 : Unit) => R.ok (x445, z447)))
    (f := fun _ => (((lead.getD k 0, ()), (row.getD k 0, ()), ()), ())) (k := fun x431 y448 => Int.fdiv ((y448.1.1.1 * x431.1) - (y448.1.2.1.1 * x431.2)) last) (xs := List.zip row lead) fun x hx => by
      obtain ⟨j, hj⟩ := List.mem_iff_getElem?.mp hx
      obtain ⟨h1, rfl⟩ := zip_get lr ll hj
      have c1 : CMulX (lead.getD k 0) (row.getD j 0) := mulx 7000 (bl k hk) (br j h1)
      have c2 : CMulX (row.getD k 0) (lead.getD j 0) := mulx 7000 (br k hk) (bl j h1)
      simp only [at_num (r := lead) (show k < lead.length by omega), at_num (r := row) (show k < row.length by omega), some_ok, bind_okN, guard_ok c1, guard_ok c2, op2_ok, guard_ok (div_ok (i := lead.getD k 0 * row.getD j 0 - row.getD k 0 * lead.getD j 0) l0 lb)]
  unfold m_taken_off mb_taken_off
  rw [bind_okN, guard_ok (Nat.le_of_lt (sizeB (show (List.zip row lead).length ≤ 100000 by rw [List.length_zip]; omega))), bind_okN]
  simp only [DL.bind_assoc, bind_okN] at hc ⊢
  rw [hc, bind_okN, fin0_rt]
  refine congrArg R.ok (List.ext_getElem? fun j => ?_)
  rw [List.getElem?_map, List.getElem?_map]
  by_cases hj : j < m
  · obtain ⟨x, hx⟩ : ∃ x, (List.zip row lead)[j]? = some x := ⟨_, List.getElem?_eq_getElem (by rw [List.length_zip]; omega)⟩
    obtain ⟨_, rfl⟩ := zip_get lr ll hx
    rw [hx, List.getElem?_range hj]
    show some (Int.fdiv (lead.getD k 0 * row.getD j 0 - row.getD k 0 * lead.getD j 0) last) = some (z j)
    rw [hz j hj, Int.mul_fdiv_cancel_left _ l0]
  · rw [List.getElem?_eq_none (by rw [List.length_zip]; omega), List.getElem?_eq_none (by rw [List.length_range]; omega)]
    rfl
def Sing (n : Nat) (R0 : List (List Int)) : Prop := ∃ k Q, k < n ∧ Q.Perm R0 ∧ det k (fnr Q) ≠ 0 ∧ ∀ i, k ≤ i → i < n → bor k (fnr Q) (fnr Q i) k = 0
theorem cleared_ok (hl : R0.length = n) (hw : ∀ r ∈ R0, r.length = m) (hm : n ≤ m) (hn : n ≤ 16) (hm2 : m ≤ 1000) (hT : (R0.map blr).sum ≤ 3200) : Ok (m_cleared R0) fun o => (o = none ∧ Sing n R0) ∨ ∃ Q C last, o = some C ∧ Cl n m R0 n Q C last := by
  unfold m_cleared mb_cleared
  simp only [DL.bind_assoc, bind_okN]
  refine Ok.f0 (Ok.ltI (Ok.bF (Pn := fun (s : List (List Int) × Int) => ∃ Q, Cl n m R0 n Q s.1 s.2) (Ok.grdB (rng62 (by omega) (by omega)) (Ok.forR (fun k (s : List (List Int) × Int) => k ≤ n ∧ ∃ Q, Cl n m R0 k Q s.1 s.2) ⟨Nat.zero_le _, R0, Cl.start hl hw⟩ ?_ ?_)) fun s ⟨Q, h⟩ => Ok.rt (.inr ⟨Q, s.1, s.2, rfl, h⟩)))
  · rintro k x ⟨C, last⟩ e ⟨_, Q, h⟩
    obtain ⟨e1, e2⟩ := rng_get e
    have ex : x = (k : Int) := by omega
    subst ex
    have hk : k < n := by omega
    have h : Cl n m R0 k Q C last := h
    refine (lead_ok h.lc h.wc (by omega) hk (by omega)).bind fun o ho => Ok.ltI ?_
    rcases ho with ⟨rfl, ho⟩ | ⟨a, rfl, ka, an, pv⟩
    · refine Ok.bF (Pn := fun _ => False) (Ok.iteT rfl (Ok.rt (.inl ⟨rfl, k, Q, hk, h.pm, by rw [← h.dt]; exact h.nz, fun i h1 h2 => ?_⟩))) fun _ z => z.elim
      rw [← h.lo i k h1 h2 (by omega)]
      exact ho i h1 h2
    · have h2 := h.swap hk ka an
      have gk : (C.getD a []).length = m := h.wc _ (List.mem_of_getElem? (getD_some (by rw [h.lc]; exact an)))
      have pv2 : fnr (swp C k a) k k ≠ 0 := by
        rw [fnr_swp (by rw [h.lc]; exact hk) (by rw [h.lc]; exact an)]
        by_cases c : k = a
        · rw [if_pos c]
          rw [← c] at pv
          exact pv
        · rw [if_neg c, if_pos rfl]
          exact pv
      have i1 : ixN C.length (k : Int) = some k := by
        unfold ixN
        rw [if_pos (by omega), if_pos (by rw [h.lc]; omega)]
        rfl
      have i2 : ixN (List.set C k (C.getD a [])).length (a : Int) = some a := by
        unfold ixN
        rw [List.length_set, if_pos (by omega), if_pos (by rw [h.lc]; omega)]
        rfl
      have ls : (swp C k a).length = n := h2.lc
      have lead : atI (swp C k a) (k : Int) = some ((swp C k a).getD k []) := at_row (by omega)
      have wl : ((swp C k a).getD k []).length = m := h2.wc _ (List.mem_of_getElem? (getD_some (by omega)))
      have lastb : last.natAbs < 2 ^ 8000 := by
        rw [h.dt]
        have hT' : (Q.map blr).sum ≤ 3200 := by rw [(h.pm.map blr).sum_nat]; exact hT
        have := X_bits (R := Q) (k := k) (q := k) (j := 0) hT' h.lr hn (by omega)
        rw [show X k (fnr Q) k 0 = det k (fnr Q) from det_congr fun p c hp hc => setc_ne (by omega)] at this
        exact pw 6449 8000 (by decide) (big_lt this)
      have bits : ∀ i j, i < n → j < m → (fnr (swp C k a) i j).natAbs < 2 ^ 7000 := fun i j hi hj => pw 6449 7000 (by decide) (big_lt (h2.bits hT hn (by omega) hi hj))
      have hcomp := comp_eq (m := fun (x423 : (Int × (List Int))) => ((R.ok ()).bind fun (y427 : Unit) => if (decide (x423.1 = (k : Int))) = true then R.ok x423.2 else ((m_taken_off (x423.2, (swp C k a).getD k [], (k : Int), last)).bind fun (z453 : (List Int)) => R.ok z453)))
        (f := fun x => if decide (x.1 = (k : Int)) = true then x.2 else (List.range m).map fun j => if x.1.toNat < k then X (k + 1) (fnr (swp Q k a)) x.1.toNat j else bor (k + 1) (fnr (swp Q k a)) (fnr (swp Q k a) x.1.toNat) j) (xs := enumL (swp C k a)) fun x hx => by
          obtain ⟨i, hi⟩ := List.mem_iff_getElem?.mp hx
          rw [enumL_get] at hi
          have il : i < (swp C k a).length := by
            cases e : (swp C k a)[i]? with
            | none => rw [e] at hi; cases hi
            | some r => exact (List.getElem?_eq_some_iff.mp e).1
          rw [getD_some il] at hi
          have hi := (Option.some.inj hi).symm
          subst hi
          show (if decide ((i : Int) = (k : Int)) = true then R.ok ((swp C k a).getD i []) else _) = _
          by_cases c : i = k
          · rw [if_pos (by rw [c]; simp), if_pos (by rw [c]; simp)]
          · rw [if_neg (by simp; omega), if_neg (by simp; omega)]
            have wi : ((swp C k a).getD i []).length = m := h2.wc _ (List.mem_of_getElem? (getD_some il))
            show (m_taken_off ((swp C k a).getD i [], (swp C k a).getD k [], (k : Int), last)).bind _ = _
            rw [taken_ok wi wl hm2 (by omega) h.nz lastb (fun j hj => bits i j (by omega) hj) (fun j hj => bits k j hk hj) (fun j hj => h2.even hk (by omega) (by omega) c hj)]
            rfl
      refine Ok.bF (Pn := fun _ => True) (Ok.iteF rfl (Ok.nx trivial)) fun _ _ => Ok.okB ?_
      refine Ok.somB (at_row (by rw [h.lc]; exact an)) (Ok.somB (at_row (by rw [h.lc]; exact hk)) (Ok.somB i1 (Ok.somB i2 ?_)))
      show Ok ((R.some (atI (swp C k a) (k : Int))).bind _) _
      refine Ok.somB lead (Ok.ltI (Ok.grdB (Nat.le_of_lt (sizeB ?_)) ?_))
      · show (enumL (swp C k a)).length ≤ 100000
        have : (enumL (swp C k a)).length = n := by
          rw [← ls]
          unfold enumL
          simp
        omega
      · simp only [DL.bind_assoc, bind_okN] at hcomp
        refine Ok.bind1 hcomp (Ok.ltI (Ok.somB (at_num (by omega)) (Ok.ltI (Ok.nx ⟨by omega, swp Q k a, ?_⟩))))
        have g2 : ∀ i, i < n → ((enumL (swp C k a)).map fun x => if decide (x.1 = (k : Int)) = true then x.2 else (List.range m).map fun j => if x.1.toNat < k then X (k + 1) (fnr (swp Q k a)) x.1.toNat j else bor (k + 1) (fnr (swp Q k a)) (fnr (swp Q k a) x.1.toNat) j).getD i [] =
            if i = k then (swp C k a).getD k [] else (List.range m).map fun j => if i < k then X (k + 1) (fnr (swp Q k a)) i j else bor (k + 1) (fnr (swp Q k a)) (fnr (swp Q k a) i) j := fun i hi => by
          rw [List.getD_eq_getElem?_getD, List.getElem?_map, enumL_get, getD_some (show i < (swp C k a).length by omega)]
          show (if decide ((i : Int) = (k : Int)) = true then (swp C k a).getD i [] else _) = _
          by_cases c : i = k
          · rw [if_pos (by rw [c]; simp), if_pos c, c]
          · rw [if_neg (by simp; omega), if_neg c]
            rfl
        refine h2.next hk (by omega) pv2 ?_ ?_ (fun j hj => ?_) fun i j hi c hj => ?_
        · rw [List.length_map, ← ls]
          unfold enumL
          simp
        · intro r hr
          obtain ⟨x, hx, rfl⟩ := List.mem_map.mp hr
          obtain ⟨i, hi⟩ := List.mem_iff_getElem?.mp hx
          rw [enumL_get] at hi
          cases e : (swp C k a)[i]? with
          | none => rw [e] at hi; cases hi
          | some r =>
            rw [e] at hi
            have hi := (Option.some.inj hi).symm
            subst hi
            split
            · exact h2.wc _ (List.mem_of_getElem? e)
            · rw [List.length_map, List.length_range]
        · refine (congrArg (fun r : List Int => r.getD j 0) (g2 k hk)).trans ?_
          rw [if_pos rfl]
          rfl
        · refine (congrArg (fun r : List Int => r.getD j 0) (g2 i hi)).trans ?_
          show (if i = k then _ else _ : List Int).getD j 0 = _
          rw [if_neg c, List.getD_eq_getElem?_getD, List.getElem?_map, List.getElem?_range hj]
          rfl
  · rintro s ⟨_, Q, h⟩
    rw [rng_len, hl] at h
    rw [show ((n : Int) - 0).toNat = n by omega] at h
    exact ⟨Q, h⟩
end
--#split
abbrev Fra := Int × Int
theorem div_okq {i j : Int} (h : j ≠ 0) (hq : i.natAbs < 2 ^ 4000 * j.natAbs) : divOk i j := by
  refine ⟨h, ?_⟩
  have key : (if i == 0 then 0 else i.natAbs.log2 / 30 + 1) ≤ (if j == 0 then 0 else j.natAbs.log2 / 30 + 1) + 150 := by
    by_cases hi : (i == 0) = true
    · rw [if_pos hi]
      exact Nat.zero_le _
    · have hj : ¬ (j == 0) = true := fun z => h (by simpa using z)
      rw [if_neg hi, if_neg hj]
      have i0 : i.natAbs ≠ 0 := fun z => hi (by simp; omega)
      have j1 : j.natAbs < 2 ^ (j.natAbs.log2 + 1) := Nat.lt_log2_self
      have : i.natAbs < 2 ^ (4000 + (j.natAbs.log2 + 1)) := by
        rw [Nat.pow_add]
        exact Nat.lt_trans hq (Nat.mul_lt_mul_of_pos_left j1 (Nat.pow_pos (by decide)))
      have := (Nat.log2_lt i0).mpr this
      omega
  show (decide ((if j == 0 then 0 else j.natAbs.log2 / 30 + 1) > 300) && decide ((if i == 0 then 0 else i.natAbs.log2 / 30 + 1) > (if j == 0 then 0 else j.natAbs.log2 / 30 + 1) + 150)) = false
  rw [decide_eq_false (Nat.not_lt.mpr key), Bool.and_false]
def cbS (f : Int) (x : Fra) : Int := (f.fdiv (Int.gcd f x.2 : Int)) * x.2
def cb (l : List Fra) : Int := l.foldl cbS 1
theorem cbS_ok {f : Int} {x : Fra} (hf : 0 < f) (hx : 0 < x.2) : 0 < cbS f x ∧ f ∣ cbS f x ∧ x.2 ∣ cbS f x ∧ (cbS f x).natAbs ≤ f.natAbs * x.2.natAbs := by
  have g0 : 0 < Int.gcd f x.2 := Nat.pos_of_ne_zero fun z => by have := (Int.gcd_eq_zero_iff.mp z).1; omega
  obtain ⟨a, ha⟩ : (Int.gcd f x.2 : Int) ∣ f := Int.gcd_dvd_left ..
  obtain ⟨b, hb⟩ : (Int.gcd f x.2 : Int) ∣ x.2 := Int.gcd_dvd_right ..
  unfold cbS
  generalize (Int.gcd f x.2) = g at *
  have e : f.fdiv (g : Int) = a := by rw [ha, Int.mul_fdiv_cancel_left _ (by omega)]
  have g1 : (0 : Int) < (g : Int) := by omega
  have a0 : 0 < a := by
    have : 0 < a * (g : Int) := by rw [Int.mul_comm, ← ha]; exact hf
    exact Int.pos_of_mul_pos_left this g1
  rw [e]
  refine ⟨Int.mul_pos a0 hx, ⟨b, ?_⟩, ⟨a, Int.mul_comm _ _⟩, ?_⟩
  · rw [hb, ha]
    grind
  · rw [Int.natAbs_mul]
    refine Nat.mul_le_mul_right _ ?_
    rw [ha, Int.natAbs_mul]
    exact Nat.le_mul_of_pos_left _ (by omega)
def prd (l : List Fra) : Nat := (l.map fun x => x.2.natAbs).foldr (· * ·) 1
theorem prd_cons (x : Fra) (l : List Fra) : prd (x :: l) = x.2.natAbs * prd l := rfl
theorem prd_app (l r : List Fra) : prd (l ++ r) = prd l * prd r := by
  induction l with
  | nil => show prd r = 1 * prd r; rw [Nat.one_mul]
  | cons x l ih => rw [List.cons_append, prd_cons, prd_cons, ih, Nat.mul_assoc]
theorem prd_bits {b : Nat} : ∀ {l : List Fra}, (∀ x ∈ l, x.2.natAbs ≤ 2 ^ b) → prd l ≤ 2 ^ (b * l.length)
  | [], _ => by show 1 ≤ _; exact Nat.pow_pos (by decide)
  | x :: l, h => by
    rw [prd_cons, List.length_cons, Nat.mul_succ, Nat.pow_add, Nat.mul_comm (2 ^ (b * l.length))]
    exact Nat.mul_le_mul (h x List.mem_cons_self) (prd_bits fun y m => h y (List.mem_cons_of_mem _ m))
theorem cb_ok : ∀ {l : List Fra} {f : Int}, 0 < f → (∀ x ∈ l, 0 < x.2) → 0 < l.foldl cbS f ∧ f ∣ l.foldl cbS f ∧ (∀ x ∈ l, x.2 ∣ l.foldl cbS f) ∧ (l.foldl cbS f).natAbs ≤ f.natAbs * prd l
  | [], f, hf, _ => ⟨hf, Int.dvd_refl _, fun _ m => absurd m List.not_mem_nil, by show f.natAbs ≤ f.natAbs * 1; omega⟩
  | x :: l, f, hf, h => by
    obtain ⟨a1, a2, a3, a4⟩ := cbS_ok hf (h x List.mem_cons_self)
    obtain ⟨b1, b2, b3, b4⟩ := cb_ok (l := l) a1 fun y m => h y (List.mem_cons_of_mem _ m)
    rw [List.foldl_cons]
    refine ⟨b1, Int.dvd_trans a2 b2, fun y m => ?_, ?_⟩
    · rcases List.mem_cons.mp m with rfl | m
      · exact Int.dvd_trans a3 b2
      · exact b3 y m
    · rw [prd_cons, ← Nat.mul_assoc]
      exact Nat.le_trans b4 (Nat.mul_le_mul_right _ a4)
theorem common_below_ok {l : List Fra} (h : ∀ x ∈ l, 0 < x.2) (hb : prd l < 2 ^ 8000) : m_common_below l = .ok (cb l) := by
  refine Ok.eq ?_
  unfold m_common_below mb_common_below
  refine Ok.f0 (Ok.ltI (Ok.bF (Pn := fun f => f = cb l) (Ok.forR (fun i f => f = (l.take i).foldl cbS 1) rfl ?_ ?_) fun f hf => Ok.rt hf))
  · rintro i x f e hf
    have hf : f = (l.take i).foldl cbS 1 := hf
    have tk : l.take (i + 1) = l.take i ++ [x] := by rw [List.take_succ, e]; rfl
    have mt : ∀ y ∈ l.take i, 0 < y.2 := fun y m => h y (List.mem_of_mem_take m)
    obtain ⟨b1, b2, b3, b4⟩ := cb_ok (l := l.take i) (f := 1) (by decide) mt
    rw [← hf] at b1 b2 b3 b4
    have hx := h x (List.mem_of_getElem? e)
    have pt : prd (l.take i) * (x.2.natAbs * prd (l.drop (i + 1))) = prd l := by
      have e2 : l = l.take i ++ x :: l.drop (i + 1) := by
        obtain ⟨hi, hv⟩ := List.getElem?_eq_some_iff.mp e
        have := List.drop_eq_getElem_cons hi
        rw [hv] at this
        rw [← this, List.take_append_drop]
      conv => rhs; rw [e2, prd_app, prd_cons]
    have pp : ∀ l' : List Fra, (∀ y ∈ l', 0 < y.2) → 1 ≤ prd l' := fun l' hl' => by
      induction l' with
      | nil => exact Nat.le_refl 1
      | cons y l' ih =>
        rw [prd_cons]
        have := hl' y List.mem_cons_self
        exact Nat.mul_pos (by omega) (ih fun z m => hl' z (List.mem_cons_of_mem _ m))
    have p2 := pp (l.drop (i + 1)) fun y m => h y (List.mem_of_mem_drop m)
    have x1 : 1 ≤ x.2.natAbs := by omega
    have q1 := pp (l.take i) mt
    have fb : f.natAbs < 2 ^ 8000 := by
      refine Nat.lt_of_le_of_lt ?_ hb
      rw [← pt]
      refine Nat.le_trans b4 ?_
      rw [show (1 : Int).natAbs = 1 by rfl, Nat.one_mul]
      exact Nat.le_mul_of_pos_right _ (Nat.mul_pos x1 p2)
    have xb : x.2.natAbs < 2 ^ 8000 := by
      refine Nat.lt_of_le_of_lt ?_ hb
      rw [← pt]
      exact Nat.le_trans (Nat.le_mul_of_pos_right _ p2) (Nat.le_mul_of_pos_left _ q1)
    have g0 : (Int.gcd f x.2 : Int) ≠ 0 := fun z => by
      have := Int.gcd_eq_zero_iff.mp (show Int.gcd f x.2 = 0 by omega)
      omega
    have gb : (Int.gcd f x.2 : Int).natAbs < 2 ^ 8000 := gcd_lt (show x.2 ≠ 0 by omega) xb
    have fq : (f.fdiv (Int.gcd f x.2 : Int)).natAbs < 2 ^ 8000 := by
      obtain ⟨a, ha⟩ : (Int.gcd f x.2 : Int) ∣ f := Int.gcd_dvd_left ..
      generalize (Int.gcd f x.2 : Int) = g at ha g0
      have e3 : f.fdiv g = a := by rw [ha, Int.mul_fdiv_cancel_left _ g0]
      rw [e3]
      have : f.natAbs = g.natAbs * a.natAbs := by rw [ha, Int.natAbs_mul]
      have : a.natAbs ≤ f.natAbs := by
        rw [this]
        exact Nat.le_mul_of_pos_left _ (by omega)
      omega
    simp only [DL.bind_assoc, bind_okN]
    refine Ok.bind1 (divisor_ok f x.2) (Ok.grdB (div_ok g0 gb) (Ok.grdB (mulx 8000 fq xb) (Ok.ltI (Ok.nx ?_))))
    show _ = (l.take (i + 1)).foldl cbS 1
    rw [tk, List.foldl_append, ← hf]
    rfl
  · rintro f hf
    rw [List.take_length] at hf
    exact hf
def wrow (row : List Fra) (s : Fra × Fra) : List Int := (row ++ [s.1, s.2]).map fun x => x.1 * (cb (row ++ [s.1, s.2])).fdiv x.2
theorem cb_div {l : List Fra} (h : ∀ x ∈ l, 0 < x.2) {x : Fra} (hx : x ∈ l) : (cb l).fdiv x.2 * x.2 = cb l ∧ ((cb l).fdiv x.2).natAbs ≤ prd l := by
  obtain ⟨b1, _, b3, b4⟩ := cb_ok (l := l) (f := 1) (by decide) h
  obtain ⟨a, ha⟩ := b3 x hx
  have x0 := h x hx
  have ha : cb l = x.2 * a := ha
  have e : (cb l).fdiv x.2 = a := by rw [ha, Int.mul_fdiv_cancel_left _ (by omega)]
  rw [e]
  refine ⟨by rw [ha, Int.mul_comm], ?_⟩
  have b4 : (cb l).natAbs ≤ 1 * prd l := b4
  rw [ha, Int.natAbs_mul] at b4
  have : a.natAbs ≤ x.2.natAbs * a.natAbs := Nat.le_mul_of_pos_left _ (by omega)
  have e1 : (1 : Int).natAbs = 1 := rfl
  omega
theorem whole_row_ok {row : List Fra} {s : Fra × Fra} (h : ∀ x ∈ row ++ [s.1, s.2], 0 < x.2) (hb : prd (row ++ [s.1, s.2]) < 2 ^ 8000) (hn : ∀ x ∈ row ++ [s.1, s.2], x.1.natAbs < 2 ^ 8000) (hl : row.length ≤ 1000) : m_whole_row (row, s) = .ok (wrow row s) := by
  unfold m_whole_row mb_whole_row
  have l2 : (row ++ [s.1, s.2]).length = row.length + 2 := by rw [List.length_append]; rfl
  rw [guard_ok (Nat.le_of_lt (sizeB (show row.length + List.length [s.1, s.2] ≤ 100000 by simp; omega))), bind_okN, lt_eqN, common_below_ok h hb, bind_okN, lt_eqN, bind_okN, guard_ok (Nat.le_of_lt (sizeB (show (row ++ [s.1, s.2]).length ≤ 100000 by omega))), bind_okN]
  have hc := comp_eqF (m := fun (x506 : (Int × Int)) => (((R.guard (divOk (cb (row ++ [s.1, s.2])) x506.2)).bind fun (y509 : Unit) => (R.guard (CMulX x506.1 (Int.fdiv (cb (row ++ [s.1, s.2])) x506.2))).bind fun (z512 : Unit) => R.ok (y509, z512))))
    (f := fun _ => ((), ())) (k := fun x506 _ => x506.1 * (Int.fdiv (cb (row ++ [s.1, s.2])) x506.2)) (xs := row ++ [s.1, s.2]) fun x hx => by
      have x0 := h x hx
      obtain ⟨e1, e2⟩ := cb_div h hx
      have xb : x.2.natAbs < 2 ^ 8000 := by
        refine Nat.lt_of_le_of_lt ?_ hb
        have go : ∀ {l : List Fra}, (∀ y ∈ l, 0 < y.2) → x ∈ l → x.2.natAbs ≤ prd l := by
          intro l
          induction l with
          | nil => exact fun _ m => nomatch m
          | cons y l ih =>
            intro hl m
            rw [prd_cons]
            have y0 := hl y List.mem_cons_self
            have p1 : 1 ≤ prd l := by
              have : ∀ l' : List Fra, (∀ y ∈ l', 0 < y.2) → 1 ≤ prd l' := fun l' hl' => by
                induction l' with
                | nil => exact Nat.le_refl 1
                | cons y l' ih =>
                  rw [prd_cons]
                  have := hl' y List.mem_cons_self
                  exact Nat.mul_pos (by omega) (ih fun z m => hl' z (List.mem_cons_of_mem _ m))
              exact this l fun z m => hl z (List.mem_cons_of_mem _ m)
            rcases List.mem_cons.mp m with rfl | m
            · exact Nat.le_mul_of_pos_right _ p1
            · exact Nat.le_trans (ih (fun z m => hl z (List.mem_cons_of_mem _ m)) m) (Nat.le_mul_of_pos_left _ (by omega))
        exact go h hx
      rw [guard_ok (div_ok (show x.2 ≠ 0 by omega) xb), bind_okN, guard_ok (mulx 8000 (hn x hx) (by omega)), bind_okN]
  rw [hc, bind_okN, fin0_rt]
  rfl
def Right (f : Fra) (n d : Int) : Prop := 0 < f.2 ∧ Int.gcd f.1 f.2 = 1 ∧ f.1 * d = n * f.2
theorem fraction_ok (n d : Int) (hd : d ≠ 0) (hb : d.natAbs < 2 ^ 8000) : Ok (m_fraction (n, d)) fun f => Right f n d ∧ f.2.natAbs ≤ d.natAbs ∧ f.1.natAbs ≤ n.natAbs := by
  have hg := gcd_lt (n := n) hd hb
  generalize hG : (if d < 0 then -(Int.gcd n d : Int) else (Int.gcd n d : Int)) = g
  obtain ⟨h1, h2, h3, h4, h5⟩ := fr_low hG.symm hd
  have gb : g.natAbs < 2 ^ 8000 := by
    rw [← hG]
    split
    · rw [Int.natAbs_neg]
      exact hg
    · exact hg
  unfold m_fraction mb_fraction
  rw [divisor_ok, bind_okN, lt_eqN]
  refine Ok.f0 (Ok.bF (Pn := fun b => b = g) ?_ ?_)
  · rw [← hG]
    by_cases c : d < 0
    · refine Ok.iteT (decide_eq_true c) (Ok.ltI (Ok.nx ?_))
      rw [if_pos c]
    · refine Ok.iteF (decide_eq_false c) (Ok.nx ?_)
      rw [if_neg c]
  · rintro b rfl
    simp only [guard_ok (div_ok (i := n) h1 gb), guard_ok (div_ok (i := d) h1 gb), bind_okN]
    refine Ok.rt ⟨⟨h4, h5, ?_⟩, ?_, ?_⟩
    · show n.fdiv b * d = n * d.fdiv b
      calc n.fdiv b * d = n.fdiv b * (d.fdiv b * b) := by rw [h3]
        _ = (n.fdiv b * b) * d.fdiv b := by rw [Int.mul_comm (d.fdiv b) b, Int.mul_assoc]
        _ = n * d.fdiv b := by rw [h2]
    · have e := congrArg Int.natAbs h3
      rw [Int.natAbs_mul] at e
      show (d.fdiv b).natAbs ≤ d.natAbs
      rw [← e]
      exact Nat.le_mul_of_pos_right _ (by omega)
    · have e := congrArg Int.natAbs h2
      rw [Int.natAbs_mul] at e
      show (n.fdiv b).natAbs ≤ n.natAbs
      rw [← e]
      exact Nat.le_mul_of_pos_right _ (by omega)
theorem law_common_ok {a b : Int} (ha : 0 ≤ a) (hb : 0 ≤ b) : m_law_common (a, b) = .ok (Int.gcd a b : Int) := by
  unfold m_law_common mb_law_common
  dsimp only
  rw [gcd_loop b.toNat a b ha hb (by omega), bindF_nx, fin0_rt]
theorem law_cut_ok {n d : Int} (hd : 0 < d) (h1 : divOk n (Int.gcd n d : Int)) (h2 : divOk d (Int.gcd n d : Int)) : m_law_cut (n, d) = .ok (cutP (n, d)) := by
  have e : Int.gcd (n.natAbs : Int) d = Int.gcd n d := by simp [Int.gcd]
  unfold m_law_cut mb_law_cut
  dsimp only
  rw [abs_ite, law_common_ok (by omega) (by omega), e, bind_okN, lt_eqN, guard_ok h1, bind_okN, guard_ok h2, bind_okN, bind_okN, fin0_rt]
  rfl
def sumS (s x : Fra) : Fra := (s.1 * x.2 + x.1 * s.2, s.2 * x.2)
def sumF (l : List Fra) : Fra := l.foldl sumS (0, 1)
theorem sumS_bits {a b : Nat} {s x : Fra} (h1 : s.1.natAbs < 2 ^ a) (h2 : s.2.natAbs < 2 ^ a) (h3 : x.1.natAbs < 2 ^ b) (h4 : x.2.natAbs < 2 ^ b) : (sumS s x).1.natAbs < 2 ^ (a + b + 1) ∧ (sumS s x).2.natAbs < 2 ^ (a + b + 1) := by
  have m1 := mul_lt2 h1 h4
  have m2 := mul_lt2 h3 h2
  have m3 := mul_lt2 h2 h4
  rw [Nat.add_comm b a] at m2
  exact ⟨add_lt2 m1 m2, pw _ _ (by omega) m3⟩
theorem law_sum_ok {l : List Fra} {b : Nat} (hl : l.length ≤ 40) (hb : b ≤ 20000) (h : ∀ x ∈ l, 0 < x.2 ∧ x.1.natAbs < 2 ^ b ∧ x.2.natAbs < 2 ^ b) (h1 : divOk (sumF l).1 (Int.gcd (sumF l).1 (sumF l).2 : Int)) (h2 : divOk (sumF l).2 (Int.gcd (sumF l).1 (sumF l).2 : Int)) : m_law_sum l = .ok (cutP (sumF l)) := by
  refine Ok.eq ?_
  unfold m_law_sum mb_law_sum
  refine Ok.f0 (Ok.bF (Pn := fun s => s = sumF l ∧ 0 < s.2) (Ok.forR (fun i s => s = (l.take i).foldl sumS (0, 1) ∧ 0 < s.2 ∧ i ≤ l.length ∧ s.1.natAbs < 2 ^ (1 + i * (b + 1)) ∧ s.2.natAbs < 2 ^ (1 + i * (b + 1))) ⟨rfl, by decide, Nat.zero_le _, by show (0 : Int).natAbs < _; exact Nat.pow_pos (by decide), by show (1 : Int).natAbs < 2 ^ (1 + 0 * (b + 1)); rw [Nat.zero_mul]; decide⟩ ?_ ?_) ?_)
  · rintro i x s e ⟨hs, s0, _, b1, b2⟩
    have s0 : 0 < s.2 := s0
    have il := (List.getElem?_eq_some_iff.mp e).1
    obtain ⟨x0, x1, x2⟩ := h x (List.mem_of_getElem? e)
    have tk : l.take (i + 1) = l.take i ++ [x] := by rw [List.take_succ, e]; rfl
    have big : 1 + i * (b + 1) ≤ 850000 := by
      have : i * (b + 1) ≤ 40 * 20001 := Nat.mul_le_mul (by omega) (by omega)
      omega
    have w : ∀ {u v : Int}, u.natAbs < 2 ^ (1 + i * (b + 1)) → v.natAbs < 2 ^ b → CMulX u v := fun h k => mulx 900000 (pw _ _ (by omega) h) (pw _ _ (by omega) k)
    have w2 : ∀ {u v : Int}, u.natAbs < 2 ^ b → v.natAbs < 2 ^ (1 + i * (b + 1)) → CMulX u v := fun h k => mulx 900000 (pw _ _ (by omega) h) (pw _ _ (by omega) k)
    have sb := sumS_bits b1 b2 x1 x2
    simp only [guard_ok (w b1 x2), guard_ok (w2 x1 b2), guard_ok (w b2 x2), op2_ok, DL.bind_assoc, bind_okN]
    refine Ok.nx ⟨?_, Int.mul_pos s0 x0, by omega, ?_, ?_⟩
    · rw [tk, List.foldl_append, ← hs]
      rfl
    · rw [show 1 + (i + 1) * (b + 1) = 1 + i * (b + 1) + b + 1 by rw [Nat.succ_mul]; omega]
      exact sb.1
    · rw [show 1 + (i + 1) * (b + 1) = 1 + i * (b + 1) + b + 1 by rw [Nat.succ_mul]; omega]
      exact sb.2
  · rintro s ⟨hs, s0, _⟩
    rw [List.take_length] at hs
    exact ⟨hs, s0⟩
  · rintro s ⟨rfl, s0⟩
    rw [law_cut_ok s0 h1 h2, bind_okN]
    exact Ok.rt rfl
theorem sumF_pos : ∀ {l : List Fra} {s : Fra}, 0 < s.2 → (∀ x ∈ l, 0 < x.2) → 0 < (l.foldl sumS s).2
  | [], _, h, _ => h
  | x :: l, s, h, k => sumF_pos (l := l) (Int.mul_pos h (k x List.mem_cons_self)) fun y m => k y (List.mem_cons_of_mem _ m)
theorem sumF_val {T : Int} {α : Type} {f : α → Fra} {z : α → Int} : ∀ {l : List α} {s : Fra} {y : Int}, s.1 * T = s.2 * y → (∀ x ∈ l, (f x).1 * T = z x * (f x).2) → ((l.map f).foldl sumS s).1 * T = ((l.map f).foldl sumS s).2 * (y + (l.map z).sum)
  | [], s, y, h, _ => by
    show s.1 * T = s.2 * (y + 0)
    rw [Int.add_zero]
    exact h
  | x :: l, s, y, h, k => by
    have hx := k x List.mem_cons_self
    have := sumF_val (T := T) (f := f) (z := z) (l := l) (s := sumS s (f x)) (y := y + z x) (by
      show (s.1 * (f x).2 + (f x).1 * s.2) * T = s.2 * (f x).2 * (y + z x)
      grind) fun u m => k u (List.mem_cons_of_mem _ m)
    rw [List.map_cons, List.map_cons, List.foldl_cons, List.sum_cons, this]
    grind
--#split
theorem comp_all {α γ S : Type} {me : α → S → R (γ × S)} {xs : List α} {s0 : S} (I : S → Prop) (P : Nat → γ → Prop) (h0 : I s0) (h : ∀ i x s, xs[i]? = some x → I s → Ok (me x s) fun y => P i y.1 ∧ I y.2) :
    Ok (compR (compF (fun (x : α) (s : S) => R.ok ()) (fun (_ : Unit) => true) me Prod.fst Prod.snd) xs [] s0) fun r => (r.1.length = xs.length ∧ ∀ i y, r.1[i]? = some y → P i y) ∧ I r.2 := by
  refine (Ok.compR (fun i l s => (l.length = i ∧ ∀ t y, l[t]? = some y → P t y) ∧ I s) ⟨⟨rfl, fun t y e => by simp at e⟩, h0⟩ ?_).mono fun _ z => z
  rintro i x acc s e ⟨⟨hl, ha⟩, hs⟩
  refine Ok.compF (P := fun _ => True) ⟨(), rfl, trivial⟩ (fun _ _ _ => (h i x s e hs).mono fun y hy => ⟨⟨?_, fun t u et => ?_⟩, hy.2⟩) fun _ _ z => nomatch z
  · rw [List.length_append, hl]
    rfl
  · by_cases c : t < acc.length
    · rw [List.getElem?_append_left c] at et
      exact ha t u et
    · rw [List.getElem?_append_right (by omega)] at et
      have ht : t - acc.length = 0 := by
        cases hh : t - acc.length with
        | zero => rfl
        | succ k => rw [hh] at et; simp at et
      rw [ht] at et
      have et := Option.some.inj et
      rw [← et, show t = i by omega]
      exact hy.1
theorem sm_range (g : Nat → Int) : ∀ n, ((List.range n).map g).sum = sm n g
  | 0 => rfl
  | n + 1 => by
    rw [List.range_succ, List.map_append, List.sum_append, sm_range g n, sm]
    simp
def Lw (f : Fra) : Prop := 0 < f.2 ∧ Int.gcd f.1 f.2 = 1
theorem comes_gen {n : Nat} {row : List Fra} {ps : List (Fra × Fra)} {side : Fra × Fra} {axis : Int} (sel : Fra × Fra → Fra) (hsel : ∀ x : Fra × Fra, atI [x.1, x.2] axis = some (sel x)) (n1 : n ≤ 40) (lr : row.length = n) (lp : ps.length = n) {b : Nat} (hb : b ≤ 9000)
    (rb : ∀ x ∈ row, 0 < x.2 ∧ x.1.natAbs < 2 ^ b ∧ x.2.natAbs < 2 ^ b) (pb : ∀ p ∈ ps, 0 < (sel p).2 ∧ (sel p).1.natAbs < 2 ^ b ∧ (sel p).2.natAbs < 2 ^ b) {T : Int} (T0 : T ≠ 0) (z : Nat → Int)
    (hz : ∀ j x p, row[j]? = some x → ps[j]? = some p → x.1 * (sel p).1 * T = z j * (x.2 * (sel p).2)) (hs : Lw (sel side)) (sb : (sel side).1.natAbs < 2 ^ 4000 ∧ (sel side).2.natAbs < 2 ^ 4000) (hsum : sm n z * (sel side).2 = (sel side).1 * T) : m_law_comes (row, ps, side, axis) = .ok true := by
  have zg : ∀ {j : Nat} {x : Fra × (Fra × Fra)}, (List.zip row ps)[j]? = some x → row[j]? = some x.1 ∧ ps[j]? = some x.2 := fun h => List.getElem?_zip_eq_some.mp h
  have lz : (List.zip row ps).length = n := by rw [List.length_zip, lr, lp, Nat.min_self]
  have hc := comp_eqF (m := fun (x789 : ((Int × Int) × ((Int × Int) × (Int × Int)))) => ((((R.some (atI [x789.2.1, x789.2.2] axis)).bind fun (y794 : (Int × Int)) => (R.guard (CMulX x789.1.1 y794.1)).bind fun (z800 : Unit) => R.ok (y794, z800)).bind fun (x801 : ((Int × Int) × Unit)) => ((R.some (atI [x789.2.1, x789.2.2] axis)).bind fun (y805 : (Int × Int)) => (R.guard (CMulX x789.1.2 y805.2)).bind fun (z811 : Unit) => R.ok (y805, z811)).bind fun (z813 : ((Int × Int) × Unit)) => R.ok (x801, z813))))
    (f := fun x => ((sel x.2, ()), (sel x.2, ()))) (k := fun x789 y814 => ((x789.1.1 * y814.1.1.1), (x789.1.2 * y814.2.1.2))) (xs := List.zip row ps) fun x hx => by
      obtain ⟨j, hj⟩ := List.mem_iff_getElem?.mp hx
      obtain ⟨h1, h2⟩ := zg hj
      have r1 := rb _ (List.mem_of_getElem? h1)
      have p1 := pb _ (List.mem_of_getElem? h2)
      simp only [hsel, some_ok, bind_okN, guard_ok (mulx 9000 (pw _ _ hb r1.2.1) (pw _ _ hb p1.2.1)), guard_ok (mulx 9000 (pw _ _ hb r1.2.2) (pw _ _ hb p1.2.2))]
  have lv : (List.zip row ps).map (fun x => ((x.1.1 * (sel x.2).1), (x.1.2 * (sel x.2).2))) = (List.range n).map fun j => (((row.getD j (0, 1)).1 * (sel (ps.getD j ((0, 1), (0, 1)))).1), ((row.getD j (0, 1)).2 * (sel (ps.getD j ((0, 1), (0, 1)))).2)) := by
    refine List.ext_getElem? fun j => ?_
    rw [List.getElem?_map, List.getElem?_map]
    by_cases hj : j < n
    · obtain ⟨x, hx⟩ : ∃ x, (List.zip row ps)[j]? = some x := ⟨_, List.getElem?_eq_getElem (by omega)⟩
      obtain ⟨h1, h2⟩ := zg hx
      rw [hx, List.getElem?_range hj, Option.map_some, Option.map_some, List.getD_eq_getElem?_getD, List.getD_eq_getElem?_getD, h1, h2]
      rfl
    · rw [List.getElem?_eq_none (by omega), List.getElem?_eq_none (by rw [List.length_range]; omega)]
      rfl
  have at1 : ∀ j, j < n → row[j]? = some (row.getD j (0, 1)) ∧ ps[j]? = some (ps.getD j ((0, 1), (0, 1))) := fun j hj => by
    rw [List.getD_eq_getElem?_getD, List.getD_eq_getElem?_getD, List.getElem?_eq_getElem (show j < row.length by omega), List.getElem?_eq_getElem (show j < ps.length by omega)]
    exact ⟨rfl, rfl⟩
  generalize hL : (List.range n).map (fun j => (((row.getD j (0, 1)).1 * (sel (ps.getD j ((0, 1), (0, 1)))).1), ((row.getD j (0, 1)).2 * (sel (ps.getD j ((0, 1), (0, 1)))).2))) = L at lv
  have Lb : ∀ x ∈ L, 0 < x.2 ∧ x.1.natAbs < 2 ^ 18000 ∧ x.2.natAbs < 2 ^ 18000 := fun x hx => by
    rw [← hL] at hx
    obtain ⟨j, hj, rfl⟩ := List.mem_map.mp hx
    obtain ⟨h1, h2⟩ := at1 j (List.mem_range.mp hj)
    have r1 := rb _ (List.mem_of_getElem? h1)
    have p1 := pb _ (List.mem_of_getElem? h2)
    exact ⟨Int.mul_pos r1.1 p1.1, pw _ _ (by omega) (mul_lt2 r1.2.1 p1.2.1), pw _ _ (by omega) (mul_lt2 r1.2.2 p1.2.2)⟩
  have D0 : 0 < (sumF L).2 := sumF_pos (s := (0, 1)) (by decide) fun x hx => (Lb x hx).1
  have val : (sumF L).1 * T = (sumF L).2 * sm n z := by
    have := sumF_val (T := T) (f := fun j => (((row.getD j (0, 1)).1 * (sel (ps.getD j ((0, 1), (0, 1)))).1), ((row.getD j (0, 1)).2 * (sel (ps.getD j ((0, 1), (0, 1)))).2))) (z := z) (l := List.range n) (s := (0, 1)) (y := 0) (by show (0 : Int) * T = 1 * 0; omega) fun j hj => by
      obtain ⟨h1, h2⟩ := at1 j (List.mem_range.mp hj)
      exact hz j _ _ h1 h2
    rw [hL, Int.zero_add, sm_range] at this
    exact this
  have cr : (sumF L).1 * (sel side).2 = (sel side).1 * (sumF L).2 := by
    refine Int.eq_of_mul_eq_mul_right T0 ?_
    calc (sumF L).1 * (sel side).2 * T = ((sumF L).1 * T) * (sel side).2 := by ac_rfl
      _ = ((sumF L).2 * sm n z) * (sel side).2 := by rw [val]
      _ = (sumF L).2 * (sm n z * (sel side).2) := by ac_rfl
      _ = (sumF L).2 * ((sel side).1 * T) := by rw [hsum]
      _ = (sel side).1 * (sumF L).2 * T := by ac_rfl
  have cc : cutP (sumF L) = sel side := by rw [cutP_eq (y := sel side) D0 hs.1 cr, cutP_low hs.1 hs.2]
  obtain ⟨g1, g2, g3, _, _⟩ := fr_low (n := (sumF L).1) (d := (sumF L).2) (g := (Int.gcd (sumF L).1 (sumF L).2 : Int)) (by rw [if_neg (by omega)]) (by omega)
  have c1 : (sumF L).1.fdiv (Int.gcd (sumF L).1 (sumF L).2 : Int) = (sel side).1 := congrArg Prod.fst cc
  have c2 : (sumF L).2.fdiv (Int.gcd (sumF L).1 (sumF L).2 : Int) = (sel side).2 := congrArg Prod.snd cc
  have dk : ∀ {i s g : Int}, g ≠ 0 → s * g = i → s.natAbs < 2 ^ 4000 → divOk i g := fun {i s g} g0 e hb => div_okq g0 (by
    rw [← e, Int.natAbs_mul]
    exact Nat.mul_lt_mul_of_pos_right hb (by omega))
  have hsumL := law_sum_ok (l := L) (b := 18000) (by rw [← hL, List.length_map, List.length_range]; exact n1) (by decide) Lb (dk g1 (by rw [← c1]; exact g2) sb.1) (dk g1 (by rw [← c2]; exact g3) sb.2)
  unfold m_law_comes mb_law_comes
  dsimp only
  rw [bind_okN, guard_ok (Nat.le_of_lt (sizeB (show (List.zip row ps).length ≤ 100000 by omega))), bind_okN, hc, bind_okN, lt_eqN, lv, hsumL, cc, hsel, some_ok, op2_ok, bind_okN, bind_okN, bind_okN, fin0_rt]
  simp
def Solv (n : Nat) (Q : List (List Int)) (ps : List (Fra × Fra)) : Prop := ps.length = n ∧ ∀ q p, ps[q]? = some p → (Right p.1 (X n (fnr Q) q n) (det n (fnr Q)) ∧ Right p.2 (X n (fnr Q) q (n + 1)) (det n (fnr Q))) ∧ ((p.1.1.natAbs < 2 ^ 7000 ∧ p.1.2.natAbs < 2 ^ 7000) ∧ p.2.1.natAbs < 2 ^ 7000 ∧ p.2.2.natAbs < 2 ^ 7000)
theorem solved_ok {n : Nat} {rows : List (List Fra)} {sides : List (Fra × Fra)} (hn : n ≤ 16) (lr : rows.length = n) (ls : sides.length = n) (wr : ∀ r ∈ rows, r.length = n) (h : ∀ x ∈ List.zip rows sides, (∀ y ∈ x.1 ++ [x.2.1, x.2.2], 0 < y.2 ∧ y.1.natAbs < 2 ^ 8000) ∧ prd (x.1 ++ [x.2.1, x.2.2]) < 2 ^ 8000)
    (hT : (((List.zip rows sides).map fun x => wrow x.1 x.2).map blr).sum ≤ 3200) : Ok (m_solved (rows, sides)) fun o => (o = none ∧ Sing n ((List.zip rows sides).map fun x => wrow x.1 x.2)) ∨ ∃ ps Q, o = some ps ∧ Q.Perm ((List.zip rows sides).map fun x => wrow x.1 x.2) ∧ det n (fnr Q) ≠ 0 ∧ Solv n Q ps := by
  have lz : (List.zip rows sides).length = n := by rw [List.length_zip, lr, ls, Nat.min_self]
  have hc := comp_eq (m := fun (x469 : ((List (Int × Int)) × ((Int × Int) × (Int × Int)))) => (m_whole_row (x469.1, x469.2))) (f := fun x => wrow x.1 x.2) (xs := List.zip rows sides) fun x hx => by
    obtain ⟨h1, h2⟩ := h x hx
    have := wr x.1 (List.of_mem_zip hx).1
    exact whole_row_ok (fun y hy => (h1 y hy).1) h2 (fun y hy => (h1 y hy).2) (by omega)
  generalize hW : (List.zip rows sides).map (fun x => wrow x.1 x.2) = W0 at *
  have lW : W0.length = n := by rw [← hW, List.length_map, lz]
  have wW : ∀ r ∈ W0, r.length = n + 2 := fun r hr => by
    rw [← hW] at hr
    obtain ⟨x, hx, rfl⟩ := List.mem_map.mp hr
    have := wr x.1 (List.of_mem_zip hx).1
    rw [wrow, List.length_map, List.length_append, this]
    rfl
  unfold m_solved mb_solved
  dsimp only
  rw [lt_eqN]
  simp only [DL.bind_assoc]
  rw [bind_okN, guard_ok (Nat.le_of_lt (sizeB (show (List.zip rows sides).length ≤ 100000 by omega))), bind_okN, hc, bind_okN]
  refine Ok.f0 ((cleared_ok lW wW (by omega) hn (by omega) hT).bind fun o ho => Ok.okB (Ok.ltI ?_))
  rcases ho with ⟨rfl, hs⟩ | ⟨Q, C, last, rfl, cl⟩
  · exact Ok.bF (Pn := fun _ => False) (Ok.iteT rfl (Ok.rt (.inl ⟨rfl, hs⟩))) fun _ z => z.elim
  · refine Ok.bF (Pn := fun _ => True) (Ok.iteF rfl (Ok.nx trivial)) fun _ _ => Ok.okB (Ok.okB ?_)
    have le : (enumL C).length = n := by
      rw [← cl.lc]
      unfold enumL
      simp
    have hT' : (Q.map blr).sum ≤ 3200 := by rw [(cl.pm.map blr).sum_nat]; exact hT
    have db : (det n (fnr Q)).natAbs < 2 ^ 6449 := by
      have := X_bits (R := Q) (k := n) (q := n) (j := 0) hT' cl.lr hn (Nat.le_refl _)
      rw [show X n (fnr Q) n 0 = det n (fnr Q) from det_congr fun p c hp hc => setc_ne (by omega)] at this
      exact big_lt this
    have d0 : det n (fnr Q) ≠ 0 := by rw [← cl.dt]; exact cl.nz
    refine Ok.grdB (Nat.le_of_lt (sizeB (show (enumL C).length ≤ 100000 by omega))) ((comp_all (fun _ => True) (fun q (p : Fra × Fra) => (Right p.1 (X n (fnr Q) q n) (det n (fnr Q)) ∧ Right p.2 (X n (fnr Q) q (n + 1)) (det n (fnr Q))) ∧ ((p.1.1.natAbs < 2 ^ 7000 ∧ p.1.2.natAbs < 2 ^ 7000) ∧ p.2.1.natAbs < 2 ^ 7000 ∧ p.2.2.natAbs < 2 ^ 7000)) trivial ?_).bind ?_)
    · rintro i x _ e _
      rw [enumL_get] at e
      have il : i < C.length := by
        cases e2 : C[i]? with
        | none => rw [e2] at e; cases e
        | some r => exact (List.getElem?_eq_some_iff.mp e2).1
      rw [getD_some il] at e
      have e := (Option.some.inj e).symm
      subst e
      have i1 : i < n := by rw [← cl.lc]; exact il
      have wi : (C.getD i []).length = n + 2 := cl.wc _ (List.mem_of_getElem? (getD_some il))
      have ed : (C.getD i []).getD i 0 = det n (fnr Q) := by
        have := cl.up i i i1 (by omega)
        rw [X_self] at this
        exact this
      have en : (C.getD i []).getD n 0 = X n (fnr Q) i n := cl.up i n i1 (by omega)
      have en2 : (C.getD i []).getD (n + 1) 0 = X n (fnr Q) i (n + 1) := cl.up i (n + 1) i1 (by omega)
      have xb : ∀ j, (X n (fnr Q) i j).natAbs < 2 ^ 6449 := fun j => big_lt (X_bits (R := Q) (k := n) (q := i) (j := j) hT' cl.lr hn (Nat.le_refl _))
      have a1 : atI (C.getD i []) ((rows.length : Nat) : Int) = some (X n (fnr Q) i n) := by rw [lr, ← en]; exact at_num (by omega)
      have a2 : atI (C.getD i []) (((rows.length : Nat) : Int) + 1) = some (X n (fnr Q) i (n + 1)) := by
        rw [lr, ← en2, show ((n : Nat) : Int) + 1 = ((n + 1 : Nat) : Int) by omega]
        exact at_num (by omega)
      have a3 : atI (C.getD i []) (i : Int) = some (det n (fnr Q)) := by rw [← ed]; exact at_num (by omega)
      simp only [a1, a2, a3, some_ok, bind_okN, DL.bind_assoc]
      refine (fraction_ok _ _ d0 (pw 6449 8000 (by decide) db)).bind fun f1 hf1 => (fraction_ok _ _ d0 (pw 6449 8000 (by decide) db)).bind fun f2 hf2 => Ok.ret ⟨⟨⟨hf1.1, hf2.1⟩, ?_⟩, trivial⟩
      have x1 := xb n
      have x2 := xb (n + 1)
      have up : ∀ {u v : Nat}, u ≤ v → v < 2 ^ 6449 → u < 2 ^ 7000 := fun h k => pw 6449 7000 (by decide) (Nat.lt_of_le_of_lt h k)
      exact ⟨⟨up hf1.2.2 x1, up hf1.2.1 db⟩, up hf2.2.2 x2, up hf2.2.1 db⟩
    · rintro ⟨ps, _⟩ ⟨⟨hl, hp⟩, _⟩
      exact Ok.rt (.inr ⟨ps, Q, rfl, cl.pm, d0, by rw [hl, le], hp⟩)
--#split
def cr (n : Nat) (r : List Int) : Nat → Int := fun c => r.getD (n - 1 - c) 0
def fp (n : Nat) (P : List (List Int)) : Nat → Nat → Int := fun p c => cr n (P.getD p []) c
theorem crb_bits {n s c T : Nat} {P : List (List Int)} {q : List Int} (hs : P.length = s) (hT : (P.map blr).sum + blr q ≤ T) (h16 : s ≤ 16) : (bor s (fp n P) (cr n q) c).natAbs ≤ fct 17 * 2 ^ T := by
  rw [← X_last]
  have h1 := det_abs (k := s + 1) (M := setc (setr (fp n P) s (cr n q)) s (fun p => setr (fp n P) s (cr n q) p c)) (b := fun p => if p = s then blr q else blr (P.getD p [])) fun p c' hp hc => by
    have e0 : ∀ c, (setr (fp n P) s (cr n q) p c).natAbs ≤ 2 ^ (if p = s then blr q else blr (P.getD p [])) := fun c => by
      by_cases e : p = s
      · rw [e, setr_at, if_pos rfl]
        exact getD_abs _ _
      · rw [setr_ne e, if_neg e]
        exact getD_abs _ _
    by_cases e : c' = s
    · rw [e, setc_at]
      exact e0 c
    · rw [setc_ne e]
      exact e0 c'
  have h2 := sn_le (g := blr) (l := P) (k := s) (by omega)
  have h4 : sn (s + 1) (fun p => if p = s then blr q else blr (P.getD p [])) ≤ T := by
    rw [sn, if_pos rfl, sn_congr (h := fun p => blr (P.getD p [])) fun p hp => if_neg (by omega)]
    omega
  exact Nat.le_trans h1 (Nat.mul_le_mul (fct_mono (by omega)) (Nat.pow_le_pow_right (by decide) h4))
def gF (l : List Int) : Int := l.foldl (fun b x => (Int.gcd b (x.natAbs : Int) : Int)) 0
theorem gF_go : ∀ (l : List Int) (b : Int), 0 ≤ b → 0 ≤ l.foldl (fun b x => (Int.gcd b (x.natAbs : Int) : Int)) b ∧ (l.foldl (fun b x => (Int.gcd b (x.natAbs : Int) : Int)) b ∣ b) ∧ (∀ x ∈ l, l.foldl (fun b x => (Int.gcd b (x.natAbs : Int) : Int)) b ∣ x) ∧ ∀ e : Int, e ∣ b → (∀ x ∈ l, e ∣ x) → e ∣ l.foldl (fun b x => (Int.gcd b (x.natAbs : Int) : Int)) b
  | [], b, hb => ⟨hb, Int.dvd_refl _, fun _ m => absurd m List.not_mem_nil, fun e he _ => he⟩
  | x :: l, b, hb => by
    obtain ⟨h0, h1, h2, h3⟩ := gF_go l (Int.gcd b (x.natAbs : Int) : Int) (by omega)
    rw [List.foldl_cons]
    refine ⟨h0, Int.dvd_trans h1 (Int.gcd_dvd_left ..), fun y m => ?_, fun e he hl => h3 e ?_ fun y m => hl y (List.mem_cons_of_mem _ m)⟩
    · rcases List.mem_cons.mp m with rfl | m
      · exact Int.dvd_trans h1 (Int.dvd_trans (Int.gcd_dvd_right ..) (Int.natAbs_dvd.mpr (Int.dvd_refl _)))
      · exact h2 y m
    · exact Int.dvd_coe_gcd he (Int.dvd_trans (hl x List.mem_cons_self) (Int.dvd_natAbs.mpr (Int.dvd_refl _)))
def shF (w : Nat) (row lead : List Int) : List Int := (List.range w).map fun j => row.getD j 0 * lead.getD w 0 - lead.getD j 0 * row.getD w 0
def shR (w : Nat) (row lead : List Int) : List Int := (shF w row lead).map fun x => x.fdiv (max 1 (gF (shF w row lead)))
theorem cut_last {α : Type} {l : List α} (h : 0 < l.length) : cut l none (some (-(1 : Int))) = l.take (l.length - 1) := by
  have e2 : HT.sIx l.length l.length (some (-(1 : Int))) = l.length - 1 := by
    show (if (-(1 : Int)) < 0 then (-(1 : Int) + ((l.length : Nat) : Int)).toNat else min (-(1 : Int)).toNat l.length) = _
    rw [if_pos (by decide)]
    omega
  rw [cut, HT.sIx_none, e2, List.drop_zero, Nat.sub_zero]
theorem cut_one {α : Type} (l : List α) : cut l none (some (1 : Int)) = l.take 1 := by
  have e2 : HT.sIx l.length l.length (some (1 : Int)) = min 1 l.length := by
    show (if (1 : Int) < 0 then ((1 : Int) + ((l.length : Nat) : Int)).toNat else min (1 : Int).toNat l.length) = _
    rw [if_neg (by decide)]
    rfl
  rw [cut, HT.sIx_none, e2, List.drop_zero, Nat.sub_zero]
  cases l with
  | nil => rfl
  | cons x l => rw [List.length_cons, show min 1 (l.length + 1) = 1 by omega]
theorem at_last {r : List Int} {w : Nat} (h : r.length = w + 1) : atI r (-(1 : Int)) = some (r.getD w 0) := by
  unfold atI ixN
  rw [if_neg (by omega), if_pos (by omega)]
  show r[_]? = _
  rw [show (-(1 : Int) + ((r.length : Nat) : Int)).toNat = w by omega, List.getD_eq_getElem?_getD, List.getElem?_eq_getElem (show w < r.length by omega)]
  rfl
theorem ixL {α : Type} [DecidableEq α] {x : α} : ∀ {l : List α}, x ∈ l → ∃ j, ixOf x l = some j
  | y :: l, h => by
    rw [ixOf]
    by_cases e : y = x
    · exact ⟨0, if_pos e⟩
    · rw [if_neg e]
      rcases List.mem_cons.mp h with h | h
      · exact absurd h.symm e
      · obtain ⟨j, hj⟩ := ixL h
        exact ⟨j + 1, by rw [hj]; rfl⟩
theorem shorter_ok {w : Nat} {row lead : List Int} (lr : row.length = w + 1) (ll : lead.length = w + 1) (hw : w ≤ 900) (br : ∀ j, j < w + 1 → (row.getD j 0).natAbs < 2 ^ 7000) (bl : ∀ j, j < w + 1 → (lead.getD j 0).natAbs < 2 ^ 7000)
    (hq : ∀ x ∈ shF w row lead, (x.fdiv (max 1 (gF (shF w row lead)))).natAbs < 2 ^ 4000) : m_law_shorter (row, lead) = .ok (shR w row lead) := by
  have lz : (List.zip row lead).length = w + 1 := by rw [List.length_zip, lr, ll, Nat.min_self]
  have hc := comp_eqF (m := fun (x665 : (Int × Int)) => ((op2 ((R.some (atI lead (-(1 : Int)))).bind fun (y668 : Int) => (R.guard (CMulX x665.1 y668)).bind fun (z671 : Unit) => R.ok (y668, z671)) (fun (x672 : (Int × Unit)) => ((R.some (atI row (-(1 : Int)))).bind fun (y675 : Int) => (R.guard (CMulX x665.2 y675)).bind fun (z678 : Unit) => R.ok (y675, z678))) (fun (x672 : (Int × Unit)) (y673 : (Int × Unit)) => R.ok ()))))
    (f := fun _ => ((lead.getD w 0, ()), (row.getD w 0, ()), ())) (k := fun x665 y679 => ((x665.1 * y679.1.1) - (x665.2 * y679.2.1.1))) (xs := List.zip row lead) fun x hx => by
      obtain ⟨j, hj⟩ := List.mem_iff_getElem?.mp hx
      obtain ⟨h1, rfl⟩ := zip_get lr ll hj
      simp only [at_last ll, at_last lr, some_ok, bind_okN, guard_ok (mulx (i := row.getD j 0) (j := lead.getD w 0) 7000 (br j h1) (bl w (by omega))), guard_ok (mulx (i := lead.getD j 0) (j := row.getD w 0) 7000 (bl j h1) (br w (by omega))), op2_ok]
  have e0 : cut ((List.zip row lead).map fun x => ((x.1 * lead.getD w 0) - (x.2 * row.getD w 0))) none (some (-(1 : Int))) = shF w row lead := by
    rw [cut_last (by rw [List.length_map]; omega), List.length_map, lz]
    refine List.ext_getElem? fun j => ?_
    unfold shF
    rw [Nat.add_sub_cancel, List.getElem?_take, List.getElem?_map, List.getElem?_map]
    by_cases hj : j < w
    · obtain ⟨x, hx⟩ : ∃ x, (List.zip row lead)[j]? = some x := ⟨_, List.getElem?_eq_getElem (by omega)⟩
      obtain ⟨_, rfl⟩ := zip_get lr ll hx
      rw [if_pos hj, hx, List.getElem?_range hj]
      rfl
    · rw [if_neg hj, List.getElem?_eq_none (by rw [List.length_range]; omega)]
      rfl
  have lf : (shF w row lead).length = w := by rw [shF, List.length_map, List.length_range]
  have g0 := gF_go (shF w row lead) 0 (Int.le_refl _)
  refine Ok.eq ?_
  unfold m_law_shorter mb_law_shorter
  dsimp only
  rw [bind_okN, guard_ok (Nat.le_of_lt (sizeB (show (List.zip row lead).length ≤ 100000 by omega))), bind_okN]
  simp only [DL.bind_assoc, bind_okN] at hc ⊢
  rw [hc, bind_okN]
  refine Ok.f0 (Ok.ltI ?_)
  show Ok (lt 0 _) _
  rw [show cut ((List.zip row lead).map fun x => ((x.1 * lead.getD w 0) - (x.2 * row.getD w 0)), ()).1 none (some (-(1 : Int))) = shF w row lead from e0]
  refine Ok.ltI (Ok.bF (Pn := fun g => g = gF (shF w row lead)) (Ok.forR (fun i g => g = gF ((shF w row lead).take i) ∧ 0 ≤ g) ⟨rfl, Int.le_refl _⟩ ?_ ?_) ?_)
  · rintro i x g e ⟨hg, gp⟩
    have tk : (shF w row lead).take (i + 1) = (shF w row lead).take i ++ [x] := by rw [List.take_succ, e]; rfl
    have hg : g = gF ((shF w row lead).take i) := hg
    rw [abs_ite]
    refine Ok.bind1 (law_common_ok gp (by omega)) (Ok.ltI (Ok.nx ⟨?_, by omega⟩))
    rw [tk, gF, List.foldl_append, ← gF, ← hg]
    rfl
  · rintro g ⟨hg, _⟩
    rw [List.take_length] at hg
    exact hg
  · rintro g rfl
    have hc2 := comp_eqF (m := fun (x695 : Int) => R.guard (divOk x695 (max (1 : Int) (gF (shF w row lead))))) (f := fun _ => ()) (k := fun x695 _ => Int.fdiv x695 (max (1 : Int) (gF (shF w row lead)))) (xs := shF w row lead) fun x hx => by
      have m1 : max (1 : Int) (gF (shF w row lead)) ≠ 0 := by omega
      have dv : max (1 : Int) (gF (shF w row lead)) ∣ x := by
        by_cases c : 1 ≤ gF (shF w row lead)
        · rw [Int.max_eq_right c]
          exact g0.2.2.1 x hx
        · rw [Int.max_eq_left (by omega)]
          exact Int.one_dvd _
      obtain ⟨a, ha⟩ := dv
      have hb := hq x hx
      refine guard_ok (div_okq m1 ?_)
      generalize max (1 : Int) (gF (shF w row lead)) = G at *
      have e : x.fdiv G = a := by rw [ha, Int.mul_fdiv_cancel_left _ m1]
      rw [e] at hb
      rw [ha, Int.natAbs_mul, Nat.mul_comm]
      exact Nat.mul_lt_mul_of_pos_right hb (by omega)
    rw [guard_ok (Nat.le_of_lt (sizeB (by omega))), bind_okN, hc2, bind_okN]
    exact Ok.rt rfl
def Par (w : Nat) (h : List Int) (V : Nat → Int) : Prop := ∃ a b : Int, a ≠ 0 ∧ b ≠ 0 ∧ ∀ j, j < w → a * h.getD j 0 = b * V j
theorem Par.le {w : Nat} {h : List Int} {V : Nat → Int} (p : Par w h V) (pr : ∀ e : Int, (∀ j, j < w → e ∣ h.getD j 0) → e.natAbs = 1) {j : Nat} (hj : j < w) : (h.getD j 0).natAbs ≤ (V j).natAbs := by
  obtain ⟨a, b, a0, b0, hp⟩ := p
  have g0 : 0 < Int.gcd a b := Nat.pos_of_ne_zero fun z => a0 (Int.gcd_eq_zero_iff.mp z).1
  obtain ⟨a', ha⟩ : (Int.gcd a b : Int) ∣ a := Int.gcd_dvd_left ..
  obtain ⟨b', hb⟩ : (Int.gcd a b : Int) ∣ b := Int.gcd_dvd_right ..
  obtain ⟨g, hg⟩ : ∃ g, Int.gcd a b = g := ⟨_, rfl⟩
  rw [hg] at g0 ha hb
  have co : Int.gcd a' b' = 1 := by
    rw [ha, hb, Int.gcd_mul_left] at hg
    exact Nat.eq_of_mul_eq_mul_left g0 (by simpa using hg)
  have hp2 : ∀ j, j < w → a' * h.getD j 0 = b' * V j := fun j hj => by
    have := hp j hj
    rw [ha, hb] at this
    refine Int.eq_of_mul_eq_mul_left (show (g : Int) ≠ 0 by omega) ?_
    grind
  have b1 := pr b' fun j hj => by
    have h1 : b' ∣ a' * h.getD j 0 := ⟨V j, hp2 j hj⟩
    have h2 := Int.natAbs_dvd_natAbs.mpr h1
    rw [Int.natAbs_mul] at h2
    exact Int.natAbs_dvd_natAbs.mp (Nat.Coprime.dvd_of_dvd_mul_left (show Nat.Coprime b'.natAbs a'.natAbs by rw [Nat.coprime_comm]; exact co) h2)
  have e := congrArg Int.natAbs (hp2 j hj)
  rw [Int.natAbs_mul, Int.natAbs_mul, b1, Nat.one_mul] at e
  have : a'.natAbs ≠ 0 := fun z => a0 (by rw [ha, show a' = 0 by omega, Int.mul_zero])
  rw [← e]
  exact Nat.le_mul_of_pos_left _ (by omega)
--#split
structure Lo (n : Nat) (L : List (List Int)) (s : Nat) (P Q H : List (List Int)) : Prop where
  pm : (P ++ Q).Perm L
  lp : P.length = s
  lh : H.length = Q.length
  dn : det s (fp n P) ≠ 0
  wd : ∀ h ∈ H, h.length = n - s
  pa : ∀ (i : Nat) (h q : List Int), H[i]? = some h → Q[i]? = some q → Par (n - s) h (fun j => bor s (fp n P) (cr n q) (n - 1 - j))
  bt : ∀ h ∈ H, ∀ j, j < n - s → (h.getD j 0).natAbs < 2 ^ 3300
theorem fp_snoc {n : Nat} {P : List (List Int)} {l : List Int} {s : Nat} (hs : P.length = s) {p c : Nat} (hp : p < s + 1) : setr (fp n P) s (cr n l) p c = fp n (P ++ [l]) p c := by
  unfold fp setr
  by_cases e : p = s
  · rw [if_pos e, e, List.getD_eq_getElem?_getD, List.getElem?_append_right (by omega), hs, Nat.sub_self]
    rfl
  · rw [if_neg e]
    show cr n (P.getD p []) c = cr n ((P ++ [l]).getD p []) c
    rw [List.getD_eq_getElem?_getD, List.getD_eq_getElem?_getD, List.getElem?_append_left (by omega)]
theorem erase_perm {α : Type} {l : List α} {t : Nat} {x : α} (h : l[t]? = some x) : (x :: l.eraseIdx t).Perm l := by
  obtain ⟨hi, e⟩ := List.getElem?_eq_some_iff.mp h
  have e1 : l = l.take t ++ x :: l.drop (t + 1) := by
    have := List.drop_eq_getElem_cons hi
    rw [e] at this
    rw [← this, List.take_append_drop]
  rw [List.eraseIdx_eq_take_drop_succ]
  conv => rhs; rw [e1]
  exact List.perm_middle.symm
theorem sh_spec {w : Nat} {h lead : List Int} {j : Nat} (hj : j < w) : max 1 (gF (shF w h lead)) * (shR w h lead).getD j 0 = h.getD j 0 * lead.getD w 0 - lead.getD j 0 * h.getD w 0 := by
  have hx : (shF w h lead)[j]? = some (h.getD j 0 * lead.getD w 0 - lead.getD j 0 * h.getD w 0) := by
    rw [shF, List.getElem?_map, List.getElem?_range hj]
    rfl
  have m1 : max (1 : Int) (gF (shF w h lead)) ≠ 0 := by omega
  have dv : max (1 : Int) (gF (shF w h lead)) ∣ h.getD j 0 * lead.getD w 0 - lead.getD j 0 * h.getD w 0 := by
    by_cases c : 1 ≤ gF (shF w h lead)
    · rw [Int.max_eq_right c]
      exact (gF_go (shF w h lead) 0 (Int.le_refl _)).2.2.1 _ (List.mem_of_getElem? hx)
    · rw [Int.max_eq_left (by omega)]
      exact Int.one_dvd _
  have e : (shR w h lead).getD j 0 = (h.getD j 0 * lead.getD w 0 - lead.getD j 0 * h.getD w 0).fdiv (max 1 (gF (shF w h lead))) := by
    rw [List.getD_eq_getElem?_getD, shR, List.getElem?_map, hx]
    rfl
  rw [e]
  obtain ⟨a, ha⟩ := dv
  rw [ha, Int.mul_fdiv_cancel_left _ m1]
theorem sh_prim {w : Nat} {h lead : List Int} : (∀ j, j < w → (shR w h lead).getD j 0 = 0) ∨ ∀ e : Int, (∀ j, j < w → e ∣ (shR w h lead).getD j 0) → e.natAbs = 1 := by
  have g := gF_go (shF w h lead) 0 (Int.le_refl _)
  by_cases c : 1 ≤ gF (shF w h lead)
  · refine .inr fun e he => ?_
    have m : max (1 : Int) (gF (shF w h lead)) = gF (shF w h lead) := Int.max_eq_right c
    have : gF (shF w h lead) * e ∣ gF (shF w h lead) := g.2.2.2 _ (Int.dvd_zero _) fun x hx => by
      unfold shF at hx
      obtain ⟨j, hj, rfl⟩ := List.mem_map.mp hx
      have hj := List.mem_range.mp hj
      have := sh_spec (h := h) (lead := lead) hj
      rw [m] at this
      rw [← this]
      exact Int.mul_dvd_mul_left _ (he j hj)
    obtain ⟨k, hk⟩ := this
    have e1 : e * k = 1 := by
      refine Int.eq_of_mul_eq_mul_left (show gF (shF w h lead) ≠ 0 by omega) ?_
      rw [Int.mul_one, ← Int.mul_assoc]
      exact hk.symm
    have e2 := congrArg Int.natAbs e1
    rw [Int.natAbs_mul] at e2
    exact Nat.eq_one_of_mul_eq_one_right e2
  · refine .inl fun j hj => ?_
    have g0 : gF (shF w h lead) = 0 := by
      have : 0 ≤ gF (shF w h lead) := g.1
      omega
    have hx : (shF w h lead)[j]? = some (h.getD j 0 * lead.getD w 0 - lead.getD j 0 * h.getD w 0) := by
      rw [shF, List.getElem?_map, List.getElem?_range hj]
      rfl
    have := g.2.2.1 _ (List.mem_of_getElem? hx)
    have z : gF (shF w h lead) ∣ h.getD j 0 * lead.getD w 0 - lead.getD j 0 * h.getD w 0 := this
    rw [g0] at z
    have z := Int.zero_dvd.mp z
    have s := sh_spec (h := h) (lead := lead) hj
    rw [z, g0] at s
    have s : (1 : Int) * (shR w h lead).getD j 0 = 0 := s
    omega
section
variable {n s t : Nat} {L P Q H : List (List Int)}
theorem Lo.start (hl : L.length = n) (hw : ∀ r ∈ L, r.length = n) (hT : (L.map blr).sum ≤ 3200) : Lo n L 0 [] L L := by
  refine ⟨List.Perm.refl _, rfl, rfl, by rw [det]; decide, fun h hh => hw h hh, fun i h q e1 e2 => ?_, fun h hh j _ => ?_⟩
  · have e : h = q := Option.some.inj (e1.symm.trans e2)
    subst e
    refine ⟨1, 1, by decide, by decide, fun j hj => ?_⟩
    have : bor 0 (fp n []) (cr n h) (n - 1 - j) = h.getD j 0 := by
      rw [bor, det, sm, cr, show n - 1 - (n - 1 - j) = j by omega]
      omega
    show 1 * h.getD j 0 = 1 * bor 0 (fp n []) (cr n h) (n - 1 - j)
    rw [this]
  · have h1 := getD_abs h j
    have h2 := sum_mem (g := blr) hh
    exact Nat.lt_of_le_of_lt h1 (Nat.pow_lt_pow_right (by decide) (by omega))
theorem Lo.next (o : Lo n L s P Q H) (hl : L.length = n) (n16 : n ≤ 16) (hT : (L.map blr).sum ≤ 3200) (sn1 : s < n) {lead l : List Int} (ht : H[t]? = some lead) (hq : Q[t]? = some l) (pv : lead.getD (n - s - 1) 0 ≠ 0) :
    Lo n L (s + 1) (P ++ [l]) (Q.eraseIdx t) ((H.eraseIdx t).map fun h => shR (n - s - 1) h lead) := by
  obtain ⟨a2, b2, a20, b20, p2⟩ := o.pa t lead l ht hq
  have vl : a2 * lead.getD (n - s - 1) 0 = b2 * bor s (fp n P) (cr n l) s := by
    have : a2 * lead.getD (n - s - 1) 0 = b2 * bor s (fp n P) (cr n l) (n - 1 - (n - s - 1)) := p2 (n - s - 1) (by omega)
    rw [show n - 1 - (n - s - 1) = s by omega] at this
    exact this
  have vl0 : bor s (fp n P) (cr n l) s ≠ 0 := fun z => by
    rw [z, Int.mul_zero] at vl
    rcases Int.mul_eq_zero.mp vl with h | h
    · exact a20 h
    · exact pv h
  have cong : ∀ p c, p < s + 1 → setr (fp n P) s (cr n l) p c = fp n (P ++ [l]) p c := fun p c hp => fp_snoc o.lp hp
  have pm2 : ((P ++ [l]) ++ Q.eraseIdx t).Perm L := by
    rw [List.append_assoc]
    exact ((erase_perm hq).append_left P).trans o.pm
  -- how the new rows go
  have pr : ∀ h q, (∃ i : Nat, H[i]? = some h ∧ Q[i]? = some q) → Par (n - (s + 1)) (shR (n - s - 1) h lead) (fun j => bor (s + 1) (fp n (P ++ [l])) (cr n q) (n - 1 - j)) := by
    rintro h q ⟨i, e1, e2⟩
    obtain ⟨a1, b1, a10, b10, p1⟩ := o.pa i h q e1 e2
    have m1 : max (1 : Int) (gF (shF (n - s - 1) h lead)) ≠ 0 := by omega
    refine ⟨a1 * a2 * max 1 (gF (shF (n - s - 1) h lead)), b1 * b2 * det s (fp n P), Int.mul_ne_zero (Int.mul_ne_zero a10 a20) m1, Int.mul_ne_zero (Int.mul_ne_zero b10 b20) o.dn, fun j hj => ?_⟩
    have hj : j < n - s - 1 := by omega
    have sp := sh_spec (h := h) (lead := lead) hj
    have q1 := p1 j (by omega)
    have q2 := p1 (n - s - 1) (by omega)
    have q3 := p2 j (by omega)
    have u := bor_up (k := s) (P := fp n P) (l := cr n l) (r := cr n q) (j := n - 1 - j)
    rw [bor_congr (k := s + 1) (P := setr (fp n P) s (cr n l)) (Q := fp n (P ++ [l])) cong] at u
    have q2 : a1 * h.getD (n - s - 1) 0 = b1 * bor s (fp n P) (cr n q) s := by
      have q2 : a1 * h.getD (n - s - 1) 0 = b1 * bor s (fp n P) (cr n q) (n - 1 - (n - s - 1)) := q2
      rw [show n - 1 - (n - s - 1) = s by omega] at q2
      exact q2
    have q1 : a1 * h.getD j 0 = b1 * bor s (fp n P) (cr n q) (n - 1 - j) := q1
    have q3 : a2 * lead.getD j 0 = b2 * bor s (fp n P) (cr n l) (n - 1 - j) := q3
    show a1 * a2 * max 1 (gF (shF (n - s - 1) h lead)) * (shR (n - s - 1) h lead).getD j 0 = b1 * b2 * det s (fp n P) * bor (s + 1) (fp n (P ++ [l])) (cr n q) (n - 1 - j)
    calc a1 * a2 * max 1 (gF (shF (n - s - 1) h lead)) * (shR (n - s - 1) h lead).getD j 0
        = a1 * a2 * (max 1 (gF (shF (n - s - 1) h lead)) * (shR (n - s - 1) h lead).getD j 0) := by ac_rfl
      _ = a1 * a2 * (h.getD j 0 * lead.getD (n - s - 1) 0 - lead.getD j 0 * h.getD (n - s - 1) 0) := by rw [sp]
      _ = (a1 * h.getD j 0) * (a2 * lead.getD (n - s - 1) 0) - (a2 * lead.getD j 0) * (a1 * h.getD (n - s - 1) 0) := by grind
      _ = b1 * b2 * (bor s (fp n P) (cr n l) s * bor s (fp n P) (cr n q) (n - 1 - j) - bor s (fp n P) (cr n q) s * bor s (fp n P) (cr n l) (n - 1 - j)) := by
        rw [q1, vl, q3, q2]
        grind
      _ = b1 * b2 * (det s (fp n P) * bor (s + 1) (fp n (P ++ [l])) (cr n q) (n - 1 - j)) := by rw [u]
      _ = b1 * b2 * det s (fp n P) * bor (s + 1) (fp n (P ++ [l])) (cr n q) (n - 1 - j) := by ac_rfl
  have ei : ∀ {α : Type} (X : List α) (i : Nat), (X.eraseIdx t)[i]? = X[if i < t then i else i + 1]? := fun X i => by
    rw [List.getElem?_eraseIdx]
    split <;> rfl
  refine ⟨pm2, by rw [List.length_append, o.lp]; rfl, ?_, ?_, fun h hh => ?_, fun i h q e1 e2 => ?_, fun h hh j hj => ?_⟩
  · rw [List.length_map, List.length_eraseIdx, List.length_eraseIdx, o.lh]
  · rw [← det_congr (k := s + 1) (M := setr (fp n P) s (cr n l)) (N := fp n (P ++ [l])) fun p c hp _ => cong p c hp, det_setr]
    exact vl0
  · obtain ⟨h', _, rfl⟩ := List.mem_map.mp hh
    rw [shR, List.length_map, shF, List.length_map, List.length_range]
    omega
  · rw [List.getElem?_map, ei] at e1
    rw [ei] at e2
    cases e3 : H[if i < t then i else i + 1]? with
    | none => rw [e3] at e1; cases e1
    | some h' =>
      rw [e3] at e1
      have e1 := (Option.some.inj e1).symm
      subst e1
      exact pr h' q ⟨_, e3, e2⟩
  · obtain ⟨h', hh', rfl⟩ := List.mem_map.mp hh
    obtain ⟨i, hi⟩ := List.mem_iff_getElem?.mp hh'
    rw [ei] at hi
    obtain ⟨q, hq2⟩ : ∃ q, (Q.eraseIdx t)[i]? = some q := by
      have : i < (H.eraseIdx t).length := (List.getElem?_eq_some_iff.mp (by rw [ei]; exact hi)).1
      exact ⟨_, List.getElem?_eq_getElem (by rw [List.length_eraseIdx] at this ⊢; rw [← o.lh]; exact this)⟩
    have hq3 := hq2
    rw [ei] at hq2
    have p3 := pr h' q ⟨_, hi, hq2⟩
    have sum2 : ((P ++ [l]).map blr).sum + blr q ≤ 3200 := by
      have e := (pm2.map blr).sum_nat
      rw [List.map_append, List.sum_append] at e
      have := sum_mem (g := blr) (List.mem_of_getElem? hq3)
      omega
    have vb := crb_bits (n := n) (s := s + 1) (c := n - 1 - j) (T := 3200) (P := P ++ [l]) (q := q) (by rw [List.length_append, o.lp]; rfl) sum2 (by omega)
    have vb2 : (bor (s + 1) (fp n (P ++ [l])) (cr n q) (n - 1 - j)).natAbs < 2 ^ 3300 := by
      refine Nat.lt_of_le_of_lt vb (Nat.lt_of_lt_of_le (Nat.mul_lt_mul_of_pos_right fct17 (Nat.pow_pos (by decide))) ?_)
      rw [← Nat.pow_add]
      exact Nat.pow_le_pow_right (by decide) (by decide)
    rcases sh_prim (w := n - s - 1) (h := h') (lead := lead) with z | z
    · rw [z j (by omega)]
      exact Nat.pow_pos (by decide)
    · have := p3.le (fun e he => z e fun j hj => he j (by omega)) hj
      exact Nat.lt_of_le_of_lt this vb2
end
--#split
def byF (l : List Fra) : Int := l.foldl (fun b x => b * x.2) 1
def lrow (row : List Fra) : List Int := row.map fun x => x.1 * (byF row).fdiv x.2
theorem by_go : ∀ {l : List Fra} {b : Int}, 0 < b → (∀ x ∈ l, 0 < x.2) → 0 < l.foldl (fun b x => b * x.2) b ∧ b ∣ l.foldl (fun b x => b * x.2) b ∧ (∀ x ∈ l, x.2 ∣ l.foldl (fun b x => b * x.2) b) ∧ (l.foldl (fun b x => b * x.2) b).natAbs = b.natAbs * prd l
  | [], b, hb, _ => ⟨hb, Int.dvd_refl _, fun _ m => absurd m List.not_mem_nil, by show b.natAbs = b.natAbs * 1; omega⟩
  | x :: l, b, hb, h => by
    have x0 := h x List.mem_cons_self
    obtain ⟨h1, h2, h3, h4⟩ := by_go (l := l) (b := b * x.2) (Int.mul_pos hb x0) fun y m => h y (List.mem_cons_of_mem _ m)
    rw [List.foldl_cons]
    refine ⟨h1, Int.dvd_trans ⟨x.2, rfl⟩ h2, fun y m => ?_, ?_⟩
    · rcases List.mem_cons.mp m with rfl | m
      · exact Int.dvd_trans ⟨b, Int.mul_comm _ _⟩ h2
      · exact h3 y m
    · rw [h4, Int.natAbs_mul, prd_cons, Nat.mul_assoc]
theorem prd_pos : ∀ {l : List Fra}, (∀ x ∈ l, 0 < x.2) → 1 ≤ prd l
  | [], _ => Nat.le_refl 1
  | x :: l, h => by
    rw [prd_cons]
    have := h x List.mem_cons_self
    exact Nat.mul_pos (by omega) (prd_pos fun z m => h z (List.mem_cons_of_mem _ m))
theorem prd_mem {x : Fra} : ∀ {l : List Fra}, (∀ y ∈ l, 0 < y.2) → x ∈ l → x.2.natAbs ≤ prd l
  | [], _, m => nomatch m
  | y :: l, h, m => by
    rw [prd_cons]
    have y0 := h y List.mem_cons_self
    have p1 := prd_pos fun z m => h z (List.mem_cons_of_mem _ m)
    rcases List.mem_cons.mp m with rfl | m
    · exact Nat.le_mul_of_pos_right _ p1
    · exact Nat.le_trans (prd_mem (fun z m => h z (List.mem_cons_of_mem _ m)) m) (Nat.le_mul_of_pos_left _ (by omega))
theorem prd_take (l : List Fra) (h : ∀ x ∈ l, 0 < x.2) (i : Nat) : prd (l.take i) ≤ prd l := by
  conv => rhs; rw [← List.take_append_drop i l, prd_app]
  exact Nat.le_mul_of_pos_right _ (prd_pos fun x m => h x (List.mem_of_mem_drop m))
theorem by_div {l : List Fra} (h : ∀ x ∈ l, 0 < x.2) {x : Fra} (hx : x ∈ l) : (byF l).fdiv x.2 * x.2 = byF l ∧ ((byF l).fdiv x.2).natAbs ≤ prd l := by
  obtain ⟨b1, _, b3, b4⟩ := by_go (l := l) (b := 1) (by decide) h
  obtain ⟨a, ha⟩ := b3 x hx
  have x0 := h x hx
  have ha : byF l = x.2 * a := ha
  have e : (byF l).fdiv x.2 = a := by rw [ha, Int.mul_fdiv_cancel_left _ (by omega)]
  rw [e]
  refine ⟨by rw [ha, Int.mul_comm], ?_⟩
  have b4 : (byF l).natAbs = 1 * prd l := b4
  rw [ha, Int.natAbs_mul] at b4
  have : a.natAbs ≤ x.2.natAbs * a.natAbs := Nat.le_mul_of_pos_left _ (by omega)
  omega
section
variable {n : Nat} {L : List (List Int)}
def LoneT (n : Nat) (L : List (List Int)) : Prop := ∃ P, P.Perm L ∧ det n (fp n P) ≠ 0
def LoneF (n : Nat) (L : List (List Int)) : Prop := ∃ s P Q, s < n ∧ P.length = s ∧ (P ++ Q).Perm L ∧ det s (fp n P) ≠ 0 ∧ ∀ q ∈ Q, bor s (fp n P) (cr n q) s = 0
theorem Lo.len {s : Nat} {P Q H : List (List Int)} (o : Lo n L s P Q H) (hl : L.length = n) : s + H.length = n := by
  have := o.pm.length_eq
  rw [List.length_append, o.lp, ← o.lh, hl] at this
  exact this
theorem lone_ok {rows : List (List Fra)} (n16 : n ≤ 16) (lr : rows.length = n) (wr : ∀ r ∈ rows, r.length = n) (h : ∀ r ∈ rows, (∀ y ∈ r, 0 < y.2 ∧ y.1.natAbs < 2 ^ 8000) ∧ prd r < 2 ^ 8000) (hT : ((rows.map lrow).map blr).sum ≤ 3200) :
    Ok (m_law_is_lone rows) fun b => (b = true ∧ LoneT n (rows.map lrow)) ∨ (b = false ∧ LoneF n (rows.map lrow)) := by
  have lL : (rows.map lrow).length = n := by rw [List.length_map, lr]
  have wL : ∀ r ∈ rows.map lrow, r.length = n := fun r hr => by
    obtain ⟨x, hx, rfl⟩ := List.mem_map.mp hr
    rw [lrow, List.length_map]
    exact wr x hx
  unfold m_law_is_lone mb_law_is_lone
  rw [bind_okN]
  refine Ok.f0 (Ok.ltI (Ok.bF (Pn := fun H => H = rows.map lrow) (Ok.forR (fun i H => H = (rows.take i).map lrow ∧ i ≤ n) ⟨rfl, Nat.zero_le _⟩ ?_ ?_) ?_))
  · rintro i row H e ⟨hH, _⟩
    have hH : H = (rows.take i).map lrow := hH
    have il := (List.getElem?_eq_some_iff.mp e).1
    have tk : rows.take (i + 1) = rows.take i ++ [row] := by rw [List.take_succ, e]; rfl
    have mr := List.mem_of_getElem? e
    obtain ⟨h1, h2⟩ := h row mr
    have h0 : ∀ x ∈ row, 0 < x.2 := fun x m => (h1 x m).1
    have lrr := wr row mr
    refine Ok.ltI (Ok.bF (Pn := fun b => b = byF row) (Ok.forR (fun i b => b = byF (row.take i)) rfl ?_ ?_) ?_)
    · rintro j x b ex hb
      have hb : b = byF (row.take j) := hb
      have tk : row.take (j + 1) = row.take j ++ [x] := by rw [List.take_succ, ex]; rfl
      have mx := List.mem_of_getElem? ex
      have bb : b.natAbs < 2 ^ 8000 := by
        have := (by_go (l := row.take j) (b := 1) (by decide) fun y m => h0 y (List.mem_of_mem_take m)).2.2.2
        have t := prd_take row h0 j
        have this : (byF (row.take j)).natAbs = 1 * prd (row.take j) := this
        rw [hb]
        omega
      have xb := prd_mem h0 mx
      refine Ok.grdB (mulx 8000 bb (by omega)) (Ok.ltI (Ok.nx ?_))
      show _ = byF (row.take (j + 1))
      rw [tk, byF, List.foldl_append, hb]
      rfl
    · rintro b hb
      rw [List.take_length] at hb
      exact hb
    · rintro b rfl
      have hc := comp_eqF (m := fun (x610 : (Int × Int)) => (((R.guard (divOk (byF row) x610.2)).bind fun (y613 : Unit) => (R.guard (CMulX x610.1 (Int.fdiv (byF row) x610.2))).bind fun (z616 : Unit) => R.ok (y613, z616)))) (f := fun _ => ((), ())) (k := fun x610 _ => x610.1 * (Int.fdiv (byF row) x610.2)) (xs := row) fun x hx => by
        have x0 := h0 x hx
        have xb := prd_mem h0 hx
        obtain ⟨_, e2⟩ := by_div h0 hx
        rw [guard_ok (div_ok (show x.2 ≠ 0 by omega) (by omega)), bind_okN, guard_ok (mulx 8000 (h1 x hx).2 (by omega)), bind_okN]
      rw [bind_okN, guard_ok (Nat.le_of_lt (sizeB (show row.length ≤ 100000 by omega))), bind_okN, hc, bind_okN, guard_ok (sizeB (show H.length ≤ 100000 by rw [hH, List.length_map, List.length_take]; omega)), bind_okN, bind_okN]
      refine Ok.nx ⟨?_, by omega⟩
      rw [tk, List.map_append, ← hH]
      rfl
  · rintro H ⟨hH, _⟩
    rw [List.take_length] at hH
    exact hH
  · rintro H rfl
    refine Ok.bF (Pn := fun (H : List (List Int)) => LoneT n (rows.map lrow)) (Ok.whR (fun H => ∃ s P Q, Lo n (rows.map lrow) s P Q H) (fun H => H.length) ⟨0, [], _, Lo.start lL wL hT⟩ ?_) fun _ hq => Ok.rt (.inl ⟨rfl, hq⟩)
    rintro H ⟨s, P, Q, o⟩
    have hlen := o.len lL
    refine ⟨_, rfl, fun hb => ?_, fun hb => ?_⟩
    · have ne : H ≠ [] := fun z => by
        rw [z] at hb
        simp at hb
      have h0 := List.length_pos_iff.mpr ne
      have s1 : s < n := by omega
      have wd : ∀ h ∈ H, h.length = (n - s - 1) + 1 := fun h hh => by rw [o.wd h hh]; omega
      have hc := comp_fm (t := fun (x632 : List Int) => R.some (atI x632 (-(1 : Int)))) (c := fun (z640 : Int) => (!decide (z640 = (0 : Int)))) (fun x : List Int => x) (pr := fun x => !decide (x.getD (n - s - 1) 0 = 0)) (xs := H) fun x hx => ⟨_, by rw [at_last (wd x hx)]; rfl, rfl⟩
      rw [guard_ok ne, bind_okN, bind_okN, guard_ok (Nat.le_of_lt (sizeB (by omega))), bind_okN, hc, bind_okN]
      dsimp only
      rw [List.map_id' _, cut_one]
      refine Ok.ltI ?_
      cases hf : H.filter (fun x => !decide (x.getD (n - s - 1) 0 = 0)) with
      | nil =>
        refine Ok.bF (Pn := fun _ => False) (Ok.iteT rfl (Ok.rt (.inr ⟨rfl, s, P, Q, s1, o.lp, o.pm, o.dn, fun q hq => ?_⟩))) fun _ z => z.elim
        obtain ⟨i, hi⟩ := List.mem_iff_getElem?.mp hq
        have il : i < H.length := by rw [o.lh]; exact (List.getElem?_eq_some_iff.mp hi).1
        obtain ⟨a, b, a0, b0, hp⟩ := o.pa i _ q (List.getElem?_eq_getElem il) hi
        have z : H[i].getD (n - s - 1) 0 = 0 := by
          refine Classical.byContradiction fun c => ?_
          have : H[i] ∈ H.filter (fun x => !decide (x.getD (n - s - 1) 0 = 0)) := List.mem_filter.mpr ⟨List.getElem_mem il, by rw [decide_eq_false c]; rfl⟩
          rw [hf] at this
          exact nomatch this
        have : a * H[i].getD (n - s - 1) 0 = b * bor s (fp n P) (cr n q) (n - 1 - (n - s - 1)) := hp (n - s - 1) (by omega)
        rw [z, Int.mul_zero, show n - 1 - (n - s - 1) = s by omega] at this
        rcases Int.mul_eq_zero.mp this.symm with h | h
        · exact absurd h b0
        · exact h
      | cons lead rest =>
        have ml : lead ∈ H.filter (fun x => !decide (x.getD (n - s - 1) 0 = 0)) := by rw [hf]; exact List.mem_cons_self
        obtain ⟨mH, pv⟩ := List.mem_filter.mp ml
        have pv : lead.getD (n - s - 1) 0 ≠ 0 := by simpa using pv
        obtain ⟨t, it⟩ := ixL mH
        have ht := (ixOf_some it).1
        have tl := (List.getElem?_eq_some_iff.mp ht).1
        obtain ⟨l, hq⟩ : ∃ l, Q[t]? = some l := ⟨_, List.getElem?_eq_getElem (by rw [← o.lh]; exact tl)⟩
        have nx := o.next lL n16 hT s1 ht hq pv
        have a0 : atI ((lead :: rest).take 1) (0 : Int) = some lead := rfl
        have bits : ∀ h ∈ H, ∀ j, j < n - s - 1 + 1 → (h.getD j 0).natAbs < 2 ^ 7000 := fun h hh j hj => pw 3300 7000 (by decide) (o.bt h hh j (by omega))
        have hc2 := comp_eqF (m := fun (x660 : List Int) => (((R.some (atI ((lead :: rest).take 1) (0 : Int))).bind fun (c706 : (List Int)) => (m_law_shorter (x660, c706)).bind fun (z707 : (List Int)) => R.ok (c706, z707)))) (f := fun x => (lead, shR (n - s - 1) x lead)) (k := fun _ y => y.2) (xs := H.eraseIdx t) fun x hx => by
          have mx := List.mem_of_mem_eraseIdx hx
          rw [a0, some_ok, bind_okN, shorter_ok (wd x mx) (wd lead mH) (by omega) (bits x mx) (bits lead mH) fun y hy => ?_]
          · rfl
          · -- what comes of it stands in the new row
            have m2 : (y.fdiv (max 1 (gF (shF (n - s - 1) x lead)))) ∈ shR (n - s - 1) x lead := List.mem_map.mpr ⟨y, hy, rfl⟩
            obtain ⟨j, hj⟩ := List.mem_iff_getElem?.mp m2
            have lj : j < n - (s + 1) := by
              have := (List.getElem?_eq_some_iff.mp hj).1
              rw [shR, List.length_map, shF, List.length_map, List.length_range] at this
              omega
            have := nx.bt _ (List.mem_map.mpr ⟨x, hx, rfl⟩) j lj
            rw [List.getD_eq_getElem?_getD, hj] at this
            exact pw 3300 4000 (by decide) this
        refine Ok.bF (Pn := fun _ => True) (Ok.iteF rfl (Ok.nx trivial)) fun _ _ => Ok.bind1 (a := (lead, t)) (by rw [a0, some_ok, bind_okN, it]; rfl) ?_
        rw [bind_okN, guard_ok (Nat.le_of_lt (sizeB (show (H.eraseIdx t).length ≤ 100000 by rw [List.length_eraseIdx]; split <;> omega))), bind_okN, hc2, bind_okN]
        refine Ok.ltI (Ok.nx ⟨⟨s + 1, P ++ [l], Q.eraseIdx t, nx⟩, ?_⟩)
        show ((H.eraseIdx t).map _).length < H.length
        rw [List.length_map, List.length_eraseIdx, if_pos tl]
        omega
    · have e : H = [] := by simpa using hb
      have sn1 : s = n := by
        rw [e] at hlen
        simpa using hlen
      have q0 : Q = [] := List.length_eq_zero_iff.mp (by rw [← o.lh, e]; rfl)
      refine ⟨P, ?_, ?_⟩
      · have := o.pm
        rw [q0, List.append_nil] at this
        exact this
      · have := o.dn
        rw [sn1] at this
        exact this
end
--#split
def dotn (n : Nat) (r : Nat → Int) (x : Nat → Int) : Int := sm n (fun s => r s * x s)
theorem sm_trunc {k : Nat} {g : Nat → Int} : ∀ {n : Nat}, k < n → (∀ s, k < s → s < n → g s = 0) → sm n g = sm (k + 1) g
  | 0, h, _ => absurd h (Nat.not_lt_zero _)
  | n + 1, h, z => by
    by_cases e : k = n
    · rw [e]
    · rw [sm, sm_trunc (n := n) (by omega) fun s h1 h2 => z s h1 (by omega), z n (by omega) (by omega), Int.add_zero]
def kv (k : Nat) (P : Nat → Nat → Int) : Nat → Int := fun s => if s < k then - X k P s k else if s = k then det k P else 0
theorem kv_dot {n k : Nat} {P : Nat → Nat → Int} {r : Nat → Int} (hk : k < n) : dotn n r (kv k P) = bor k P r k := by
  unfold dotn
  rw [sm_trunc hk fun s h1 h2 => by rw [kv, if_neg (by omega), if_neg (by omega), Int.mul_zero], sm]
  have e : sm k (fun s => r s * kv k P s) = - sm k (fun q => r q * X k P q k) := by
    rw [show (-sm k fun q => r q * X k P q k) = (-1) * sm k (fun q => r q * X k P q k) by omega, ← sm_mul]
    refine sm_congr fun s hs => ?_
    rw [kv, if_pos hs]
    grind
  rw [e, kv, if_neg (by omega), if_pos rfl, bor]
  grind
theorem kv_ne {k : Nat} {P : Nat → Nat → Int} (hd : det k P ≠ 0) : kv k P k ≠ 0 := by
  rw [kv, if_neg (by omega), if_pos rfl]
  exact hd
def Ker (n : Nat) (W : List (Nat → Int)) : Prop := ∃ x : Nat → Int, (∃ q, q < n ∧ x q ≠ 0) ∧ ∀ w ∈ W, dotn n w x = 0
def row (r : List Int) : Nat → Int := fun s => r.getD s 0
section
variable {n : Nat} {W L : List (List Int)}
theorem sing_ker (hl : W.length = n) (h : Sing n W) : Ker n (W.map row) := by
  obtain ⟨k, Q, hk, pm, hd, hz⟩ := h
  have lq : Q.length = n := by rw [pm.length_eq, hl]
  refine ⟨kv k (fnr Q), ⟨k, hk, kv_ne hd⟩, fun w hw => ?_⟩
  obtain ⟨r, hr, rfl⟩ := List.mem_map.mp hw
  obtain ⟨i, hi⟩ := List.mem_iff_getElem?.mp (pm.mem_iff.mpr hr)
  have il := (List.getElem?_eq_some_iff.mp hi).1
  have er : row r = fnr Q i := by
    have := getD_some il
    rw [hi] at this
    have := Option.some.inj this
    funext s
    show r.getD s 0 = (Q.getD i []).getD s 0
    rw [← this]
  rw [er, kv_dot hk]
  by_cases c : i < k
  · exact bor_own c
  · exact hz i (by omega) (by omega)
theorem det_noker {Q : List (List Int)} (hl : W.length = n) (pm : Q.Perm W) (hd : det n (fnr Q) ≠ 0) : ¬ Ker n (W.map row) := by
  rintro ⟨x, ⟨q, hq, xq⟩, hx⟩
  have lq : Q.length = n := by rw [pm.length_eq, hl]
  refine xq (ker_zero hd (x := x) (fun p hp => ?_) hq)
  have := hx (row (Q.getD p [])) (List.mem_map.mpr ⟨_, pm.mem_iff.mp (List.mem_of_getElem? (getD_some (by omega))), rfl⟩)
  exact this
theorem loneF_ker (h : LoneF n L) : Ker n (L.map (cr n)) := by
  obtain ⟨s, P, Q, hs, lp, pm, hd, hz⟩ := h
  refine ⟨kv s (fp n P), ⟨s, hs, kv_ne hd⟩, fun w hw => ?_⟩
  obtain ⟨r, hr, rfl⟩ := List.mem_map.mp hw
  rw [kv_dot hs]
  rcases List.mem_append.mp (pm.mem_iff.mpr hr) with m | m
  · obtain ⟨i, hi⟩ := List.mem_iff_getElem?.mp m
    have il := (List.getElem?_eq_some_iff.mp hi).1
    have er : cr n r = fun c => fp n P i c := by
      have := getD_some il
      rw [hi] at this
      have := Option.some.inj this
      funext c
      show cr n r c = cr n (P.getD i []) c
      rw [← this]
    rw [er]
    exact bor_own (by omega)
  · exact hz r m
theorem loneT_noker (hl : L.length = n) (h : LoneT n L) : ¬ Ker n (L.map (cr n)) := by
  obtain ⟨P, pm, hd⟩ := h
  rintro ⟨x, ⟨q, hq, xq⟩, hx⟩
  have lq : P.length = n := by rw [pm.length_eq, hl]
  refine xq (ker_zero hd (x := x) (fun p hp => ?_) hq)
  exact hx (cr n (P.getD p [])) (List.mem_map.mpr ⟨_, pm.mem_iff.mp (List.mem_of_getElem? (getD_some (by omega))), rfl⟩)
theorem sm_front (g : Nat → Int) : ∀ n, sm (n + 1) g = g 0 + sm n (fun s => g (s + 1))
  | 0 => by rw [sm, sm, sm]; omega
  | n + 1 => by
    rw [sm, sm_front g n, sm]
    omega
theorem sm_rev : ∀ (n : Nat) (g : Nat → Int), sm n (fun s => g (n - 1 - s)) = sm n g
  | 0, _ => rfl
  | n + 1, g => by
    rw [sm_front]
    have e : sm n (fun s => g (n + 1 - 1 - (s + 1))) = sm n g := by
      rw [← sm_rev n g]
      refine sm_congr fun s hs => ?_
      rw [show n + 1 - 1 - (s + 1) = n - 1 - s by omega]
    rw [e, sm, show n + 1 - 1 - 0 = n by omega]
    omega
theorem ker_rev (h : Ker n (L.map (cr n))) : Ker n (L.map row) := by
  obtain ⟨x, ⟨q, hq, xq⟩, hx⟩ := h
  refine ⟨fun s => x (n - 1 - s), ⟨n - 1 - q, by omega, by show x (n - 1 - (n - 1 - q)) ≠ 0; rw [show n - 1 - (n - 1 - q) = q by omega]; exact xq⟩, fun w hw => ?_⟩
  obtain ⟨r, hr, rfl⟩ := List.mem_map.mp hw
  have := hx (cr n r) (List.mem_map.mpr ⟨r, hr, rfl⟩)
  rw [← this]
  unfold dotn
  rw [← sm_rev n (fun s => cr n r s * x s)]
  refine sm_congr fun s hs => ?_
  show r.getD s 0 * x (n - 1 - s) = r.getD (n - 1 - (n - 1 - s)) 0 * x (n - 1 - s)
  rw [show n - 1 - (n - 1 - s) = s by omega]
theorem ker_rev' (h : Ker n (L.map row)) : Ker n (L.map (cr n)) := by
  obtain ⟨x, ⟨q, hq, xq⟩, hx⟩ := h
  refine ⟨fun s => x (n - 1 - s), ⟨n - 1 - q, by omega, by show x (n - 1 - (n - 1 - q)) ≠ 0; rw [show n - 1 - (n - 1 - q) = q by omega]; exact xq⟩, fun w hw => ?_⟩
  obtain ⟨r, hr, rfl⟩ := List.mem_map.mp hw
  have := hx (row r) (List.mem_map.mpr ⟨r, hr, rfl⟩)
  rw [← this]
  unfold dotn
  rw [← sm_rev n (fun s => row r s * x s)]
  exact sm_congr fun s hs => rfl
end
theorem wrow_at {r : List Fra} {s : Fra × Fra} {j : Nat} {x : Fra} (h : ∀ y ∈ r ++ [s.1, s.2], 0 < y.2) (hj : (r ++ [s.1, s.2])[j]? = some x) : row (wrow r s) j * x.2 = x.1 * cb (r ++ [s.1, s.2]) := by
  have e : row (wrow r s) j = x.1 * (cb (r ++ [s.1, s.2])).fdiv x.2 := by
    show (wrow r s).getD j 0 = _
    rw [List.getD_eq_getElem?_getD, wrow, List.getElem?_map, hj]
    rfl
  rw [e, Int.mul_assoc, (cb_div h (List.mem_of_getElem? hj)).1]
theorem lrow_at {r : List Fra} {j : Nat} {x : Fra} (h : ∀ y ∈ r, 0 < y.2) (hj : r[j]? = some x) : row (lrow r) j * x.2 = x.1 * byF r := by
  have e : row (lrow r) j = x.1 * (byF r).fdiv x.2 := by
    show (lrow r).getD j 0 = _
    rw [List.getD_eq_getElem?_getD, lrow, List.getElem?_map, hj]
    rfl
  rw [e, Int.mul_assoc, (by_div h (List.mem_of_getElem? hj)).1]
theorem rows_like {n : Nat} {r : List Fra} {s : Fra × Fra} (lr : r.length = n) (h : ∀ y ∈ r ++ [s.1, s.2], 0 < y.2) (x : Nat → Int) : dotn n (row (wrow r s)) x = 0 ↔ dotn n (row (lrow r)) x = 0 := by
  have h0 : ∀ y ∈ r, 0 < y.2 := fun y m => h y (List.mem_append_left _ m)
  have c0 : 0 < cb (r ++ [s.1, s.2]) := (cb_ok (l := r ++ [s.1, s.2]) (f := 1) (by decide) h).1
  have b0 : 0 < byF r := (by_go (l := r) (b := 1) (by decide) h0).1
  have e : byF r * dotn n (row (wrow r s)) x = cb (r ++ [s.1, s.2]) * dotn n (row (lrow r)) x := by
    unfold dotn
    rw [← sm_mul, ← sm_mul]
    refine sm_congr fun j hj => ?_
    obtain ⟨y, hy⟩ : ∃ y, r[j]? = some y := ⟨_, List.getElem?_eq_getElem (by omega)⟩
    have w := wrow_at (s := s) h (show (r ++ [s.1, s.2])[j]? = some y by rw [List.getElem?_append_left (by omega)]; exact hy)
    have l := lrow_at h0 hy
    have y0 := h0 y (List.mem_of_getElem? hy)
    refine Int.eq_of_mul_eq_mul_right (show y.2 ≠ 0 by omega) ?_
    calc byF r * (row (wrow r s) j * x j) * y.2 = byF r * (row (wrow r s) j * y.2) * x j := by ac_rfl
      _ = byF r * (y.1 * cb (r ++ [s.1, s.2])) * x j := by rw [w]
      _ = cb (r ++ [s.1, s.2]) * (y.1 * byF r) * x j := by ac_rfl
      _ = cb (r ++ [s.1, s.2]) * (row (lrow r) j * y.2) * x j := by rw [l]
      _ = cb (r ++ [s.1, s.2]) * (row (lrow r) j * x j) * y.2 := by ac_rfl
  constructor
  · intro z
    rw [z, Int.mul_zero] at e
    rcases Int.mul_eq_zero.mp e.symm with k | k
    · omega
    · exact k
  · intro z
    rw [z, Int.mul_zero] at e
    rcases Int.mul_eq_zero.mp e with k | k
    · omega
    · exact k
theorem ker_like {n : Nat} {rows : List (List Fra)} {sides : List (Fra × Fra)} (wr : ∀ r ∈ rows, r.length = n) (hl : rows.length = sides.length) (h : ∀ x ∈ List.zip rows sides, ∀ y ∈ x.1 ++ [x.2.1, x.2.2], 0 < y.2) : Ker n (((List.zip rows sides).map fun x => wrow x.1 x.2).map row) ↔ Ker n ((rows.map lrow).map row) := by
  have key : ∀ x : Nat → Int, (∀ w ∈ ((List.zip rows sides).map fun x => wrow x.1 x.2).map row, dotn n w x = 0) ↔ ∀ w ∈ (rows.map lrow).map row, dotn n w x = 0 := fun x => by
    constructor
    · intro k w hw
      obtain ⟨w1, hw1, rfl⟩ := List.mem_map.mp hw
      obtain ⟨r, hr, rfl⟩ := List.mem_map.mp hw1
      obtain ⟨i, hi⟩ := List.mem_iff_getElem?.mp hr
      have il := (List.getElem?_eq_some_iff.mp hi).1
      have hs : sides[i]? = some sides[i] := List.getElem?_eq_getElem (by omega)
      have hz : (List.zip rows sides)[i]? = some (r, sides[i]) := List.getElem?_zip_eq_some.mpr ⟨hi, hs⟩
      have mz := List.mem_of_getElem? hz
      exact (rows_like (wr r hr) (h _ mz) x).mp (k _ (List.mem_map.mpr ⟨_, List.mem_map.mpr ⟨_, mz, rfl⟩, rfl⟩))
    · intro k w hw
      obtain ⟨w1, hw1, rfl⟩ := List.mem_map.mp hw
      obtain ⟨z, hz, rfl⟩ := List.mem_map.mp hw1
      have mr := (List.of_mem_zip hz).1
      exact (rows_like (wr z.1 mr) (h z hz) x).mpr (k _ (List.mem_map.mpr ⟨_, List.mem_map.mpr ⟨_, mr, rfl⟩, rfl⟩))
  exact ⟨fun ⟨x, a, b⟩ => ⟨x, a, (key x).mp b⟩, fun ⟨x, a, b⟩ => ⟨x, a, (key x).mpr b⟩⟩
--#split
theorem t30 : (10 : Int) ^ (Int.toNat (30 : Int)) = 1000000000000000000000000000000 := by decide +kernel
theorem t12 : (10 : Int) ^ (Int.toNat (12 : Int)) = 1000000000000 := by decide +kernel
theorem b100 : (2 : Nat) ^ 100 = 1267650600228229401496703205376 := by decide +kernel
theorem b40 : (2 : Nat) ^ 40 = 1099511627776 := by decide +kernel
theorem s8000 {k : Int} (h : k < 1267650600228229401496703205376000) : k < 2 ^ 8000 := Int.lt_of_lt_of_le h (by decide +kernel)
theorem any_fr {l : List Int} (hp : Pot l) {most : Int} (m0 : 0 < most) (m1 : most ≤ 1000000000000000000000000000000) : Ok (m_law_any_fraction (l, most)) fun r => (Lw r.1 ∧ r.1.1.natAbs ≤ most.toNat ∧ r.1.2.natAbs ≤ max 6 most.toNat) ∧ Pot r.2 := by
  unfold m_law_any_fraction mb_law_any_fraction
  simp only [DL.bind_assoc, bind_okN]
  refine Ok.f0 (Ok.bF (Pn := Pot) ((digit hp (by decide) (small8000 (by decide))).bind fun b hb => Ok.ite (fun _ => Ok.rt ⟨⟨⟨show (0 : Int) < 1 by decide, show Int.gcd 0 1 = 1 by decide⟩, Nat.zero_le _, by show (1 : Int).natAbs ≤ _; exact Nat.le_trans (by decide) (Nat.le_max_left _ _)⟩, hb.2.2⟩) fun _ => Ok.nx hb.2.2) ?_)
  intro l1 h1
  refine (digit h1 (show (0 : Int) < 2 * most + 1 by omega) (s8000 (by omega))).bind ?_
  rintro ⟨x, l2⟩ ⟨x0, x1, h2⟩
  have x0 : 0 ≤ x := x0
  have x1 : x < 2 * most + 1 := x1
  refine (digit h2 (show (0 : Int) < 3 by decide) (small8000 (by decide))).bind ?_
  rintro ⟨y, l3⟩ ⟨y0, y1, h3⟩
  have y0 : 0 ≤ y := y0
  have y1 : y < 3 := y1
  obtain ⟨c, ec, c0, c1⟩ : ∃ c, atI [(1 : Int), (6 : Int), most] y = some c ∧ 0 < c ∧ c ≤ max 6 most := by
    have : y = 0 ∨ y = 1 ∨ y = 2 := by omega
    rcases this with rfl | rfl | rfl
    · exact ⟨1, rfl, by decide, by omega⟩
    · exact ⟨6, rfl, by decide, by omega⟩
    · exact ⟨most, rfl, m0, by omega⟩
  refine Ok.somB ec ((digit h3 c0 (s8000 (by omega))).bind ?_)
  rintro ⟨z, l4⟩ ⟨z0, z1, h4⟩
  have z0 : 0 ≤ z := z0
  have z1 : z < c := z1
  have d0 : 0 < 1 + z := by omega
  have db : (1 + z).natAbs < 2 ^ 8000 := by
    have : (1 + z : Int) < 2 ^ 8000 := s8000 (by omega)
    omega
  have g0 : (Int.gcd (x - most) (1 + z) : Int) ≠ 0 := fun e => by
    have := (Int.gcd_eq_zero_iff.mp (show Int.gcd (x - most) (1 + z) = 0 by omega)).2
    omega
  have gb := gcd_lt (n := x - most) (show 1 + z ≠ 0 by omega) db
  refine Ok.bind1 (law_cut_ok d0 (div_ok g0 gb) (div_ok g0 gb)) ?_
  obtain ⟨a1, a2, _, a4, a5⟩ := cutP_spec (n := x - most) d0
  exact Ok.rt ⟨⟨⟨a1, a2⟩, by show (cutP (x - most, 1 + z)).1.natAbs ≤ _; omega, by show (cutP (x - most, 1 + z)).2.natAbs ≤ _; omega⟩, h4⟩
def Rwb (a b n : Nat) (r : List Fra) : Prop := r.length = n ∧ ∀ y ∈ r, 0 < y.2 ∧ y.1.natAbs < 2 ^ a ∧ y.2.natAbs < 2 ^ b
theorem sumF_bits {b : Nat} : ∀ {l : List Fra} {s : Fra} {a : Nat}, s.1.natAbs < 2 ^ a → s.2.natAbs < 2 ^ a → (∀ x ∈ l, x.1.natAbs < 2 ^ b ∧ x.2.natAbs < 2 ^ b) → (l.foldl sumS s).1.natAbs < 2 ^ (a + l.length * (b + 1)) ∧ (l.foldl sumS s).2.natAbs < 2 ^ (a + l.length * (b + 1))
  | [], s, a, h1, h2, _ => by
    rw [List.length_nil, Nat.zero_mul, Nat.add_zero]
    exact ⟨h1, h2⟩
  | x :: l, s, a, h1, h2, h => by
    obtain ⟨x1, x2⟩ := h x List.mem_cons_self
    have sb := sumS_bits h1 h2 x1 x2
    have := sumF_bits (l := l) (s := sumS s x) (a := a + b + 1) sb.1 sb.2 fun y m => h y (List.mem_cons_of_mem _ m)
    rw [List.foldl_cons, List.length_cons, show a + (l.length + 1) * (b + 1) = a + b + 1 + l.length * (b + 1) by rw [Nat.succ_mul]; omega]
    exact this
theorem made_ok {l : List Int} (hp : Pot l) {a b c n : Nat} {rows : List (List Fra)} (n2 : 2 ≤ n) (n16 : n ≤ 16) (lr : rows.length = n) (hr : ∀ r ∈ rows, Rwb a b n r) (ca : a + 2 ≤ c) (cb : b ≤ c) (c60 : c ≤ 60) :
    Ok (m_law_made (l, rows)) fun r => (∃ f, r.1 = rows.take (n - 1) ++ [f] ∧ Rwb (1 + (n - 1) * (c + 1)) (1 + (n - 1) * (c + 1)) n f) ∧ Pot r.2 := by
  have ct : cut rows none (some (-(1 : Int))) = rows.take (n - 1) := by rw [cut_last (by omega), lr]
  unfold m_law_made mb_law_made
  dsimp only
  rw [ct]
  simp only [DL.bind_assoc, bind_okN]
  refine Ok.f0 (Ok.grdB (Nat.le_of_lt (sizeB (by rw [List.length_take]; omega))) ((comp_all Pot (fun _ (t : Int) => -3 ≤ t ∧ t ≤ 3) hp ?_).bind ?_))
  · rintro i x s _ hs
    refine (digit hs (show (0 : Int) < 7 by decide) (small8000 (by decide))).bind fun y hy => Ok.ret ⟨⟨?_, ?_⟩, hy.2.2⟩
    · have := hy.1
      show -3 ≤ y.1 - 3
      omega
    · have := hy.2.1
      show y.1 - 3 ≤ 3
      omega
  rintro ⟨ts, l2⟩ ⟨⟨lt, ht⟩, hl2⟩
  have lt : ts.length = n - 1 := by rw [lt, List.length_take]; omega
  have ht : ∀ (i : Nat) y, ts[i]? = some y → -3 ≤ y ∧ y ≤ 3 := ht
  refine Ok.ltI (Ok.ltI (Ok.bF (Pn := fun f => Rwb (1 + (n - 1) * (c + 1)) (1 + (n - 1) * (c + 1)) n f) (Ok.grdB (rng62 (by omega) (by omega)) (Ok.forR (fun k f => k ≤ n ∧ Rwb (1 + (n - 1) * (c + 1)) (1 + (n - 1) * (c + 1)) k f) ⟨Nat.zero_le _, rfl, fun y m => absurd m List.not_mem_nil⟩ ?_ ?_)) ?_))
  · rintro k x f e ⟨_, lf, hf⟩
    obtain ⟨e1, e2⟩ := rng_get e
    have ex : x = (k : Int) := by omega
    subst ex
    have hk : k < n := by omega
    have lz : (List.zip ts rows).length = n - 1 := by rw [List.length_zip, lt, lr]; omega
    have ar : ∀ r ∈ rows, atI r (k : Int) = some (r.getD k (0, 1)) ∧ (0 < (r.getD k (0, 1)).2 ∧ (r.getD k (0, 1)).1.natAbs < 2 ^ a ∧ (r.getD k (0, 1)).2.natAbs < 2 ^ b) := fun r m => by
      obtain ⟨h1, h2⟩ := hr r m
      have e : r[k]? = some (r.getD k (0, 1)) := by
        rw [List.getD_eq_getElem?_getD, List.getElem?_eq_getElem (by omega)]
        rfl
      exact ⟨atI_nat (by omega) (by rw [Int.toNat_natCast]; exact e), h2 _ (List.mem_of_getElem? e)⟩
    have tb : ∀ x ∈ List.zip ts rows, (x.1 * (x.2.getD k (0, 1)).1).natAbs < 2 ^ c ∧ CMulX x.1 (x.2.getD k (0, 1)).1 := fun x m => by
      obtain ⟨m1, m2⟩ := List.of_mem_zip m
      obtain ⟨i, hi⟩ := List.mem_iff_getElem?.mp m1
      have t3 := ht i _ hi
      have r1 := (ar _ m2).2.2.1
      have t4 : x.1.natAbs < 2 ^ 2 := by
        show x.1.natAbs < 4
        omega
      have := mul_lt2 t4 r1
      exact ⟨pw _ _ (by omega) this, mulx 100 (pw _ _ (by omega) t4) (pw _ _ (by omega) r1)⟩
    have hc := comp_eqF (m := fun (x261 : (Int × (List (Int × Int)))) => ((((R.some (atI x261.2 (k : Int))).bind fun (y264 : (Int × Int)) => (R.guard (CMulX x261.1 y264.1)).bind fun (z270 : Unit) => R.ok (y264, z270)).bind fun (x271 : ((Int × Int) × Unit)) => (R.some (atI x261.2 (k : Int))).bind fun (z278 : (Int × Int)) => R.ok (x271, z278))))
      (f := fun x => ((x.2.getD k (0, 1), ()), x.2.getD k (0, 1))) (k := fun x261 y279 => ((x261.1 * y279.1.1.1), y279.2.2)) (xs := List.zip ts rows) fun x hx => by
        obtain ⟨_, m2⟩ := List.of_mem_zip hx
        rw [(ar _ m2).1, some_ok, bind_okN, guard_ok (tb x hx).2, bind_okN, bind_okN, bind_okN]
    simp only [DL.bind_assoc, bind_okN] at hc
    have Lb : ∀ y ∈ (List.zip ts rows).map (fun x => ((x.1 * (x.2.getD k (0, 1)).1), (x.2.getD k (0, 1)).2)), 0 < y.2 ∧ y.1.natAbs < 2 ^ c ∧ y.2.natAbs < 2 ^ c := fun y hy => by
      obtain ⟨x, hx, rfl⟩ := List.mem_map.mp hy
      have r1 := (ar _ (List.of_mem_zip hx).2).2
      exact ⟨r1.1, (tb x hx).1, pw _ _ cb r1.2.2⟩
    have ll : ((List.zip ts rows).map (fun x => ((x.1 * (x.2.getD k (0, 1)).1), (x.2.getD k (0, 1)).2))).length = n - 1 := by rw [List.length_map, lz]
    have sb := sumF_bits (b := c) (l := (List.zip ts rows).map (fun x => ((x.1 * (x.2.getD k (0, 1)).1), (x.2.getD k (0, 1)).2))) (s := (0, 1)) (a := 1) (by decide) (by decide) fun y hy => (Lb y hy).2
    have D0 := sumF_pos (l := (List.zip ts rows).map (fun x => ((x.1 * (x.2.getD k (0, 1)).1), (x.2.getD k (0, 1)).2))) (s := (0, 1)) (by decide) fun y hy => (Lb y hy).1
    refine Ok.grdB (Nat.le_of_lt (sizeB (show (List.zip ts rows).length ≤ 100000 by omega))) ?_
    refine Ok.bind1 hc ?_
    dsimp only
    rw [ll] at sb
    generalize hL : (List.zip ts rows).map (fun x => ((x.1 * (x.2.getD k (0, 1)).1), (x.2.getD k (0, 1)).2)) = S at *
    have big : 1 + (n - 1) * (c + 1) ≤ 1000 := by
      have : (n - 1) * (c + 1) ≤ 15 * 61 := Nat.mul_le_mul (by omega) (by omega)
      omega
    have db : (sumF S).2.natAbs < 2 ^ 8000 := pw _ _ (by omega) sb.2
    have g0 : (Int.gcd (sumF S).1 (sumF S).2 : Int) ≠ 0 := fun e => by
      have := (Int.gcd_eq_zero_iff.mp (show Int.gcd (sumF S).1 (sumF S).2 = 0 by omega)).2
      have D0 : 0 < (sumF S).2 := D0
      omega
    have gb := gcd_lt (n := (sumF S).1) (show (sumF S).2 ≠ 0 by have D0 : 0 < (sumF S).2 := D0; omega) db
    refine Ok.bind1 (law_sum_ok (b := c) (by omega) (by omega) Lb (div_ok g0 gb) (div_ok g0 gb)) (Ok.grdB (sizeB (show f.length ≤ 100000 by omega)) (Ok.nx ⟨by omega, by rw [List.length_append, lf]; rfl, fun y hy => ?_⟩))
    rcases List.mem_append.mp hy with m | m
    · exact hf y m
    · rw [List.mem_singleton.mp m]
      obtain ⟨a1, _, _, a4, a5⟩ := cutP_spec (n := (sumF S).1) (d := (sumF S).2) D0
      exact ⟨a1, Nat.lt_of_le_of_lt a4 sb.1, Nat.lt_of_le_of_lt a5 sb.2⟩
  · rintro f ⟨_, hf⟩
    rw [rng_len, lr, show ((n : Int) - 0).toNat = n by omega] at hf
    exact hf
  · intro f hf
    refine Ok.grdB (Nat.le_of_lt (sizeB (by rw [List.length_take]; simp; omega))) (Ok.rt ⟨⟨f, rfl, hf⟩, hl2⟩)
theorem swap_perm {α : Type} {l : List α} {i j : Nat} {x y : α} (hi : l[i]? = some x) (hj : l[j]? = some y) : ((l.set i y).set j x).Perm l := by
  have p1 := set_perm (x := y) hi
  have h2 : (l.set i y)[j]? = some y := by
    rw [List.getElem?_set]
    by_cases e : i = j
    · rw [if_pos e, if_pos (List.getElem?_eq_some_iff.mp hi).1]
    · rw [if_neg e]
      exact hj
  have p2 := set_perm (x := x) h2
  exact List.Perm.cons_inv (p2.trans p1)
--#split
def Gen (n : Nat) (rows : List (List Fra)) : Prop := rows.length = n ∧ 1 ≤ n ∧ n ≤ 16 ∧ ∃ (a b a' b' : Nat) (A B : List (List Fra)), rows.Perm (A ++ B) ∧ (∀ r ∈ A, Rwb a b n r) ∧ (∀ r ∈ B, Rwb a' b' n r) ∧ (4 ≤ a ∧ a ≤ a' ∧ b ≤ b' ∧ a' ≤ 200 ∧ b' ≤ 200) ∧ A.length * (a + b * n + 9) + B.length * (a' + b' * n + 9) ≤ 3200
theorem comp_rows {l : List Int} (hp : Pot l) {n : Nat} (n16 : n ≤ 16) {most : Int} (m0 : 0 < most) (m1 : most ≤ 1000000000000000000000000000000) {a b : Nat} (ha : most.toNat < 2 ^ a) (hb : max 6 most.toNat < 2 ^ b) :
    Ok (compR (compF (fun (x149 : Int) (s148 : (List Int)) => R.ok ()) (fun (z214 : Unit) => true) (fun (x149 : Int) (s148 : (List Int)) => (((R.guard (rngOk (n : Int))).bind fun (b151 : Unit) => (R.guard (List.length (rng 0 (n : Int)) ≤ sizeLine)).bind fun _ => compR (compF (fun (x153 : Int) (s152 : (List Int)) => R.ok ()) (fun (z210 : Unit) => true) (fun (x153 : Int) (s152 : (List Int)) => ((m_law_any_fraction (s152, most)).bind fun (y209 : ((Int × Int) × (List Int))) => R.ok (y209.1, y209.2))) Prod.fst Prod.snd) (rng 0 (n : Int)) [] s148).bind fun (y213 : ((List (Int × Int)) × (List Int))) => R.ok (y213.1, y213.2))) Prod.fst Prod.snd) (rng 0 (n : Int)) [] l)
      fun r => (r.1.length = n ∧ ∀ x ∈ r.1, Rwb a b n x) ∧ Pot r.2 := by
  have ln : (rng 0 (n : Int)).length = n := by rw [rng_len]; omega
  refine (comp_all Pot (fun _ r => Rwb a b n r) hp ?_).mono fun r hr => ⟨⟨by rw [hr.1.1, ln], fun x hx => ?_⟩, hr.2⟩
  · rintro i x s _ hs
    simp only [DL.bind_assoc]
    refine Ok.grdB (rng62 (by omega) (by omega)) (Ok.grdB (Nat.le_of_lt (sizeB (by omega))) ((comp_all Pot (fun _ (y : Fra) => 0 < y.2 ∧ y.1.natAbs < 2 ^ a ∧ y.2.natAbs < 2 ^ b) hs ?_).bind fun r hr => Ok.ret ⟨⟨by rw [hr.1.1, ln], fun y hy => ?_⟩, hr.2⟩))
    · rintro j y s _ hs
      refine (any_fr hs m0 m1).bind fun r hr => Ok.ret ⟨⟨hr.1.1.1, ?_, ?_⟩, hr.2⟩
      · exact Nat.lt_of_le_of_lt hr.1.2.1 ha
      · exact Nat.lt_of_le_of_lt hr.1.2.2 hb
    · obtain ⟨j, hj⟩ := List.mem_iff_getElem?.mp hy
      exact hr.1.2 j y hj
  · obtain ⟨j, hj⟩ := List.mem_iff_getElem?.mp hx
    exact hr.1.2 j x hj
theorem rows_ok {l : List Int} (hp : Pot l) : Ok (m_law_rows l) fun r => (∃ n, Gen n r.1) ∧ Pot r.2 := by
  unfold m_law_rows mb_law_rows
  simp only [DL.bind_assoc, bind_okN, t30, t12]
  refine Ok.f0 ((digit hp (by decide) (small8000 (by decide))).bind ?_)
  rintro ⟨k0, l1⟩ ⟨k00, k01, h1⟩
  have k00 : 0 ≤ k0 := k00
  have k01 : k0 < 5 := k01
  refine Ok.ltI ((digit h1 (by decide) (small8000 (by decide))).bind ?_)
  rintro ⟨y, l2⟩ ⟨y0, y1, h2⟩
  have y0 : 0 ≤ y := y0
  have y1 : y < 3 := y1
  obtain ⟨most, em, m0, m1⟩ : ∃ c, atI [(3 : Int), (12 : Int), 1000000000000000000000000000000] y = some c ∧ 3 ≤ c ∧ c ≤ 1000000000000000000000000000000 := by
    have : y = 0 ∨ y = 1 ∨ y = 2 := by omega
    rcases this with rfl | rfl | rfl
    · exact ⟨3, rfl, by decide, by decide⟩
    · exact ⟨12, rfl, by decide, by decide⟩
    · exact ⟨1000000000000000000000000000000, rfl, by decide, by decide⟩
  refine Ok.somB em (Ok.ltI ?_)
  refine Ok.bF (Pn := fun (s : List Int × Int × Int) => Pot s.1 ∧ ((1 ≤ s.2.1 ∧ s.2.1 ≤ 5 ∧ 3 ≤ s.2.2 ∧ s.2.2 ≤ 1000000000000000000000000000000) ∨ (6 ≤ s.2.1 ∧ s.2.1 ≤ 16 ∧ s.2.2 = 4))) ((digit h2 (by decide) (small8000 (by decide))).bind fun b hb => Ok.ite (fun _ => (digit hb.2.2 (by decide) (small8000 (by decide))).bind fun c hc => Ok.nx ⟨hc.2.2, .inr ⟨?_, ?_, rfl⟩⟩) fun _ => Ok.nx ⟨hb.2.2, .inl ⟨?_, ?_, m0, m1⟩⟩) ?_
  · have := hc.1
    show 6 ≤ 6 + c.1
    omega
  · have := hc.2.1
    show 6 + c.1 ≤ 16
    omega
  · show 1 ≤ 1 + k0
    omega
  · show 1 + k0 ≤ 5
    omega
  rintro ⟨l3, many, most⟩ ⟨h3, hm⟩
  have h3 : Pot l3 := h3
  have hm : (1 ≤ many ∧ many ≤ 5 ∧ 3 ≤ most ∧ most ≤ 1000000000000000000000000000000) ∨ (6 ≤ many ∧ many ≤ 16 ∧ most = 4) := hm
  obtain ⟨n, en⟩ : ∃ n : Nat, many = (n : Int) := ⟨many.toNat, by omega⟩
  subst en
  have n1 : 1 ≤ n := by omega
  have n16 : n ≤ 16 := by omega
  refine Ok.bind (P := fun (b : Bool × List Int) => Pot b.2 ∧ (b.1 = true → 2 ≤ n)) ?_ ?_
  · refine Ok.ite (fun e => (digit h3 (by decide) (small8000 (by decide))).bind fun c hc => Ok.ret ⟨hc.2.2, fun _ => ?_⟩) fun _ => Ok.ret ⟨h3, fun z => nomatch z⟩
    have e : (n : Int) > 1 := of_decide_eq_true e
    omega
  rintro ⟨made, l4⟩ ⟨h4, n2⟩
  have h4 : Pot l4 := h4
  have n2 : made = true → 2 ≤ n := n2
  refine Ok.ltI ?_
  refine Ok.bF (Pn := fun m => m = if made = true then min most 1000000000000 else most) (Ok.ite (fun e => Ok.ltI (Ok.nx (by rw [if_pos e]))) fun e => Ok.nx (by have e : made = false := e; rw [if_neg (by rw [e]; decide)])) ?_
  rintro mst emst
  refine Ok.grdB (rng62 (by omega) (by omega)) (Ok.grdB (Nat.le_of_lt (sizeB (by rw [rng_len]; omega))) ?_)
  -- how many bits
  obtain ⟨a, b, ha, hb, m2, m3, hab⟩ : ∃ a b : Nat, mst.toNat < 2 ^ a ∧ max 6 mst.toNat < 2 ^ b ∧ 0 < mst ∧ mst ≤ 1000000000000000000000000000000 ∧
      ((made = false ∧ n ≤ 5 ∧ a = 100 ∧ b = 100) ∨ (made = true ∧ n ≤ 5 ∧ a = 40 ∧ b = 40) ∨ (a = 4 ∧ b = 3)) := by
    have b3 : (2 : Nat) ^ 3 = 8 := rfl
    have b4 : (2 : Nat) ^ 4 = 16 := rfl
    rcases hm with ⟨_, c2, c3, c4⟩ | ⟨c1, _, rfl⟩
    · cases made with
      | true =>
        rw [if_pos rfl] at emst
        exact ⟨40, 40, by rw [b40]; omega, by rw [b40]; omega, by omega, by omega, .inr (.inl ⟨rfl, by omega, rfl, rfl⟩)⟩
      | false =>
        rw [if_neg (by decide)] at emst
        exact ⟨100, 100, by rw [b100]; omega, by rw [b100]; omega, by omega, by omega, .inl ⟨rfl, by omega, rfl, rfl⟩⟩
    · have : mst = 4 := by
        rw [emst]
        split
        · rfl
        · rfl
      exact ⟨4, 3, by rw [b4]; omega, by rw [b3]; omega, by omega, by omega, .inr (.inr ⟨rfl, rfl⟩)⟩
  dsimp only
  have cr := comp_rows h4 n16 m2 m3 ha hb
  simp only [DL.bind_assoc, bind_okN] at cr
  refine Ok.bind cr ?_
  rintro ⟨rows, l5⟩ ⟨⟨lr, hr⟩, h5⟩
  have lr : rows.length = n := lr
  have hr : ∀ x ∈ rows, Rwb a b n x := hr
  have h5 : Pot l5 := h5
  refine Ok.ltI (Ok.bF (Pn := fun (s : List Int × List (List Fra)) => Pot s.1 ∧ Gen n s.2) ?_ ?_)
  · refine Ok.ite (fun e => ?_) fun e => Ok.nx ⟨h5, lr, n1, n16, a, b, a, b, rows, [], by rw [List.append_nil], hr, fun _ m => absurd m List.not_mem_nil, by omega, ?_⟩
    · have n2 := n2 e
      obtain ⟨c, ca, cb, c60, hc⟩ : ∃ c : Nat, a + 2 ≤ c ∧ b ≤ c ∧ c ≤ 60 ∧ ((n ≤ 5 ∧ a = 40 ∧ b = 40 ∧ c = 42) ∨ (a = 4 ∧ b = 3 ∧ c = 6)) := by
        rcases hab with ⟨z, _⟩ | ⟨_, c1, rfl, rfl⟩ | ⟨rfl, rfl⟩
        · rw [e] at z
          cases z
        · exact ⟨42, by omega, by omega, by omega, .inl ⟨c1, rfl, rfl, rfl⟩⟩
        · exact ⟨6, by omega, by omega, by omega, .inr ⟨rfl, rfl, rfl⟩⟩
      refine (made_ok h5 n2 n16 lr hr ca cb c60).bind ?_
      rintro ⟨v, l6⟩ ⟨⟨f, ev, hf⟩, h6⟩
      have ev : v = rows.take (n - 1) ++ [f] := ev
      have lv : v.length = n := by rw [ev, List.length_append, List.length_take, List.length_singleton]; omega
      refine Ok.ltI ((digit h6 (show (0 : Int) < (n : Int) by omega) (small8000 (by omega))).bind ?_)
      rintro ⟨k, l7⟩ ⟨k0, k1, h7⟩
      have k0 : 0 ≤ k := k0
      have k1 : k < (n : Int) := k1
      obtain ⟨kn, ekn⟩ : ∃ kn : Nat, k = (kn : Int) := ⟨k.toNat, by omega⟩
      subst ekn
      have g1 : v[n - 1]? = some v[n - 1] := List.getElem?_eq_getElem (by omega)
      have g2 : v[kn]? = some v[kn] := List.getElem?_eq_getElem (by omega)
      have a1 : atI v (-(1 : Int)) = some v[n - 1] := by
        unfold atI ixN
        rw [if_neg (by omega), if_pos (by omega)]
        show v[_]? = _
        rw [show (-(1 : Int) + ((v.length : Nat) : Int)).toNat = n - 1 by omega]
        exact g1
      have a2 : atI v (kn : Int) = some v[kn] := atI_nat (by omega) (by rw [Int.toNat_natCast]; exact g2)
      have i1 : ixN v.length (kn : Int) = some kn := by
        unfold ixN
        rw [if_pos (by omega), if_pos (by omega)]
        rfl
      have i2 : ∀ z : List Fra, ixN (List.set v kn z).length (-(1 : Int)) = some (n - 1) := fun z => by
        unfold ixN
        rw [List.length_set, if_neg (by omega), if_pos (by omega)]
        show some _ = some _
        congr 1
        omega
      have pm := swap_perm g2 g1
      refine Ok.ltI (Ok.somB a1 (Ok.somB a2 (Ok.somB i1 (Ok.somB (i2 _) (Ok.nx ⟨h7, ?_, n1, n16, a, b, 1 + (n - 1) * (c + 1), 1 + (n - 1) * (c + 1), rows.take (n - 1), [f], ?_, fun r m => hr r (List.mem_of_mem_take m), fun r m => ?_, ?_, ?_⟩)))))
      · show (List.set (List.set v kn v[n - 1]) (n - 1) v[kn]).length = n
        rw [List.length_set, List.length_set, lv]
      · rw [← ev]
        exact pm
      · rw [List.mem_singleton.mp m]
        exact hf
      · have q : 1 * (c + 1) ≤ (n - 1) * (c + 1) := Nat.mul_le_mul_right _ (by omega)
        rcases hc with ⟨c1, rfl, rfl, rfl⟩ | ⟨rfl, rfl, rfl⟩
        · have q2 : (n - 1) * 43 ≤ 4 * 43 := Nat.mul_le_mul_right _ (by omega)
          omega
        · have q2 : (n - 1) * 7 ≤ 15 * 7 := Nat.mul_le_mul_right _ (by omega)
          omega
      · rw [List.length_take, List.length_singleton, lr, Nat.min_eq_left (by omega)]
        rcases hc with ⟨c1, rfl, rfl, rfl⟩ | ⟨rfl, rfl, rfl⟩
        · have : n = 2 ∨ n = 3 ∨ n = 4 ∨ n = 5 := by omega
          rcases this with e | e | e | e <;> rw [e] <;> decide
        · have q2 : (n - 1) * 7 ≤ 15 * 7 := Nat.mul_le_mul_right _ (by omega)
          have q3 : (n - 1) * (4 + 3 * n + 9) ≤ 15 * 61 := Nat.mul_le_mul (by omega) (by omega)
          have q4 : (1 + (n - 1) * (6 + 1)) * n ≤ 106 * 16 := Nat.mul_le_mul (by omega) n16
          omega
    · rw [List.length_nil, Nat.zero_mul, Nat.add_zero, lr]
      rcases hab with ⟨_, c1, rfl, rfl⟩ | ⟨_, c1, rfl, rfl⟩ | ⟨rfl, rfl⟩
      · have : n * (100 + 100 * n + 9) ≤ 5 * 609 := Nat.mul_le_mul c1 (by omega)
        omega
      · have : n * (40 + 40 * n + 9) ≤ 5 * 249 := Nat.mul_le_mul c1 (by omega)
        omega
      · have : n * (4 + 3 * n + 9) ≤ 16 * 61 := Nat.mul_le_mul n16 (by omega)
        omega
  · rintro ⟨l8, v⟩ ⟨h8, hg⟩
    have hg : Gen n v := hg
    refine Ok.grdB (Nat.le_of_lt (sizeB (show v.length ≤ 100000 by have := hg.1; omega))) (Ok.rt ⟨⟨n, ?_⟩, h8⟩)
    show Gen n (List.map (fun x => x) (List.filter (fun _ => true) v))
    rw [List.filter_eq_self.mpr (fun _ _ => rfl), List.map_id' v]
    exact hg
--#split
theorem prd_le {l : List Fra} {b : Nat} (h : ∀ x ∈ l, x.2.natAbs < 2 ^ b) : prd l ≤ 2 ^ (b * l.length) := prd_bits fun x m => Nat.le_of_lt (h x m)
def Sd (s : Fra × Fra) : Prop := (Lw s.1 ∧ s.1.1.natAbs < 2 ^ 4 ∧ s.1.2.natAbs < 2 ^ 4) ∧ Lw s.2 ∧ s.2.1.natAbs < 2 ^ 4 ∧ s.2.2.natAbs < 2 ^ 4
section
variable {n a b : Nat} {r : List Fra} {s : Fra × Fra}
theorem all_pos (h : Rwb a b n r) (hs : Sd s) : ∀ y ∈ r ++ [s.1, s.2], 0 < y.2 := fun y m => by
  rcases List.mem_append.mp m with m | m
  · exact (h.2 y m).1
  · rcases List.mem_cons.mp m with rfl | m
    · exact hs.1.1.1
    · rw [List.mem_singleton.mp m]
      exact hs.2.1.1
theorem prd_all (h : Rwb a b n r) (hs : Sd s) : prd (r ++ [s.1, s.2]) ≤ 2 ^ (b * n + 8) := by
  have h1 := prd_le (l := r) (b := b) fun x m => (h.2 x m).2.2
  have h2 := prd_le (l := [s.1, s.2]) (b := 4) fun x m => by
    rcases List.mem_cons.mp m with rfl | m
    · exact hs.1.2.2
    · rw [List.mem_singleton.mp m]
      exact hs.2.2.2
  rw [h.1] at h1
  have h2 : prd [s.1, s.2] ≤ 2 ^ 8 := h2
  rw [prd_app, Nat.pow_add]
  exact Nat.mul_le_mul h1 h2
theorem mul_bits {x y : Int} {u v : Nat} (h1 : x.natAbs < 2 ^ u) (h2 : y.natAbs ≤ 2 ^ v) : (x * y).natAbs < 2 ^ (u + v) := by
  rw [Int.natAbs_mul, Nat.pow_add]
  exact Nat.lt_of_le_of_lt (Nat.mul_le_mul_left _ h2) (Nat.mul_lt_mul_of_pos_right h1 (Nat.pow_pos (by decide)))
theorem wrow_bits (h : Rwb a b n r) (hs : Sd s) (a4 : 4 ≤ a) : blr (wrow r s) ≤ a + b * n + 9 := by
  refine Nat.le_trans (blr_le (b := a + (b * n + 8)) (by omega) fun x m => ?_) (by omega)
  obtain ⟨y, hy, rfl⟩ := List.mem_map.mp m
  have h2 := (cb_div (all_pos h hs) hy).2
  refine mul_bits ?_ (Nat.le_trans h2 (prd_all h hs))
  rcases List.mem_append.mp hy with m | m
  · exact (h.2 y m).2.1
  · rcases List.mem_cons.mp m with rfl | m
    · exact pw _ _ a4 hs.1.2.1
    · rw [List.mem_singleton.mp m]
      exact pw _ _ a4 hs.2.2.1
theorem lrow_bits (h : Rwb a b n r) (a4 : 4 ≤ a) : blr (lrow r) ≤ a + b * n + 9 := by
  refine Nat.le_trans (blr_le (b := a + b * n) (by omega) fun x m => ?_) (by omega)
  obtain ⟨y, hy, rfl⟩ := List.mem_map.mp m
  have h2 := (by_div (fun y m => (h.2 y m).1) hy).2
  have h3 := prd_le (l := r) (b := b) fun x m => (h.2 x m).2.2
  rw [h.1] at h3
  exact mul_bits (h.2 y hy).2.1 (Nat.le_trans h2 h3)
end
structure Fit (n : Nat) (rows : List (List Fra)) (sides : List (Fra × Fra)) : Prop where
  n1 : 1 ≤ n
  n16 : n ≤ 16
  lr : rows.length = n
  ls : sides.length = n
  wr : ∀ r ∈ rows, r.length = n
  rb : ∀ r ∈ rows, ∀ y ∈ r, 0 < y.2 ∧ y.1.natAbs < 2 ^ 200 ∧ y.2.natAbs < 2 ^ 200
  sb : ∀ s ∈ sides, Sd s
  pr : ∀ x ∈ List.zip rows sides, prd (x.1 ++ [x.2.1, x.2.2]) < 2 ^ 8000
  pl : ∀ r ∈ rows, prd r < 2 ^ 8000
  tw : (((List.zip rows sides).map fun x => wrow x.1 x.2).map blr).sum ≤ 3200
  tl : ((rows.map lrow).map blr).sum ≤ 3200
theorem sum_le {α : Type} {f g : α → Nat} : ∀ {l : List α}, (∀ x ∈ l, f x ≤ g x) → (l.map f).sum ≤ (l.map g).sum
  | [], _ => Nat.le_refl _
  | x :: l, h => by
    rw [List.map_cons, List.map_cons, List.sum_cons, List.sum_cons]
    have h1 := h x List.mem_cons_self
    have h2 := sum_le (l := l) fun y m => h y (List.mem_cons_of_mem _ m)
    omega
theorem sum_const {α : Type} {f : α → Nat} {c : Nat} : ∀ {l : List α}, (∀ x ∈ l, f x ≤ c) → (l.map f).sum ≤ l.length * c
  | [], _ => Nat.zero_le _
  | x :: l, h => by
    rw [List.map_cons, List.sum_cons, List.length_cons, Nat.succ_mul]
    have h1 := h x List.mem_cons_self
    have h2 := sum_const (l := l) fun y m => h y (List.mem_cons_of_mem _ m)
    omega
theorem fit_of {n : Nat} {rows : List (List Fra)} {sides : List (Fra × Fra)} (g : Gen n rows) (ls : sides.length = n) (sb : ∀ s ∈ sides, Sd s) : Fit n rows sides := by
  classical
  obtain ⟨lr, n1, n16, a, b, a', b', A, B, pm, hA, hB, ⟨a4, aa, bb, a2, b2⟩, hc⟩ := g
  have cl : ∀ r ∈ rows, Rwb a b n r ∨ Rwb a' b' n r := fun r hr => (List.mem_append.mp (pm.mem_iff.mp hr)).imp (hA r) (hB r)
  have any : ∀ r ∈ rows, ∃ u v, (Rwb u v n r) ∧ 4 ≤ u ∧ u ≤ 200 ∧ v ≤ 200 := fun r hr => (cl r hr).elim (fun h => ⟨a, b, h, a4, by omega, by omega⟩) fun h => ⟨a', b', h, by omega, a2, b2⟩
  have bn : b * n ≤ b' * n := Nat.mul_le_mul_right _ bb
  let co : List Fra → Nat := fun r => if Rwb a b n r then a + b * n + 9 else a' + b' * n + 9
  have sumco : (rows.map co).sum ≤ 3200 := by
    rw [(pm.map co).sum_nat, List.map_append, List.sum_append]
    have h1 := sum_const (l := A) (f := co) (c := a + b * n + 9) fun r hr => by show (if Rwb a b n r then _ else _) ≤ _; rw [if_pos (hA r hr)]; exact Nat.le_refl _
    have h2 := sum_const (l := B) (f := co) (c := a' + b' * n + 9) fun r hr => by
      show (if Rwb a b n r then _ else _) ≤ _
      split <;> omega
    omega
  have cob : ∀ r ∈ rows, ∃ u v, Rwb u v n r ∧ 4 ≤ u ∧ u + v * n + 9 ≤ co r := fun r hr => by
    by_cases c : Rwb a b n r
    · exact ⟨a, b, c, a4, by show _ ≤ (if Rwb a b n r then _ else _); rw [if_pos c]; exact Nat.le_refl _⟩
    · exact ⟨a', b', (cl r hr).resolve_left c, by omega, by show _ ≤ (if Rwb a b n r then _ else _); rw [if_neg c]; exact Nat.le_refl _⟩
  refine ⟨n1, n16, lr, ls, fun r hr => ?_, fun r hr y hy => ?_, sb, fun x hx => ?_, fun r hr => ?_, ?_, ?_⟩
  · obtain ⟨u, v, h, _⟩ := any r hr
    exact h.1
  · obtain ⟨u, v, h, _, u2, v2⟩ := any r hr
    exact ⟨(h.2 y hy).1, pw _ _ u2 (h.2 y hy).2.1, pw _ _ v2 (h.2 y hy).2.2⟩
  · obtain ⟨m1, m2⟩ := List.of_mem_zip hx
    obtain ⟨u, v, h, _, u2, v2⟩ := any _ m1
    have q : v * n ≤ 200 * 16 := Nat.mul_le_mul v2 n16
    exact Nat.lt_of_le_of_lt (prd_all h (sb _ m2)) (Nat.pow_lt_pow_right (by decide) (by omega))
  · obtain ⟨u, v, h, _, u2, v2⟩ := any _ hr
    have q : v * n ≤ 200 * 16 := Nat.mul_le_mul v2 n16
    have := prd_le (l := r) (b := v) fun x m => (h.2 x m).2.2
    rw [h.1] at this
    exact Nat.lt_of_le_of_lt this (Nat.pow_lt_pow_right (by decide) (by omega))
  · rw [List.map_map]
    have h1 : ((List.zip rows sides).map (blr ∘ fun x => wrow x.1 x.2)).sum ≤ ((List.zip rows sides).map fun x => co x.1).sum := sum_le fun x hx => by
      obtain ⟨m1, m2⟩ := List.of_mem_zip hx
      obtain ⟨u, v, h, u4, hc⟩ := cob _ m1
      exact Nat.le_trans (wrow_bits h (sb _ m2) u4) hc
    have h2 : (List.zip rows sides).map (fun x => co x.1) = rows.map co := by
      have : (List.zip rows sides).map Prod.fst = rows := List.map_fst_zip (by omega)
      conv => rhs; rw [← this, List.map_map]
      rfl
    rw [h2] at h1
    omega
  · rw [List.map_map]
    have h1 : (rows.map (blr ∘ lrow)).sum ≤ (rows.map co).sum := sum_le fun x hx => by
      obtain ⟨u, v, h, u4, hc⟩ := cob _ hx
      exact Nat.le_trans (lrow_bits h u4) hc
    omega
theorem b200 : (2 : Nat) ^ 200 < 10 ^ 100 := by decide +kernel
theorem fr_short {f : Fra} (h : f.1.natAbs < 2 ^ 200 ∧ f.2.natAbs < 2 ^ 200) : shortD 100 (eP2 D.int D.int f) := by
  show shortD 100 (.tuple [.int f.1, .int f.2])
  rw [shortD, shortDs, shortDs, shortDs, shortD, shortD]
  exact ⟨Nat.lt_trans h.1 b200, Nat.lt_trans h.2 b200, trivial⟩
theorem rep_fit {n : Nat} {rows : List (List Fra)} {sides : List (Fra × Fra)} (F : Fit n rows sides) : repOk ((eP2 (eT (eT (eP2 D.int D.int))) (eT (eP2 (eP2 D.int D.int) (eP2 D.int D.int)))) (rows, sides)) := by
  have w2 : ∀ f : Fra, wide 100 (eP2 D.int D.int f) = 217 := fun f => by
    show wide 100 (.tuple [.int f.1, .int f.2]) = _
    simp [wide, wides]
  have d2 : ∀ f : Fra, deepD (eP2 D.int D.int f) = 1 := fun f => by
    show deepD (.tuple [.int f.1, .int f.2]) = _
    simp [deepD, deepDs]
  refine repOk_of (B := 100) (by decide) (by decide) ?_ rfl ?_ ?_
  · show shortD 100 (.tuple [eT (eT (eP2 D.int D.int)) rows, eT (eP2 (eP2 D.int D.int) (eP2 D.int D.int)) sides])
    rw [shortD, shortDs, shortDs, shortDs]
    refine ⟨?_, ?_, trivial⟩
    · show shortD 100 (.tuple (rows.map (eT (eP2 D.int D.int))))
      rw [shortD]
      refine shortDs_map fun r hr => ?_
      show shortD 100 (.tuple (r.map (eP2 D.int D.int)))
      rw [shortD]
      exact shortDs_map fun y hy => fr_short (F.rb r hr y hy).2
    · show shortD 100 (.tuple (sides.map (eP2 (eP2 D.int D.int) (eP2 D.int D.int))))
      rw [shortD]
      refine shortDs_map fun s hs => ?_
      show shortD 100 (.tuple [eP2 D.int D.int s.1, eP2 D.int D.int s.2])
      rw [shortD, shortDs, shortDs, shortDs]
      have h := F.sb s hs
      exact ⟨fr_short ⟨pw 4 200 (by decide) h.1.2.1, pw 4 200 (by decide) h.1.2.2⟩, fr_short ⟨pw 4 200 (by decide) h.2.2.1, pw 4 200 (by decide) h.2.2.2⟩, trivial⟩
  · have h1 := deepDs_map (f := eT (eP2 D.int D.int)) (xs := rows) (c := 2) fun r _ => by
      have := deepDs_map (f := eP2 D.int D.int) (xs := r) (c := 1) fun f _ => by rw [d2]; exact Nat.le_refl _
      show deepD (.tuple (r.map _)) ≤ 2
      rw [deepD]
      omega
    have h2 := deepDs_map (f := eP2 (eP2 D.int D.int) (eP2 D.int D.int)) (xs := sides) (c := 2) fun s _ => by
      show deepD (.tuple [eP2 D.int D.int s.1, eP2 D.int D.int s.2]) ≤ 2
      rw [deepD, deepDs, deepDs, deepDs, d2, d2]
      decide
    show deepD (.tuple [.tuple (rows.map (eT (eP2 D.int D.int))), .tuple (sides.map (eP2 (eP2 D.int D.int) (eP2 D.int D.int)))]) ≤ 60
    simp only [deepD, deepDs]
    omega
  · have h1 := wides_map (B := 100) (f := eT (eP2 D.int D.int)) (xs := rows) (c := 3600) fun r hr => by
      have h3 := wides_map (B := 100) (f := eP2 D.int D.int) (xs := r) (c := 217) fun f _ => by rw [w2]; exact Nat.le_refl _
      have := F.wr r hr
      have := F.n16
      show wide 100 (.tuple (r.map _)) ≤ 3600
      rw [wide]
      omega
    have h2 := wides_map (B := 100) (f := eP2 (eP2 D.int D.int) (eP2 D.int D.int)) (xs := sides) (c := 500) fun s _ => by
      show wide 100 (.tuple [eP2 D.int D.int s.1, eP2 D.int D.int s.2]) ≤ 500
      rw [wide, wides, wides, wides, w2, w2]
      decide
    have := F.lr
    have := F.ls
    have := F.n16
    show wide 100 (.tuple [.tuple (rows.map (eT (eP2 D.int D.int))), .tuple (sides.map (eP2 (eP2 D.int D.int) (eP2 D.int D.int)))]) ≤ 1000000
    simp only [wide, wides]
    omega
theorem is_fr_ok {f : Fra} (h : Lw f) : m_law_is_fraction f = .ok true := by
  refine Ok.eq ?_
  unfold m_law_is_fraction mb_law_is_fraction
  refine Ok.f0 (Ok.bF (Pn := fun _ => True) (Ok.iteF rfl (Ok.nx trivial)) fun _ _ => Ok.bF (Pn := fun _ => True) (Ok.forC (fun _ => True) trivial fun x _ _ _ => Ok.bF (Pn := fun _ => True) (Ok.iteF rfl (Ok.nx trivial)) fun _ _ => Ok.nx trivial) fun _ _ => ?_)
  have e : Int.gcd (f.1.natAbs : Int) f.2 = Int.gcd f.1 f.2 := by simp [Int.gcd]
  have h1 := h.1
  rw [and2_ok, if_pos (decide_eq_true h.1), abs_ite, law_common_ok (by omega) (by omega), e, h.2, bind_okN, bind_okN]
  exact Ok.rt rfl
theorem is_drawing_ok {ps : List (Fra × Fra)} {n : Nat} (hl : ps.length = n) (n16 : n ≤ 16) (h : ∀ p ∈ ps, Lw p.1 ∧ Lw p.2) : m_law_is_drawing (ps, (n : Int)) = .ok true := by
  refine Ok.eq ?_
  unfold m_law_is_drawing mb_law_is_drawing
  refine Ok.f0 (Ok.bF (Pn := fun _ => True) (Ok.iteF ?_ (Ok.nx trivial)) fun _ _ => Ok.bF (Pn := fun _ => True) (Ok.forC (fun _ => True) trivial ?_) fun _ _ => Ok.rt rfl)
  · show (false || !decide (((ps.length : Nat) : Int) = (n : Int))) = false
    rw [hl]
    simp
  · rintro p hp _ _
    have hc := comp_eq (m := fun (x736 : (Int × Int)) => m_law_is_fraction x736) (f := fun _ => true) (xs := [p.1, p.2]) fun x hx => by
      rcases List.mem_cons.mp hx with rfl | m
      · exact is_fr_ok (h p hp).1
      · rw [List.mem_singleton.mp m]
        exact is_fr_ok (h p hp).2
    refine Ok.bF (Pn := fun _ => True) (Ok.bind1 (a := false) ?_ (Ok.iteF rfl (Ok.nx trivial))) fun _ _ => Ok.nx trivial
    rw [or2_ok, if_neg (show ¬ (!isTup (eP2 (eP2 D.int D.int) (eP2 D.int D.int) p)) = true from fun z => nomatch z), or2_ok, if_neg (by decide), bind_okN, guard_ok (show List.length [p.1, p.2] ≤ sizeLine from Nat.le_of_lt (sizeB (by simp))), bind_okN, hc, bind_okN]
    rfl
theorem told_comes {n : Nat} {rows : List (List Fra)} {sides : List (Fra × Fra)} (F : Fit n rows sides) {Q : List (List Int)} {ps : List (Fra × Fra)} (pm : Q.Perm ((List.zip rows sides).map fun x => wrow x.1 x.2)) (d0 : det n (fnr Q) ≠ 0) (sv : Solv n Q ps) {x : List Fra × (Fra × Fra)} (hx : x ∈ List.zip rows sides) :
    m_law_comes (x.1, ps, x.2, (0 : Int)) = .ok true ∧ m_law_comes (x.1, ps, x.2, (1 : Int)) = .ok true := by
  obtain ⟨m1, m2⟩ := List.of_mem_zip hx
  have lrow := F.wr _ m1
  have hs := F.sb _ m2
  have pos : ∀ y ∈ x.1 ++ [x.2.1, x.2.2], 0 < y.2 := fun y m => by
    rcases List.mem_append.mp m with m | m
    · exact (F.rb _ m1 y m).1
    · rcases List.mem_cons.mp m with rfl | m
      · exact hs.1.1.1
      · rw [List.mem_singleton.mp m]
        exact hs.2.1.1
  have c0 : 0 < cb (x.1 ++ [x.2.1, x.2.2]) := (cb_ok (l := x.1 ++ [x.2.1, x.2.2]) (f := 1) (by decide) pos).1
  have mw : wrow x.1 x.2 ∈ Q := pm.mem_iff.mpr (List.mem_map.mpr ⟨x, hx, rfl⟩)
  have lq : Q.length = n := by rw [pm.length_eq, List.length_map, List.length_zip, F.lr, F.ls, Nat.min_self]
  obtain ⟨i, hi⟩ := List.mem_iff_getElem?.mp mw
  have il : i < n := by rw [← lq]; exact (List.getElem?_eq_some_iff.mp hi).1
  have er : ∀ j, fnr Q i j = row (wrow x.1 x.2) j := fun j => by
    have := getD_some (show i < Q.length by omega)
    rw [hi] at this
    have := Option.some.inj this
    show (Q.getD i []).getD j 0 = (wrow x.1 x.2).getD j 0
    rw [← this]
  -- Cramer for that row
  have cra : ∀ j, sm n (fun s => row (wrow x.1 x.2) s * X n (fnr Q) s j) = row (wrow x.1 x.2) j * det n (fnr Q) := fun j => by
    have := cramer (fnr Q) (fun p => fnr Q p j) il
    rw [er] at this
    rw [← this]
    exact sm_congr fun s hs => by rw [er]; rfl
  have T0 : cb (x.1 ++ [x.2.1, x.2.2]) * det n (fnr Q) ≠ 0 := Int.mul_ne_zero (by omega) d0
  have go : ∀ (sel : Fra × Fra → Fra) (axis : Int) (J : Nat), (∀ y : Fra × Fra, atI [y.1, y.2] axis = some (sel y)) → (x.1 ++ [x.2.1, x.2.2])[J]? = some (sel x.2) → (∀ q p, ps[q]? = some p → Right (sel p) (X n (fnr Q) q J) (det n (fnr Q)) ∧ (sel p).1.natAbs < 2 ^ 7000 ∧ (sel p).2.natAbs < 2 ^ 7000) → Lw (sel x.2) → (sel x.2).1.natAbs < 2 ^ 4 ∧ (sel x.2).2.natAbs < 2 ^ 4 → m_law_comes (x.1, ps, x.2, axis) = .ok true := by
    intro sel axis J hsel hJ hp hl hb
    refine comes_gen (n := n) (b := 7000) sel hsel (by have := F.n16; omega) lrow sv.1 (by decide) (fun y hy => ⟨(F.rb _ m1 y hy).1, pw 200 7000 (by decide) (F.rb _ m1 y hy).2.1, pw 200 7000 (by decide) (F.rb _ m1 y hy).2.2⟩) (fun p m => ?_) T0 (fun j => row (wrow x.1 x.2) j * X n (fnr Q) j J) (fun j y p hy hpj => ?_) hl ⟨pw 4 4000 (by decide) hb.1, pw 4 4000 (by decide) hb.2⟩ ?_
    · obtain ⟨q, hq⟩ := List.mem_iff_getElem?.mp m
      obtain ⟨h1, h2, h3⟩ := hp q p hq
      exact ⟨h1.1, h2, h3⟩
    · obtain ⟨h1, _, _⟩ := hp j p hpj
      have w := wrow_at pos (show (x.1 ++ [x.2.1, x.2.2])[j]? = some y by
        rw [List.getElem?_append_left (List.getElem?_eq_some_iff.mp hy).1]
        exact hy)
      have r := h1.2.2
      calc y.1 * (sel p).1 * (cb (x.1 ++ [x.2.1, x.2.2]) * det n (fnr Q)) = (y.1 * cb (x.1 ++ [x.2.1, x.2.2])) * ((sel p).1 * det n (fnr Q)) := by ac_rfl
        _ = (row (wrow x.1 x.2) j * y.2) * (X n (fnr Q) j J * (sel p).2) := by rw [← w, r]
        _ = row (wrow x.1 x.2) j * X n (fnr Q) j J * (y.2 * (sel p).2) := by ac_rfl
    · have w := wrow_at pos hJ
      rw [cra J]
      calc row (wrow x.1 x.2) J * det n (fnr Q) * (sel x.2).2 = (row (wrow x.1 x.2) J * (sel x.2).2) * det n (fnr Q) := by ac_rfl
        _ = ((sel x.2).1 * cb (x.1 ++ [x.2.1, x.2.2])) * det n (fnr Q) := by rw [w]
        _ = (sel x.2).1 * (cb (x.1 ++ [x.2.1, x.2.2]) * det n (fnr Q)) := by ac_rfl
  constructor
  · refine go Prod.fst 0 n (fun y => rfl) ?_ (fun q p hq => ⟨(sv.2 q p hq).1.1, (sv.2 q p hq).2.1⟩) hs.1.1 hs.1.2
    rw [List.getElem?_append_right (by omega), lrow, Nat.sub_self]
    rfl
  · refine go Prod.snd 1 (n + 1) (fun y => rfl) ?_ (fun q p hq => ⟨(sv.2 q p hq).1.2, (sv.2 q p hq).2.2⟩) hs.2.1 hs.2.2
    rw [List.getElem?_append_right (by omega), lrow, show n + 1 - n = 1 by omega]
    rfl
theorem law_true (ns : List Int) (hl : ns.length ≤ 63) : m_law ns = .ok true := by
  refine Ok.eq ?_
  show Ok (fin0 (mb_law ns)) _
  unfold mb_law
  refine Ok.f0 (Ok.bF (Pn := fun _ => True) (Ok.grdB (rng62 (by omega) (by omega)) (Ok.forC (fun _ => True) trivial ?_)) fun _ _ => Ok.rt rfl)
  rintro x hx _ _
  have x0 : 0 ≤ x := (mem_rng hx).1
  refine (pot ns x0).bind fun l p0 => Ok.ltI ((rows_ok p0).bind ?_)
  rintro ⟨rows, l2⟩ ⟨⟨n, g⟩, h2⟩
  have g : Gen n rows := g
  have h2 : Pot l2 := h2
  have lr := g.1
  have n16 := g.2.2.1
  refine Ok.ltI ?_
  rw [bind_okN]
  refine Ok.bind (P := fun (r : List (Fra × Fra) × List Int) => r.1.length = n ∧ ∀ s ∈ r.1, Sd s) ?_ ?_
  · refine Ok.grdB (Nat.le_of_lt (sizeB (show rows.length ≤ 100000 by omega))) ((comp_all Pot (fun _ s => Sd s) h2 ?_).mono fun r hr => ⟨by rw [hr.1.1]; exact lr, fun s hs => ?_⟩)
    · rintro i y s _ hs
      simp only [DL.bind_assoc, bind_okN]
      refine (any_fr hs (by decide) (by decide)).bind fun f1 hf1 => (any_fr hf1.2 (by decide) (by decide)).bind fun f2 hf2 => Ok.ret ⟨⟨⟨hf1.1.1, ?_, ?_⟩, hf2.1.1, ?_, ?_⟩, hf2.2⟩
      · exact Nat.lt_of_le_of_lt hf1.1.2.1 (by decide)
      · exact Nat.lt_of_le_of_lt hf1.1.2.2 (by decide)
      · exact Nat.lt_of_le_of_lt hf2.1.2.1 (by decide)
      · exact Nat.lt_of_le_of_lt hf2.1.2.2 (by decide)
    · obtain ⟨j, hj⟩ := List.mem_iff_getElem?.mp hs
      exact hr.1.2 j s hj
  rintro ⟨sides, l3⟩ ⟨ls, hs⟩
  have F : Fit n rows sides := fit_of g ls hs
  have rp := rep_fit F
  have pos : ∀ z ∈ List.zip rows sides, ∀ y ∈ z.1 ++ [z.2.1, z.2.2], 0 < y.2 ∧ y.1.natAbs < 2 ^ 8000 := fun z hz y hy => by
    obtain ⟨m1, m2⟩ := List.of_mem_zip hz
    have h := F.sb _ m2
    rcases List.mem_append.mp hy with m | m
    · exact ⟨(F.rb _ m1 y m).1, pw 200 8000 (by decide) (F.rb _ m1 y m).2.1⟩
    · rcases List.mem_cons.mp m with rfl | m
      · exact ⟨h.1.1.1, pw 4 8000 (by decide) h.1.2.1⟩
      · rw [List.mem_singleton.mp m]
        exact ⟨h.2.1.1, pw 4 8000 (by decide) h.2.2.1⟩
  have lone := lone_ok n16 lr F.wr (fun r hr => ⟨fun y hy => ⟨(F.rb r hr y hy).1, pw 200 8000 (by decide) (F.rb r hr y hy).2.1⟩, F.pl r hr⟩) F.tl
  have kl := ker_like (n := n) (rows := rows) (sides := sides) F.wr (by rw [lr, F.ls]) fun z hz y hy => (pos z hz y hy).1
  have lL : (rows.map lrow).length = n := by rw [List.length_map, lr]
  have lW : ((List.zip rows sides).map fun x => wrow x.1 x.2).length = n := by rw [List.length_map, List.length_zip, lr, F.ls, Nat.min_self]
  refine Ok.ltI (Ok.grdB rp (Ok.ltI ((solved_ok n16 lr F.ls F.wr (fun z hz => ⟨pos z hz, F.pr z hz⟩) F.tw).bind fun o ho => Ok.ltI ?_)))
  obtain ⟨lb, el, hlb⟩ := lone
  rcases ho with ⟨rfl, sg⟩ | ⟨ps, Q, rfl, pm, d0, sv⟩
  · have e : lb = false := by
      rcases hlb with ⟨_, h⟩ | ⟨h, _⟩
      · exact absurd (ker_rev' (kl.mp (sing_ker lW sg))) (loneT_noker lL h)
      · exact h
    refine Ok.bF (Pn := fun _ => True) (Ok.bind1 (a := false) ?_ (Ok.iteF rfl (Ok.nx trivial))) fun _ _ => Ok.bF (Pn := fun _ => True) (Ok.iteF rfl (Ok.nx trivial)) fun _ _ => Ok.nx trivial
    rw [guard_ok rp, or2_ok, if_neg (by simp), el, e, bind_okN]
    rfl
  · have e : lb = true := by
      rcases hlb with ⟨h, _⟩ | ⟨_, h⟩
      · exact h
      · exact absurd (kl.mpr (ker_rev (loneF_ker h))) (det_noker lW pm d0)
    have dr := is_drawing_ok (ps := ps) (n := n) sv.1 n16 fun p hp => by
      obtain ⟨q, hq⟩ := List.mem_iff_getElem?.mp hp
      have := (sv.2 q p hq).1
      exact ⟨⟨this.1.1, this.1.2.1⟩, this.2.1, this.2.2.1⟩
    refine Ok.bF (Pn := fun _ => True) (Ok.bind1 (a := false) ?_ (Ok.iteF rfl (Ok.nx trivial))) fun _ _ => Ok.bF (Pn := fun _ => True) (Ok.iteT rfl ?_) fun _ _ => Ok.nx trivial
    · rw [guard_ok rp, or2_ok, if_neg (by simp), el, e, bind_okN]
      rfl
    · refine Ok.bF (Pn := fun _ => True) (Ok.bind1 (a := (((), ps), true)) ?_ (Ok.iteF rfl (Ok.nx trivial))) fun _ _ => Ok.bF (Pn := fun _ => True) (Ok.forC (fun _ => True) trivial ?_) fun _ _ => Ok.nx trivial
      · rw [lr]
        simp only [bind_okN, some_ok, dr]
      · rintro z hz _ _
        obtain ⟨c1, c2⟩ := told_comes F pm d0 sv hz
        refine Ok.bF (Pn := fun _ => True) (Ok.bind1 (a := false) ?_ (Ok.iteF rfl (Ok.nx trivial))) fun _ _ => Ok.nx trivial
        simp only [bind_okN, some_ok, c1, c2, or2_ok]
        rfl
def e_law_pot : He.DefD := ⟨("_law_pot", none), "_law_pot", "_law_pot", defArgs s_law_pot, defBody s_law_pot, defScope s_law_pot, [], []⟩
def e_law_digit : He.DefD := ⟨("_law_digit", none), "_law_digit", "_law_digit", defArgs s_law_digit, defBody s_law_digit, defScope s_law_digit, [], []⟩
def e_law_common : He.DefD := ⟨("_law_common", none), "_law_common", "_law_common", defArgs s_law_common, defBody s_law_common, defScope s_law_common, [], []⟩
def e_law_cut : He.DefD := ⟨("_law_cut", none), "_law_cut", "_law_cut", defArgs s_law_cut, defBody s_law_cut, defScope s_law_cut, [], []⟩
def e_law_any_fraction : He.DefD := ⟨("_law_any_fraction", none), "_law_any_fraction", "_law_any_fraction", defArgs s_law_any_fraction, defBody s_law_any_fraction, defScope s_law_any_fraction, [], []⟩
def e_law_sum : He.DefD := ⟨("_law_sum", none), "_law_sum", "_law_sum", defArgs s_law_sum, defBody s_law_sum, defScope s_law_sum, [], []⟩
def e_law_made : He.DefD := ⟨("_law_made", none), "_law_made", "_law_made", defArgs s_law_made, defBody s_law_made, defScope s_law_made, [], []⟩
def e_law_rows : He.DefD := ⟨("_law_rows", none), "_law_rows", "_law_rows", defArgs s_law_rows, defBody s_law_rows, defScope s_law_rows, [], []⟩
def e_lead_at : He.DefD := ⟨("lead_at", none), "lead_at", "lead_at", defArgs s_lead_at, defBody s_lead_at, defScope s_lead_at, [], []⟩
def e_taken_off : He.DefD := ⟨("taken_off", none), "taken_off", "taken_off", defArgs s_taken_off, defBody s_taken_off, defScope s_taken_off, [], []⟩
def e_cleared : He.DefD := ⟨("cleared", none), "cleared", "cleared", defArgs s_cleared, defBody s_cleared, defScope s_cleared, [], []⟩
def e_divisor : He.DefD := ⟨("divisor", none), "divisor", "divisor", defArgs s_divisor, defBody s_divisor, defScope s_divisor, [], []⟩
def e_common_below : He.DefD := ⟨("common_below", none), "common_below", "common_below", defArgs s_common_below, defBody s_common_below, defScope s_common_below, [], []⟩
def e_whole_row : He.DefD := ⟨("whole_row", none), "whole_row", "whole_row", defArgs s_whole_row, defBody s_whole_row, defScope s_whole_row, [], []⟩
def e_fraction : He.DefD := ⟨("fraction", none), "fraction", "fraction", defArgs s_fraction, defBody s_fraction, defScope s_fraction, [], []⟩
def e_solved : He.DefD := ⟨("solved", none), "solved", "solved", defArgs s_solved, defBody s_solved, defScope s_solved, [], []⟩
def e_law_shorter : He.DefD := ⟨("_law_shorter", none), "_law_shorter", "_law_shorter", defArgs s_law_shorter, defBody s_law_shorter, defScope s_law_shorter, [], []⟩
def e_law_is_lone : He.DefD := ⟨("_law_is_lone", none), "_law_is_lone", "_law_is_lone", defArgs s_law_is_lone, defBody s_law_is_lone, defScope s_law_is_lone, [], []⟩
def e_law_is_fraction : He.DefD := ⟨("_law_is_fraction", none), "_law_is_fraction", "_law_is_fraction", defArgs s_law_is_fraction, defBody s_law_is_fraction, defScope s_law_is_fraction, [], []⟩
def e_law_is_drawing : He.DefD := ⟨("_law_is_drawing", none), "_law_is_drawing", "_law_is_drawing", defArgs s_law_is_drawing, defBody s_law_is_drawing, defScope s_law_is_drawing, [], []⟩
def e_law_comes : He.DefD := ⟨("_law_comes", none), "_law_comes", "_law_comes", defArgs s_law_comes, defBody s_law_comes, defScope s_law_comes, [], []⟩
def e_law : He.DefD := ⟨("law", none), "law", "law", defArgs s_law, defBody s_law, defScope s_law, [], []⟩
def fnL : List He.DefD := [e_law_pot, e_law_digit, e_law_common, e_law_cut, e_law_any_fraction, e_law_sum, e_law_made, e_law_rows, e_lead_at, e_taken_off, e_cleared, e_divisor, e_common_below, e_whole_row, e_fraction, e_solved, e_law_shorter, e_law_is_lone, e_law_is_fraction, e_law_is_drawing, e_law_comes, e_law]
def faL : List He.Fa := [.glo "_law_pot", .glo "_law_digit", .glo "_law_common", .glo "_law_cut", .glo "_law_any_fraction", .glo "_law_sum", .glo "_law_made", .glo "_law_rows", .glo "lead_at", .glo "taken_off", .glo "cleared", .glo "divisor", .glo "common_below", .glo "whole_row", .glo "fraction", .glo "solved", .glo "_law_shorter", .glo "_law_is_lone", .glo "_law_is_fraction", .glo "_law_is_drawing", .glo "_law_comes", .glo "law", .free "abs", .free "all", .free "bool", .free "divmod", .free "enumerate", .free "int", .free "isinstance", .free "len", .free "list", .free "max", .free "min", .free "range", .free "repr", .free "tuple", .free "zip"]
abbrev Rw : PySem.W.OpenRow := PySem.W.OpenLaw.row PySem.Challenge.rw_restdraw_k31_solved
abbrev hkL : PySem.W.Hook := He.hookD 4 faL fnL
def obL (s : PySem.W.SharedT) : He.AlD := He.obsDG 4 faL fnL (HandSHeadRun.getT s)
theorem ob_eqL (s : PySem.W.SharedT) : obL s = hkL.obs s.abs := He.obsDG_eq (HandSHeadRun.getT_eq s)
theorem runL (w : World) : HandSHeadRun.RunEq Rw (PySem.W.view Rw.prog [25]) hkL obL 3000 ["divisor", "fraction", "common_below", "whole_row", "lead_at", "taken_off", "cleared", "solved", "_law_pot", "_law_digit", "_law_common", "_law_is_fraction", "_law_is_drawing", "_law_scaled", "_law_cut", "_law_any_fraction", "_law_sum", "_law_made", "_law_rows", "_law_is_lone", "_law_shorter", "_law_comes"] w := by
  intro os
  kernel_rfl
theorem factsL {P : Program} {w : World} {K : PySem.W.Frag} {h : Heap} {mg : Str → Option Value} {f : Addr} (X : K.In h) (G : h.Ns mainGlobals mg) (hfa : mg ("law" : Str) = some (.ref f)) (c : He.SaysD faL fnL K) :
    ∃ fd : FuncData, (∀ (s : Shared) (v : Value), BindsTo s fd ⟨[v], []⟩ [("_law_script", v)]) ∧ ∀ base : Heap, K.In base → base.Ns mainGlobals mg → FnG P w K mg base CX0 6 f fd ["_law_script"] (spM K i_law m_law l_law o_law) := by
  obtain ⟨d0, F0⟩ := c.def_ 0 (d := e_law_pot) rfl
  obtain ⟨d1, F1⟩ := c.def_ 1 (d := e_law_digit) rfl
  obtain ⟨d2, F2⟩ := c.def_ 2 (d := e_law_common) rfl
  obtain ⟨d3, F3⟩ := c.def_ 3 (d := e_law_cut) rfl
  obtain ⟨d4, F4⟩ := c.def_ 4 (d := e_law_any_fraction) rfl
  obtain ⟨d5, F5⟩ := c.def_ 5 (d := e_law_sum) rfl
  obtain ⟨d6, F6⟩ := c.def_ 6 (d := e_law_made) rfl
  obtain ⟨d7, F7⟩ := c.def_ 7 (d := e_law_rows) rfl
  obtain ⟨d8, F8⟩ := c.def_ 8 (d := e_lead_at) rfl
  obtain ⟨d9, F9⟩ := c.def_ 9 (d := e_taken_off) rfl
  obtain ⟨d10, F10⟩ := c.def_ 10 (d := e_cleared) rfl
  obtain ⟨d11, F11⟩ := c.def_ 11 (d := e_divisor) rfl
  obtain ⟨d12, F12⟩ := c.def_ 12 (d := e_common_below) rfl
  obtain ⟨d13, F13⟩ := c.def_ 13 (d := e_whole_row) rfl
  obtain ⟨d14, F14⟩ := c.def_ 14 (d := e_fraction) rfl
  obtain ⟨d15, F15⟩ := c.def_ 15 (d := e_solved) rfl
  obtain ⟨d16, F16⟩ := c.def_ 16 (d := e_law_shorter) rfl
  obtain ⟨d17, F17⟩ := c.def_ 17 (d := e_law_is_lone) rfl
  obtain ⟨d18, F18⟩ := c.def_ 18 (d := e_law_is_fraction) rfl
  obtain ⟨d19, F19⟩ := c.def_ 19 (d := e_law_is_drawing) rfl
  obtain ⟨d20, F20⟩ := c.def_ 20 (d := e_law_comes) rfl
  obtain ⟨d21, F21⟩ := c.def_ 21 (d := e_law) rfl
  have e := hfa.symm.trans (He.glo_ok X G (c.fact 21 (f := .glo "law") rfl))
  cases e
  have b := FunD.bindsA (ps := ["_law_script"]) F21 fun _ _ _ _ _ _ us hl => match us, hl with | [_], _ => rfl
  let T : Top K mg := {
    law_pot := ⟨_, d0, F0, He.glo_ok X G (c.fact 0 (f := .glo "_law_pot") rfl), FunD.bindsN F0 fun _ _ _ _ _ _ us hl => match us, hl with | [_, _], _ => rfl⟩
    law_digit := ⟨_, d1, F1, He.glo_ok X G (c.fact 1 (f := .glo "_law_digit") rfl), FunD.bindsN F1 fun _ _ _ _ _ _ us hl => match us, hl with | [_, _], _ => rfl⟩
    law_common := ⟨_, d2, F2, He.glo_ok X G (c.fact 2 (f := .glo "_law_common") rfl), FunD.bindsN F2 fun _ _ _ _ _ _ us hl => match us, hl with | [_, _], _ => rfl⟩
    law_cut := ⟨_, d3, F3, He.glo_ok X G (c.fact 3 (f := .glo "_law_cut") rfl), FunD.bindsN F3 fun _ _ _ _ _ _ us hl => match us, hl with | [_, _], _ => rfl⟩
    law_any_fraction := ⟨_, d4, F4, He.glo_ok X G (c.fact 4 (f := .glo "_law_any_fraction") rfl), FunD.bindsN F4 fun _ _ _ _ _ _ us hl => match us, hl with | [_, _], _ => rfl⟩
    law_sum := ⟨_, d5, F5, He.glo_ok X G (c.fact 5 (f := .glo "_law_sum") rfl), FunD.bindsN F5 fun _ _ _ _ _ _ us hl => match us, hl with | [_], _ => rfl⟩
    law_made := ⟨_, d6, F6, He.glo_ok X G (c.fact 6 (f := .glo "_law_made") rfl), FunD.bindsN F6 fun _ _ _ _ _ _ us hl => match us, hl with | [_, _], _ => rfl⟩
    law_rows := ⟨_, d7, F7, He.glo_ok X G (c.fact 7 (f := .glo "_law_rows") rfl), FunD.bindsN F7 fun _ _ _ _ _ _ us hl => match us, hl with | [_], _ => rfl⟩
    lead_at := ⟨_, d8, F8, He.glo_ok X G (c.fact 8 (f := .glo "lead_at") rfl), FunD.bindsN F8 fun _ _ _ _ _ _ us hl => match us, hl with | [_, _], _ => rfl⟩
    taken_off := ⟨_, d9, F9, He.glo_ok X G (c.fact 9 (f := .glo "taken_off") rfl), FunD.bindsN F9 fun _ _ _ _ _ _ us hl => match us, hl with | [_, _, _, _], _ => rfl⟩
    cleared := ⟨_, d10, F10, He.glo_ok X G (c.fact 10 (f := .glo "cleared") rfl), FunD.bindsN F10 fun _ _ _ _ _ _ us hl => match us, hl with | [_], _ => rfl⟩
    divisor := ⟨_, d11, F11, He.glo_ok X G (c.fact 11 (f := .glo "divisor") rfl), FunD.bindsN F11 fun _ _ _ _ _ _ us hl => match us, hl with | [_, _], _ => rfl⟩
    common_below := ⟨_, d12, F12, He.glo_ok X G (c.fact 12 (f := .glo "common_below") rfl), FunD.bindsN F12 fun _ _ _ _ _ _ us hl => match us, hl with | [_], _ => rfl⟩
    whole_row := ⟨_, d13, F13, He.glo_ok X G (c.fact 13 (f := .glo "whole_row") rfl), FunD.bindsN F13 fun _ _ _ _ _ _ us hl => match us, hl with | [_, _], _ => rfl⟩
    fraction := ⟨_, d14, F14, He.glo_ok X G (c.fact 14 (f := .glo "fraction") rfl), FunD.bindsN F14 fun _ _ _ _ _ _ us hl => match us, hl with | [_, _], _ => rfl⟩
    solved := ⟨_, d15, F15, He.glo_ok X G (c.fact 15 (f := .glo "solved") rfl), FunD.bindsN F15 fun _ _ _ _ _ _ us hl => match us, hl with | [_, _], _ => rfl⟩
    law_shorter := ⟨_, d16, F16, He.glo_ok X G (c.fact 16 (f := .glo "_law_shorter") rfl), FunD.bindsN F16 fun _ _ _ _ _ _ us hl => match us, hl with | [_, _], _ => rfl⟩
    law_is_lone := ⟨_, d17, F17, He.glo_ok X G (c.fact 17 (f := .glo "_law_is_lone") rfl), FunD.bindsN F17 fun _ _ _ _ _ _ us hl => match us, hl with | [_], _ => rfl⟩
    law_is_fraction := ⟨_, d18, F18, He.glo_ok X G (c.fact 18 (f := .glo "_law_is_fraction") rfl), FunD.bindsN F18 fun _ _ _ _ _ _ us hl => match us, hl with | [_], _ => rfl⟩
    law_is_drawing := ⟨_, d19, F19, He.glo_ok X G (c.fact 19 (f := .glo "_law_is_drawing") rfl), FunD.bindsN F19 fun _ _ _ _ _ _ us hl => match us, hl with | [_, _], _ => rfl⟩
    law_comes := ⟨_, d20, F20, He.glo_ok X G (c.fact 20 (f := .glo "_law_comes") rfl), FunD.bindsN F20 fun _ _ _ _ _ _ us hl => match us, hl with | [_, _, _, _], _ => rfl⟩
    law := ⟨_, d21, F21, He.glo_ok X G (c.fact 21 (f := .glo "law") rfl), FunD.bindsN F21 fun _ _ _ _ _ _ us hl => match us, hl with | [_], _ => rfl⟩
    z_abs := He.free_ok X G (c.fact 22 (f := .free "abs") rfl)
    z_all := He.free_ok X G (c.fact 23 (f := .free "all") rfl)
    z_bool := He.free_ok X G (c.fact 24 (f := .free "bool") rfl)
    z_divmod := He.free_ok X G (c.fact 25 (f := .free "divmod") rfl)
    z_enumerate := He.free_ok X G (c.fact 26 (f := .free "enumerate") rfl)
    z_int := He.free_ok X G (c.fact 27 (f := .free "int") rfl)
    z_isinstance := He.free_ok X G (c.fact 28 (f := .free "isinstance") rfl)
    z_len := He.free_ok X G (c.fact 29 (f := .free "len") rfl)
    z_list := He.free_ok X G (c.fact 30 (f := .free "list") rfl)
    z_max := He.free_ok X G (c.fact 31 (f := .free "max") rfl)
    z_min := He.free_ok X G (c.fact 32 (f := .free "min") rfl)
    z_range := He.free_ok X G (c.fact 33 (f := .free "range") rfl)
    z_repr := He.free_ok X G (c.fact 34 (f := .free "repr") rfl)
    z_tuple := He.free_ok X G (c.fact 35 (f := .free "tuple") rfl)
    z_zip := He.free_ok X G (c.fact 36 (f := .free "zip") rfl)
  }
  exact ⟨d21, fun s v => b s [v] rfl, fun base _ _ => ok_law T⟩
end W
open PySem PySem.W PySem.Calls PyProof.Rows
set_option maxHeartbeats 8000000 in
theorem PySem.Challenge.cw_restdraw_k31_solved_holds : PySem.Challenge.rw_restdraw_k31_solved.Holds := by
  w_on; o_law
  refine HandSHeadRun.head_any (r := W.Rw) (q := view W.Rw.prog [25]) (H := W.hkL) (ob := W.obL) (M := 3000) (loose := ["divisor", "fraction", "common_below", "whole_row", "lead_at", "taken_off", "cleared", "solved", "_law_pot", "_law_digit", "_law_common", "_law_is_fraction", "_law_is_drawing", "_law_scaled", "_law_cut", "_law_any_fraction", "_law_sum", "_law_made", "_law_rows", "_law_is_lone", "_law_shorter", "_law_comes"]) (d := HandSHeadRun.topDef W.Rw.prog 25) (kwd := []) W.ob_eqL
    (by kernel_rfl) (fun s => by kernel_rfl) W.runL (by kernel_rfl) (by kernel_rfl) (by kernel_rfl) (by rfl) (by first | assumption | decide +kernel) (by decide +kernel) ⟨rfl, rfl, rfl, rfl, rfl, by decide +kernel⟩ ?hw ?hc
  case hw => w_witness2
  case hc =>
    refine DL.walk_ofG (l := PySem.Challenge.rw_restdraw_k31_solved) (n := 63) (k := 6) (x := "_law_script") (CX := L2.CX0) rfl (by decide) (by kernel_rfl) ⟨⟨rfl, by decide, by decide⟩, rfl⟩ ?F (fun _ _ _ _ z => z)
    intro w mg fa h Y G hmg0
    obtain ⟨K, KX, c⟩ := Y
    have hmg : mg ("law" : PySem.Str) = some (.ref fa) := by
      have e : (HandSHeadRun.topDef W.Rw.prog 25).name = ("law" : PySem.Str) := by kernel_rfl
      rw [← e]
      exact hmg0
    obtain ⟨fd, hb, hF⟩ := W.factsL (P := (PySem.Challenge.rw_restdraw_k31_solved).prog) (w := w) KX G hmg c
    exact ⟨K, fd, _, KX, hb, fun H a ns hl _ hS => DL.law_sp hS (W.law_true ns hl), hF⟩
