import PyProof.Rows.All
import Wide.All
import OpenK.AllK
import Wide.FinOn
import HandS.ForMost
import HandS.Wide
import HandS.WideBits
import HandS.Defaults
import HandS.Ends
import HandS.HeadEnd
import HandS.IsInst
import HandS.Words
import HandS.WordsExc
import HandS.Comp
import HandS.Deep
import HandS.NoneIn
import HandS.More
import HandS.SetFor
import HandS.Strs
import HandS.Iter
import PyProof.EnumMake
import PyProof.Draws
import PyProof.TupleIter
import PyProof.ReprRoads
import PyProof.ReprText
import PyProof.ReprLen
import HandS.Conv
import HandS.Dict
import HandS.SortInts
import HandS.TupAny
import HandS.Style
import HandS.TupSets
import KE.DatumOrd
import KE.KDictCopyH
import KE.KDictPairs
import KE.SortKeyHeap
import PyProof.Rows.SetFrom
import HandS.Zip
import HandS.Rev
import HandS.HeadHook1
import HandS.HeadHook2
import HandS.ExcCtx
import HandS.ExcInit
import HandS.ExcField
import KE.KExcIs
import HandS.Text
import HandS.Replace
import HandS.Flt
import KE.KDictDisplayH
import KE.KDictZip
import KE.GoesEnum
import KE.KDictWalk
import KE.KTupSum
import KE.KEqDict
import KE.DataMinMax
import KE.KDictList
import HandS.WordsDict
import HandS.TupLen
import KE.KRevIter
import KE.GoesMore
import HandS.Codes
import KE.KxText
import HandS.Head0
import HandS.Head1
import HandS.Head2
import PySem.Challenge.RW_restdraw_k91_pictures_there_and_back
set_option Elab.async false
set_option linter.all false
set_option autoImplicit false
set_option exponentiation.threshold 100000
set_option maxRecDepth 100000
set_option maxHeartbeats 4000000
namespace DL
open PySem PySem.Spec L2 PyProof.Rows
structure RoomG (k : Nat) (A : Around) : Prop where
  r : Room k A
  gd : A.guards = some []
theorem RoomG.mono {j k : Nat} {A : Around} (h : RoomG k A) (l : j ≤ k) : RoomG j A := ⟨h.r.mono l, h.gd⟩
theorem RoomG.deeper {k : Nat} {A : Around} (h : RoomG (k + 1) A) (env : PySem.Env) : RoomG k (A.deeper env) := ⟨h.r.deeper env, h.gd⟩
structure FnG (P : Program) (w : World) (K : PySem.W.Frag) (mg : Str → Option Value) (bs : Heap) (CX : CXT) (k : Nat) (fa : Addr) (fd : FuncData) (ps : List Str) (sp : Sp) : Prop where
  many : ∀ xs G Z W, sp xs G Z W → xs.length = ps.length
  go : ∀ (A : Around) (out : List PySem.Env) (t : Shared) (G : Hp) (ar : Args) (us : List Value) (xs : List V) (Z : VK) (W : XK), RoomG k A → Env0 P w K mg bs A out t G → BindsTo t fd ar (ps.zip us) → Vals xs us →
    sp xs G Z W → codeAny (model P w) A (.call (.ref fa) ar) (CR CX out P w G t Z W) t
section
variable {P : Program} {w : World} {K : PySem.W.Frag} {mg : Str → Option Value} {bs : Heap} {CX : CXT} {k : Nat} {fa : Addr} {fd : FuncData} {ps : List Str} {sp : Sp}
theorem fn_ofG {x qual : Str} {params : Arguments} {body : List Stmt} {scope : Scope} {N : List Str} (F : FunD K x qual params body scope [] [] fa fd) (S : FnScope N ps scope) (many : ∀ xs G Z W, sp xs G Z W → xs.length = ps.length)
    (hb : ∀ (cv : Value) (A : Around) (out : List PySem.Env) (t : Shared) (G : Hp) (xs : List V) (Z : VK) (W : XK), RoomG k (A.deeper (envOfC qual scope t.heap.objs.size fa cv)) → sp xs G Z W →
      ∃ r, PSs (cxOf CX P w K mg bs N qual scope fa cv A out t G W) body r ∧ r { nx := fun _ G' => Z .non G', rt := Z } (start N xs) G) :
    FnG P w K mg bs CX (k + 1) fa fd ps sp := by
  obtain ⟨oc, od, dV, kV, doc, pm, an, cv, ct, osl, e, lk, cin, _, _⟩ := F.ex
  subst e
  refine ⟨many, ?_⟩
  intro A out t G ar us xs Z W room env bind rel pr
  have sizes := many _ _ _ _ pr
  have KI : K.In t.heap := env.mod.kin.keeps fun b o z => (env.bs b o z).1
  have free : t.heap.NoLimit := env.mod.nolimit.keeps fun b o z => (env.bs b o z).1
  refine codeAny_call_function room.r.depth (KI _ _ lk) rfl S.co S.gen rfl (PySem.W.codeRec_of KI cin) (bind _ _ _ _ ?_)
  have kinds : ∀ q ∈ ps.zip us, scope.names.lookup q.1 = some .local ∨ (scope.names.lookup q.1 = some .cell ∧ ((cellsFrom (t.heap.objs.size + 1) scope.names []).lookup q.1).isSome = true) := by
    rintro ⟨n, v⟩ hq
    exact (S.par n (List.of_mem_zip hq).1).elim Or.inl fun z => Or.inr ⟨z, PySem.W.cellsFrom_some _ _ _ (.inl z)⟩
  refine wpAny_newFunctionEnv_cells S.kind kinds ?_
  intro ev hev t1 x1
  subst hev
  refine ⟨free.keeps x1.toInCall.keep, codeAny_func ?_⟩
  obtain ⟨r, hrun, hst⟩ := hb cv A out t G xs Z W (room.deeper _) pr
  have I0 : Inv (cxOf CX P w K mg bs N qual scope fa cv A out t G W) [] (start N xs) G t1 := inv_start S room.r.hd env sizes rel x1
  refine wpAny_mono (hrun.run [] t1 (start N xs) G _ I0 hst) ?_ (fun e t' z => z)
  intro fl t' z
  have done : ∀ {τ : L2.St} {G' : Hp} {v : V} {u : Value}, Inv (cxOf CX P w K mg bs N qual scope fa cv A out t G W) [] τ G' t' → RelV v u → Z v G' → CE out P w G t Z u t' := by
    intro τ G' v u J rv q
    exact ⟨v, G', J.os, J.bare, J.base, J.hok, rv, q⟩
  match fl, z with
  | .ret u, ⟨v, τ, G', J, rv, q⟩ => exact done J rv q
  | .next, ⟨τ, G', J, q⟩ => exact done (v := .non) (u := .none) J rfl q
  | .brk, ⟨_, _, _, q⟩ => exact q.elim
  | .cont, ⟨_, _, _, q⟩ => exact q.elim
end
section
variable {X : Cx} {CX : CXT} {k : Nat} {f : Addr} {fd : FuncData} {ps : List Str} {sp : Sp} {W : XK} {x : Str} {p pos : Pos} {e : Expr} {es : List Expr} {t : TA}
theorem go_fn {pins : List (Addr × Obj)} {σ : L2.St} {G : Hp} {s : Shared} {Q : VK} {us : List Value} {xs : List V} (F : FnG X.prog X.w X.K X.mg X.base CX k f fd ps sp) (room : RoomG k X.A) (hb : Binds X.K fd ps []) (pass : Passes CX X W)
    (I : Inv X pins σ G s) (r : Vals xs us) (pr : sp xs G Q W) : wpAny (model X.prog X.w) X.A (call (.ref f) us) (EP X pins σ Q) X.xe s := by
  have n : (us ++ []).length = ps.length := by
    rw [List.append_nil, ← r.length]
    exact F.many _ _ _ _ pr
  have b := hb s us I.kIn n
  rw [List.append_nil] at b
  refine wpAny_call (codeAny_mono (F.go X.A X.stack s G ⟨us, []⟩ us xs Q W room I.env0 b r pr) ?_)
  intro res s' z
  match res, z with
  | .error e, z => exact pass pins σ G s e s' I z
  | .ok (.ret u), z => exact I.after z
  | .ok .next, z => exact z.elim
  | .ok .brk, z => exact z.elim
  | .ok .cont, z => exact z.elim
theorem pe_callG (F : FnG X.prog X.w X.K X.mg X.base CX k f fd ps sp) (room : RoomG k X.A) (hg : Gl X x) (hm : X.mg x = some (.ref f)) (hk : PySem.W.keepIn X.K (.ref f) = true) (hb : Binds X.K fd ps []) (pass : Passes CX X W) (ha : PA X (e :: es) t)
    (hdb : (x == ("__debug__" : Str)) = false := by decide) (he : starEach (e :: es) X.env = (false, eval e X.env) :: starEach es X.env := by rfl) (hpl : (backTo pos (starEach es X.env)).any (·.1) = false := by rfl) :
    PE X (.Call (.Name x p) (e :: es) [] pos) (tCall sp [] W t) :=
  ⟨fun pins s σ G Q I h => wpAny_Call_Name_kw (ld_glob I hg hm (PySem.W.callWith_K (h₀ := X.base) I.ok.mod.kin hk (thn (ha.run pos pins s σ G _ I h) fun us s1 z => by
    obtain ⟨xs, G1, I1, r, q⟩ := z
    refine ⟨I1.kIn, go_fn F room hb pass I1 r ?_⟩
    rw [List.append_nil] at q
    exact q) he hpl) hdb)⟩
end
theorem law_callG {P : Program} {w : World} {K : PySem.W.Frag} {mg mb : Str → Option Value} {CX : CXT} {k : Nat} {fa a : Addr} {fd : FuncData} {x : Str} {sp : Sp} {t : Shared} {us : List Value} {ns : List Int}
    (KI : K.In t.heap) (n1 : t.heap.Ns mainGlobals mg) (n2 : t.heap.Ns builtinsNs mb) (n3 : ∀ x : Str, x ≠ "__name__" → mb x = bootBuiltins x) (n4 : t.heap.NoLimit) (n5 : t.gens = #[])
    (ob : t.heap.get? a = some { cls := .type "list", data := .seq us.toArray }) (are : IntsAre us ns) (few : ns.length ≤ sizeLine) (room : RoomG k callerA)
    (F : ∀ bs : Heap, K.In bs → bs.Ns mainGlobals mg → FnG P w K mg bs CX k fa fd [x] sp) (bind : ∀ (s : Shared) (u : Value), BindsTo s fd ⟨[u], []⟩ [(x, u)])
    (pr : ∀ G : Hp, Only G → SqL K G a (ns.map V.int) → sp [.ref a] G (fun v _ => v = .bl true) fun _ _ _ => False)
    (noX : ∀ G e t', CX [] G t (fun _ _ _ => False) e t' → False) :
    codeAny (model P w) callerA (.call (.ref fa) ⟨[.ref a], []⟩) (fun r t' => r = .ok (.ret (.bool true)) ∧ OldK t.heap t'.heap ∧ t'.os = t.os ∧ AllBare t'.gens) t := by
  have rel := vals_ints are
  have main : ∀ G : Hp, Only G → SqL K G a (ns.map V.int) → HOk P w G t.heap → (∀ b, G b ≠ none → b = a) → (G a ≠ none → K.lookup a = none) →
      codeAny (model P w) callerA (.call (.ref fa) ⟨[.ref a], []⟩) (fun r t' => r = .ok (.ret (.bool true)) ∧ OldK t.heap t'.heap ∧ t'.os = t.os ∧ AllBare t'.gens) t := by
    intro G only sq ok isA notK
    have alone : ∀ {b : Addr}, b ≠ a → G b = none := fun {b} z => Classical.byContradiction fun y => z (isA b y)
    have hid : ∀ {b : Addr} {o : Obj}, t.heap.get? b = some o → G b = none → (hidT t.heap G).get? b = some o := fun z y => hidT_get z y
    have noD : ∀ {b : Addr} {o : Obj} {es : Array DictEntry} {ep : Nat}, t.heap.get? b = some o → o.data = .dict es ep → G b = none := by
      intro b o es ep z d
      by_cases hba : b = a
      · subst hba
        rw [ob] at z
        injection z with z
        subst z
        exact nomatch (show Data.seq us.toArray _ = Data.dict es ep from d)
      · exact alone hba
    have nss : ∀ {b : Addr} {m : Str → Option Value}, t.heap.Ns b m → (hidT t.heap G).Ns b m := by
      rintro b m ⟨o, es, ep, z, d, r⟩
      exact ⟨o, es, ep, hid z (noD z d), d, r⟩
    have KB : K.In (hidT t.heap G) := by
      intro b o z
      refine hid (KI b o z) ?_
      by_cases hba : b = a
      · subst hba
        by_cases y : G b = none
        · exact y
        · rw [notK y] at z
          cases z
      · exact alone hba
    obtain ⟨mc, l1, l2⟩ := n4
    have en : Env0 P w K mg (hidT t.heap G) callerA [] t G :=
      ⟨rfl, ⟨KB, nss n1, ⟨mb, nss n2, n3⟩, ⟨mc, nss l1, l2⟩⟩, fun b o z => of_hidT z, Nat.le_of_eq (hidT_size _ _), trivial, fun b z => absurd (show b ∈ ([] : List Addr) from z) List.not_mem_nil, ok, .of_eq n5⟩
    refine codeAny_mono ((F _ KB (nss n1)).go callerA [] t G ⟨[.ref a], []⟩ [.ref a] [.ref a] _ _ room en (bind t (.ref a)) (.cons rfl .nil) (pr G only sq)) ?_
    intro r t' z
    match r, z with
    | .error e, z => exact (noX G e t' z).elim
    | .ok .next, z => exact z.elim
    | .ok .brk, z => exact z.elim
    | .ok .cont, z => exact z.elim
    | .ok (.ret u), ⟨v, G', os, bare, un, ok', rv, q⟩ =>
      have q : v = .bl true := q
      subst q
      have rv : u = Value.bool true := rv
      subst rv
      refine ⟨rfl, OldK.of_keep ?_, os, bare⟩
      intro b o z
      by_cases y : G b = none
      · exact un.keep b o z y (fun m => absurd (show b ∈ ([] : List Addr) from m) List.not_mem_nil) (by simp)
      · rcases only b with y' | ⟨ob', xs, y'⟩
        · exact absurd y' y
        · obtain ⟨e2, _⟩ := ok' b _ (un.frzs b ob' _ y')
          obtain ⟨e1, _⟩ := ok b _ y'
          rw [z] at e1
          injection e1 with e1
          subst e1
          exact e2
  by_cases hk : ∃ o, K.lookup a = some o
  · obtain ⟨o, hk⟩ := hk
    have z := KI a o hk
    rw [ob] at z
    injection z with z
    subst z
    refine main (fun _ => none) (fun _ => Or.inl rfl) (Or.inr ⟨_, us.toArray, _, hk, rfl, rfl, rfl, ?_, by simpa using rel⟩) ?_ (fun b z => (z rfl).elim) (fun z => (z rfl).elim)
    · rw [List.size_toArray, are.length]
      exact few
    · intro b u z
      exact nomatch (show (none : Option HO) = some u from z)
  · have hk : K.lookup a = none := by
      cases z : K.lookup a with
      | none => rfl
      | some o => exact (hk ⟨o, z⟩).elim
    have at_ : ∀ {b : Addr} {u : HO}, (if b = a then some (HO.frz { cls := .type "list", data := .seq us.toArray } (.lst (ns.map V.int))) else none) = some u → b = a ∧ u = HO.frz { cls := .type "list", data := .seq us.toArray } (.lst (ns.map V.int)) := by
      intro b u z
      split at z
      · injection z with z
        exact ⟨by assumption, z.symm⟩
      · cases z
    refine main (fun b => if b = a then some (.frz { cls := .type "list", data := .seq us.toArray } (.lst (ns.map V.int))) else none) ?_ (Or.inl (Or.inr ⟨_, if_pos rfl⟩)) ?_ ?_ (fun _ => hk)
    · intro b
      by_cases hb : b = a
      · exact Or.inr ⟨_, _, if_pos hb⟩
      · exact Or.inl (if_neg hb)
    · intro b u z
      obtain ⟨rfl, rfl⟩ := at_ z
      exact ⟨ob, by rw [List.length_map]; exact few, us, _, rel, ob⟩
    · intro b z
      by_cases hb : b = a
      · exact hb
      · exact absurd (if_neg hb) z
theorem walk_ofG {l : PySem.W.OpenLaw} {n k : Nat} {q : Program} {loose : List Str} {XP : (Str → Option Value) → Heap → Prop} {YP : World → Heap → Prop} {d : DefRec} {CX : CXT} {x : Str}
    (most : l.most = some n) (few : n ≤ sizeLine) (nodf : d.params.defaults = []) (room : RoomG k callerA)
    (F : ∀ (w : World) (mg : Str → Option Value) (fa : Addr) (h : Heap), YP w h → h.Ns mainGlobals mg → mg d.name = some (.ref fa) →
      ∃ (K : PySem.W.Frag) (fd : FuncData) (sp : Sp), K.In h ∧ (∀ (s : Shared) (u : Value), BindsTo s fd ⟨[u], []⟩ [(x, u)]) ∧
        (∀ (G : Hp) (a : Addr) (ns : List Int), ns.length ≤ n → Only G → SqL K G a (ns.map V.int) → sp [.ref a] G (fun v _ => v = .bl true) fun _ _ _ => False) ∧
        ∀ bs : Heap, K.In bs → bs.Ns mainGlobals mg → FnG l.prog w K mg bs CX k fa fd [x] sp)
    (noX : ∀ (G : Hp) (t : Shared) (e : Value) (t' : Shared), CX [] G t (fun _ _ _ => False) e t' → False) :
    PySem.W.WalkO q loose XP YP l.row.toRowW d [] (fun f us => PySem.call f us) := by
  refine Att.attach_call most nodf ?_
  intro w s0 s1 mg mb fa o pm cd doc a us ns G Y ho hd hcd hmg hob hi hl hg
  obtain ⟨K, fd, sp, KI, bind, pr, hF⟩ := F w mg fa _ Y G.T.g hmg
  exact law_callG KI G.T.g G.T.b G.T.builtins G.T.nolimit hg hob hi (Nat.le_trans hl few) room hF bind (fun H only sq => pr H a ns hl only sq) fun H e s' => noX H s1 e s'
end DL
namespace DL
open PySem PySem.Spec L2
inductive D where
  | none
  | bool (b : Bool)
  | int (i : Int)
  | str (s : Str)
  | list (xs : List D)
  | tuple (xs : List D)
  | dict (kvs : List (D × D))
  | scr (ns : List Int)
  | row (ds : List D)
  | key (ks : List Int)
  | exn (c f : Str) (ds : List D)
  | ddk (kvs : List (D × D))
structure Exn where
  cls : Str
  fn : Str
  ds : List D
def Exn.d (e : Exn) : D := .exn e.cls e.fn e.ds
inductive R (α : Type) where
  | ok (a : α)
  | err (e : Exn)
  | bad
namespace R
def bind {α β : Type} : R α → (α → R β) → R β
  | .ok a, f => f a
  | .err e, _ => .err e
  | .bad, _ => .bad
def post {α : Type} (m : R α) (φ : α → Prop) (ψ : Exn → Prop) : Prop := match m with
  | .ok a => φ a
  | .err e => ψ e
  | .bad => False
theorem post_bind {α β : Type} {m : R α} {f : α → R β} {φ : β → Prop} {ψ : Exn → Prop} : (m.bind f).post φ ψ ↔ m.post (fun a => (f a).post φ ψ) ψ := by
  cases m <;> exact Iff.rfl
theorem post_mono {α : Type} {m : R α} {φ φ' : α → Prop} {ψ : Exn → Prop} (h : m.post φ ψ) (k : ∀ a, φ a → φ' a) : m.post φ' ψ := by
  cases m with
  | ok a => exact k a h
  | err e => exact h
  | bad => exact h
def guard (c : Prop) [Decidable c] : R Unit := if c then .ok () else .bad
theorem post_guard {c : Prop} [Decidable c] {φ : Unit → Prop} {ψ : Exn → Prop} (h : (guard c).post φ ψ) : c ∧ φ () := by
  unfold guard at h
  by_cases hc : c
  · rw [if_pos hc] at h
    exact ⟨hc, h⟩
  · rw [if_neg hc] at h
    exact h.elim
def some {α : Type} : Option α → R α
  | .some a => .ok a
  | .none => .bad
theorem post_some {α : Type} {o : Option α} {φ : α → Prop} {ψ : Exn → Prop} (h : (some o).post φ ψ) : ∃ a, o = .some a ∧ φ a := by
  cases o with
  | none => exact h.elim
  | some a => exact ⟨a, rfl, h⟩
end R
def Ex (H H' : Hp) : Prop := ∀ a o, H a = some o → H' a = some o
theorem Ex.refl (H : Hp) : Ex H H := fun _ _ h => h
theorem Ex.trans {H H1 H2 : Hp} (a : Ex H H1) (b : Ex H1 H2) : Ex H H2 := fun x o h => b x o (a x o h)
theorem Ex.new {H : Hp} {p : Addr} {o : HO} (h : H p = none) : Ex H (upd H p o) := fun a u e => by
  rw [upd_ne (ne_of_none e h)]
  exact e
theorem Ex.upd {H H' : Hp} (e : Ex H H') (p : Addr) (o : HO) : Ex (upd H p o) (upd H' p o) := fun a u h => by
  by_cases ha : a = p
  · subst ha
    rw [upd_same] at h ⊢
    exact h
  · rw [upd_ne ha] at h ⊢
    exact e a u h
theorem Ex.rd {H H' : Hp} {a : Addr} {u : HO} (e : Ex H H') (h : Rd H a u) : Rd H' a u := by
  rcases h with h | ⟨o, h⟩
  · exact Or.inl (e a _ h)
  · exact Or.inr ⟨o, e a _ h⟩
theorem Ex.l {K : PySem.W.Frag} {H H' : Hp} {a : Addr} {xs : List V} (e : Ex H H') (h : SqL K H a xs) : SqL K H' a xs := by
  rcases h with h | h
  · exact Or.inl (e.rd h)
  · exact Or.inr h
theorem Ex.t {K : PySem.W.Frag} {H H' : Hp} {a : Addr} {xs : List V} (e : Ex H H') (h : SqT K H a xs) : SqT K H' a xs := by
  rcases h with h | h
  · exact Or.inl (e.rd h)
  · exact Or.inr h
theorem Ex.back {H H' : Hp} {p : Addr} (e : Ex H H') (h : H' p = none) : H p = none := by
  cases h1 : H p with
  | none => rfl
  | some o =>
    rw [e p o h1] at h
    cases h
def ClsNm (K : PySem.W.Frag) (c : Str) (C : Addr) : Prop := ∃ cd, PySem.W.clsIn K C = some cd ∧ cd.name = c
def exq (a C : Addr) (d : Option Addr) : HO := .ext fun h => ∃ oe, h.get? a = some oe ∧ oe.cls = .ref C ∧ oe.dict = d ∧ ∃ vs, oe.data = .fields vs
mutual
inductive Rp (K : PySem.W.Frag) (G : Hp) : V → D → Prop
  | non : Rp K G .non .none
  | bl (b : Bool) : Rp K G (.bl b) (.bool b)
  | int (i : Int) : Rp K G (.int i) (.int i)
  | str (x : Str) : Rp K G (.str x) (.str x)
  | lst {a : Addr} {xs : List V} {ds : List D} : Rd G a (.lst xs) → RpAll K G xs ds → Rp K G (.ref a) (.list ds)
  | tup {a : Addr} {xs : List V} {ds : List D} : SqT K G a xs → RpAll K G xs ds → Rp K G (.ref a) (.tuple ds)
  | scr {a : Addr} {ns : List Int} : SqL K G a (ns.map V.int) → Rp K G (.ref a) (.scr ns)
  | row {a : Addr} {ob : Obj} {xs : List V} {ds : List D} : G a = some (.frz ob (.tup xs)) → ob.dict = none → RpAll K G xs ds → Rp K G (.ref a) (.row ds)
  | key {a : Addr} {ks : List Int} : G a = some (.tup (ks.map V.int)) → Rp K G (.ref a) (.key ks)
  | dK {a : Addr} {kvs : List (Key × V)} {ds : List (D × D)} : G a = some (.dK kvs) → RpK K G kvs ds → Rp K G (.ref a) (.dict ds)
  | dT {a : Addr} {kvs : List (List Key × V)} {ds : List (D × D)} : G a = some (.dT kvs) → RpT K G kvs ds → Rp K G (.ref a) (.dict ds)
  | ddk {a : Addr} {o : Obj} {kvs : List (Key × V)} {ds : List (D × D)} : G a = some (.frz o (.dK kvs)) → RpK K G kvs ds → Rp K G (.ref a) (.ddk ds)
  | ddt {a : Addr} {o : Obj} {kvs : List (List Key × V)} {ds : List (D × D)} : G a = some (.frz o (.dT kvs)) → RpT K G kvs ds → Rp K G (.ref a) (.ddk ((D.none, D.none) :: ds))
  | exn0 {a C : Addr} {c f : Str} : G a = some (exq a C none) → ClsNm K c C → Rp K G (.ref a) (.exn c f [])
  | exn1 {a C dx : Addr} {c f : Str} {y : V} {e : D} : G a = some (exq a C (some dx)) → ClsNm K c C → G dx = some (.xd [(f, y)]) → Rp K G y e → Rp K G (.ref a) (.exn c f [e])
  | any {v : V} : v ≠ .non → Rp K G v (.ddk [(.bool true, .none)])
inductive RpAll (K : PySem.W.Frag) (G : Hp) : List V → List D → Prop
  | nil : RpAll K G [] []
  | cons {v : V} {vs : List V} {d : D} {ds : List D} : Rp K G v d → RpAll K G vs ds → RpAll K G (v :: vs) (d :: ds)
inductive RpK (K : PySem.W.Frag) (G : Hp) : List (Key × V) → List (D × D) → Prop
  | nil : RpK K G [] []
  | cons {k : Key} {v : V} {r : List (Key × V)} {d : D} {ds : List (D × D)} : Rp K G v d → RpK K G r ds → RpK K G ((k, v) :: r) ((match k with | .inl i => D.int i | .inr x => D.str x, d) :: ds)
inductive RpT (K : PySem.W.Frag) (G : Hp) : List (List Key × V) → List (D × D) → Prop
  | nil : RpT K G [] []
  | cons {k : List Key} {v : V} {r : List (List Key × V)} {d : D} {ds : List (D × D)} : Rp K G v d → RpT K G r ds → RpT K G ((k, v) :: r) ((D.tuple (k.map fun k => match k with | .inl i => D.int i | .inr x => D.str x), d) :: ds)
end
mutual
theorem Rp.ex {K : PySem.W.Frag} {G G' : Hp} (e : Ex G G') : ∀ {v : V} {d : D}, Rp K G v d → Rp K G' v d
  | _, _, .non => .non
  | _, _, .bl b => .bl b
  | _, _, .int i => .int i
  | _, _, .str x => .str x
  | _, _, .lst h r => .lst (e.rd h) (RpAll.ex e r)
  | _, _, .tup h r => .tup (e.t h) (RpAll.ex e r)
  | _, _, .scr h => .scr (e.l h)
  | _, _, .row h d r => .row (e _ _ h) d (RpAll.ex e r)
  | _, _, .key h => .key (e _ _ h)
  | _, _, .dK h r => .dK (e _ _ h) (RpK.ex e r)
  | _, _, .dT h r => .dT (e _ _ h) (RpT.ex e r)
  | _, _, .ddk h r => .ddk (e _ _ h) (RpK.ex e r)
  | _, _, .ddt h r => .ddt (e _ _ h) (RpT.ex e r)
  | _, _, .exn0 h n => .exn0 (e _ _ h) n
  | _, _, .exn1 h n g r => .exn1 (e _ _ h) n (e _ _ g) (Rp.ex e r)
  | _, _, .any z => .any z
theorem RpAll.ex {K : PySem.W.Frag} {G G' : Hp} (e : Ex G G') : ∀ {v : List V} {d : List D}, RpAll K G v d → RpAll K G' v d
  | _, _, .nil => .nil
  | _, _, .cons h r => .cons (Rp.ex e h) (RpAll.ex e r)
theorem RpK.ex {K : PySem.W.Frag} {G G' : Hp} (e : Ex G G') : ∀ {v : List (Key × V)} {d : List (D × D)}, RpK K G v d → RpK K G' v d
  | _, _, .nil => .nil
  | _, _, .cons h r => .cons (Rp.ex e h) (RpK.ex e r)
theorem RpT.ex {K : PySem.W.Frag} {G G' : Hp} (e : Ex G G') : ∀ {v : List (List Key × V)} {d : List (D × D)}, RpT K G v d → RpT K G' v d
  | _, _, .nil => .nil
  | _, _, .cons h r => .cons (Rp.ex e h) (RpT.ex e r)
end
section
variable {K : PySem.W.Frag} {G : Hp}
theorem Rp.int_inv {v : V} {i : Int} (h : Rp K G v (.int i)) : v = .int i := by
  cases h
  rfl
theorem Rp.bl_inv {v : V} {b : Bool} (h : Rp K G v (.bool b)) : v = .bl b := by
  cases h
  rfl
theorem Rp.str_inv {v : V} {b : Str} (h : Rp K G v (.str b)) : v = .str b := by
  cases h
  rfl
theorem Rp.lst_inv {v : V} {ds : List D} (h : Rp K G v (.list ds)) : ∃ a xs, v = .ref a ∧ Rd G a (.lst xs) ∧ RpAll K G xs ds := by
  cases h with
  | lst h r => exact ⟨_, _, rfl, h, r⟩
theorem Rp.tup_inv {v : V} {ds : List D} (h : Rp K G v (.tuple ds)) : ∃ a xs, v = .ref a ∧ SqT K G a xs ∧ RpAll K G xs ds := by
  cases h with
  | tup h r => exact ⟨_, _, rfl, h, r⟩
theorem RpAll.len : ∀ {vs : List V} {ds : List D}, RpAll K G vs ds → vs.length = ds.length
  | _, _, .nil => rfl
  | _, _, .cons _ r => by rw [List.length_cons, List.length_cons, RpAll.len r]
theorem RpAll.get : ∀ {vs : List V} {ds : List D} {i : Nat} {d : D}, RpAll K G vs ds → ds[i]? = some d → ∃ v, vs[i]? = some v ∧ Rp K G v d
  | _, _, _, _, .nil, e => by simp at e
  | _, _, 0, _, .cons h _, e => by
    simp at e
    subst e
    exact ⟨_, rfl, h⟩
  | _, _, i + 1, _, .cons _ r, e => by
    obtain ⟨v, h1, h2⟩ := RpAll.get (i := i) r (by simpa using e)
    exact ⟨v, by simpa using h1, h2⟩
theorem RpAll.getV : ∀ {vs : List V} {ds : List D} {i : Nat} {v : V}, RpAll K G vs ds → vs[i]? = some v → ∃ d, ds[i]? = some d ∧ Rp K G v d
  | _, _, _, _, .nil, e => by simp at e
  | _, _, 0, _, .cons h _, e => by
    simp at e
    subst e
    exact ⟨_, rfl, h⟩
  | _, _, i + 1, _, .cons _ r, e => by
    obtain ⟨v, h1, h2⟩ := RpAll.getV (i := i) r (by simpa using e)
    exact ⟨v, by simpa using h1, h2⟩
theorem RpAll.append : ∀ {vs ws : List V} {ds es : List D}, RpAll K G vs ds → RpAll K G ws es → RpAll K G (vs ++ ws) (ds ++ es)
  | _, _, _, _, .nil, s => s
  | _, _, _, _, .cons h r, s => .cons h (RpAll.append r s)
theorem RpAll.take : ∀ {vs : List V} {ds : List D} (n : Nat), RpAll K G vs ds → RpAll K G (vs.take n) (ds.take n)
  | _, _, 0, _ => by
    rw [List.take_zero, List.take_zero]
    exact .nil
  | _, _, _ + 1, .nil => .nil
  | _, _, n + 1, .cons h r => .cons h (RpAll.take n r)
theorem RpAll.drop : ∀ {vs : List V} {ds : List D} (n : Nat), RpAll K G vs ds → RpAll K G (vs.drop n) (ds.drop n)
  | _, _, 0, r => r
  | _, _, _ + 1, .nil => .nil
  | _, _, n + 1, .cons _ r => RpAll.drop n r
theorem RpAll.ints : ∀ {vs : List V} {ns : List Int}, RpAll K G vs (ns.map D.int) → vs = ns.map V.int
  | _, [], .nil => rfl
  | _, n :: ns, .cons h r => by
    rw [List.map_cons, ← RpAll.ints r, Rp.int_inv h]
theorem RpAll.of_ints : ∀ (ns : List Int), RpAll K G (ns.map V.int) (ns.map D.int)
  | [] => .nil
  | n :: ns => .cons (.int n) (RpAll.of_ints ns)
end
inductive OT where
  | dat (d : D)
  | lst (os : List OT)
  | dk (kvs : List (Key × D))
  | dt (kvs : List (List Key × D))
  | tp (os : List OT)
  | dko (ks : List Key) (os : List OT)
  | obj (c : Str) (fs : List Str) (os : List OT)
def keyD : Key → D
  | .inl i => .int i
  | .inr x => .str x
inductive RpE {κ : Type} (K : PySem.W.Frag) (G : Hp) : List (κ × V) → List (κ × D) → Prop
  | nil : RpE K G [] []
  | cons {k : κ} {v : V} {d : D} {r : List (κ × V)} {ds : List (κ × D)} : Rp K G v d → RpE K G r ds → RpE K G ((k, v) :: r) ((k, d) :: ds)
theorem RpE.ex {κ : Type} {K : PySem.W.Frag} {G G' : Hp} (e : Ex G G') {kvs : List (κ × V)} {ds : List (κ × D)} (h : RpE K G kvs ds) : RpE K G' kvs ds := by
  induction h with
  | nil => exact .nil
  | cons h _ ih => exact .cons (h.ex e) ih
theorem RpE.k {K : PySem.W.Frag} {G : Hp} {kvs : List (Key × V)} {ds : List (Key × D)} (h : RpE K G kvs ds) : RpK K G kvs (ds.map fun p => (keyD p.1, p.2)) := by
  induction h with
  | nil => exact .nil
  | @cons k v d r ds h _ ih => cases k <;> exact .cons h ih
theorem RpE.t {K : PySem.W.Frag} {G : Hp} {kvs : List (List Key × V)} {ds : List (List Key × D)} (h : RpE K G kvs ds) : RpT K G kvs (ds.map fun p => (D.tuple (p.1.map keyD), p.2)) := by
  induction h with
  | nil => exact .nil
  | @cons k v d r ds h _ ih =>
    have e : k.map keyD = k.map fun k => match k with | .inl i => D.int i | .inr x => D.str x := List.map_congr_left fun x _ => by cases x <;> rfl
    rw [List.map_cons]
    show RpT K G _ ((D.tuple (k.map keyD), d) :: _)
    rw [e]
    exact .cons h ih
mutual
inductive Own (K : PySem.W.Frag) (G H : Hp) : V → OT → List Addr → Prop
  | dat {v : V} {d : D} : Rp K G v d → Own K G H v (.dat d) []
  | lst {a : Addr} {vs : List V} {os : List OT} {A : List Addr} : H a = some (.lst vs) → OwnAll K G H vs os A → Own K G H (.ref a) (.lst os) (a :: A)
  | dk {a : Addr} {kvs : List (Key × V)} {ds : List (Key × D)} : H a = some (.dK kvs) → RpE K G kvs ds → Own K G H (.ref a) (.dk ds) [a]
  | dt {a : Addr} {kvs : List (List Key × V)} {ds : List (List Key × D)} : H a = some (.dT kvs) → RpE K G kvs ds → Own K G H (.ref a) (.dt ds) [a]
  | tp {a : Addr} {vs : List V} {os : List OT} {A : List Addr} : SqT K G a vs → OwnAll K G H vs os A → Own K G H (.ref a) (.tp os) A
  | dko {a : Addr} {kvs : List (Key × V)} {ks : List Key} {os : List OT} {A : List Addr} : H a = some (.dK kvs) → kvs.map (·.1) = ks → OwnAll K G H (kvs.map (·.2)) os A → Own K G H (.ref a) (.dko ks os) (a :: A)
  | obj {a C dx : Addr} {c : Str} {kvs : List (Str × V)} {fs : List Str} {os : List OT} {A : List Addr} : H a = some (.ins C dx kvs) → H dx = some (.own a) → ClsNm K c C → kvs.map (·.1) = fs → OwnAll K G H (kvs.map (·.2)) os A → Own K G H (.ref a) (.obj c fs os) (a :: dx :: A)
inductive OwnAll (K : PySem.W.Frag) (G H : Hp) : List V → List OT → List Addr → Prop
  | nil : OwnAll K G H [] [] []
  | cons {v : V} {vs : List V} {o : OT} {os : List OT} {A A' : List Addr} : Own K G H v o A → OwnAll K G H vs os A' → OwnAll K G H (v :: vs) (o :: os) (A ++ A')
end
mutual
theorem Own.ex {K : PySem.W.Frag} {G G' H H' : Hp} (e : Ex G G') : ∀ {v : V} {o : OT} {A : List Addr}, Own K G H v o A → (∀ a ∈ A, ∀ u, H a = some u → H' a = some u) → Own K G' H' v o A
  | _, _, _, .dat h, _ => .dat (h.ex e)
  | _, _, _, .lst h r, k => .lst (k _ (List.mem_cons_self) _ h) (OwnAll.ex e r fun a m => k a (List.mem_cons_of_mem _ m))
  | _, _, _, .dk h r, k => .dk (k _ (List.mem_cons_self) _ h) (r.ex e)
  | _, _, _, .dt h r, k => .dt (k _ (List.mem_cons_self) _ h) (r.ex e)
  | _, _, _, .tp h r, k => .tp (e.t h) (OwnAll.ex e r k)
  | _, _, _, .dko h hk r, k => .dko (k _ (List.mem_cons_self) _ h) hk (OwnAll.ex e r fun a m => k a (List.mem_cons_of_mem _ m))
  | _, _, _, .obj h g n hk r, k => .obj (k _ List.mem_cons_self _ h) (k _ (List.mem_cons_of_mem _ List.mem_cons_self) _ g) n hk (OwnAll.ex e r fun a m => k a (List.mem_cons_of_mem _ (List.mem_cons_of_mem _ m)))
theorem OwnAll.ex {K : PySem.W.Frag} {G G' H H' : Hp} (e : Ex G G') : ∀ {v : List V} {o : List OT} {A : List Addr}, OwnAll K G H v o A → (∀ a ∈ A, ∀ u, H a = some u → H' a = some u) → OwnAll K G' H' v o A
  | _, _, _, .nil, _ => .nil
  | _, _, _, .cons h r, k => .cons (Own.ex e h fun a m => k a (List.mem_append_left _ m)) (OwnAll.ex e r fun a m => k a (List.mem_append_right _ m))
end
mutual
def OT.toD : OT → D
  | .dat d => d
  | .lst os => .list (OT.toDs os)
  | .dk kvs => .dict (kvs.map fun p => (keyD p.1, p.2))
  | .dt kvs => .dict (kvs.map fun p => (D.tuple (p.1.map keyD), p.2))
  | .tp os => .tuple (OT.toDs os)
  | .dko ks os => .dict ((ks.map keyD).zip (OT.toDs os))
  | .obj _ _ _ => .ddk [(.bool true, .none)]
def OT.toDs : List OT → List D
  | [] => []
  | o :: os => o.toD :: OT.toDs os
end
mutual
theorem Own.there {K : PySem.W.Frag} {G H : Hp} : ∀ {v : V} {o : OT} {A : List Addr}, Own K G H v o A → ∀ a ∈ A, ∃ u, H a = some u
  | _, _, _, .dat _, _, m => nomatch m
  | _, _, _, .lst h r, a, m => by
    rcases List.mem_cons.mp m with rfl | m
    · exact ⟨_, h⟩
    · exact OwnAll.there r a m
  | _, _, _, .dk h r, a, m => by
    rw [List.mem_singleton.mp m]
    exact ⟨_, h⟩
  | _, _, _, .dt h r, a, m => by
    rw [List.mem_singleton.mp m]
    exact ⟨_, h⟩
  | _, _, _, .tp _ r, a, m => OwnAll.there r a m
  | _, _, _, .dko h _ r, a, m => by
    rcases List.mem_cons.mp m with rfl | m
    · exact ⟨_, h⟩
    · exact OwnAll.there r a m
  | _, _, _, .obj h g _ _ r, a, m => by
    rcases List.mem_cons.mp m with rfl | m
    · exact ⟨_, h⟩
    · rcases List.mem_cons.mp m with rfl | m
      · exact ⟨_, g⟩
      · exact OwnAll.there r a m
theorem OwnAll.there {K : PySem.W.Frag} {G H : Hp} : ∀ {v : List V} {o : List OT} {A : List Addr}, OwnAll K G H v o A → ∀ a ∈ A, ∃ u, H a = some u
  | _, _, _, .nil, _, m => nomatch m
  | _, _, _, .cons h r, a, m => by
    rcases List.mem_append.mp m with m | m
    · exact Own.there h a m
    · exact OwnAll.there r a m
end
theorem rpk_zip {K : PySem.W.Frag} {G : Hp} : ∀ {kvs : List (Key × V)} {ks : List Key} {ds : List D}, kvs.map (·.1) = ks → RpAll K G (kvs.map (·.2)) ds → RpK K G kvs ((ks.map keyD).zip ds)
  | [], _, _, rfl, h => by
    cases h
    exact .nil
  | (k, v) :: kvs, _, _, rfl, h => by
    cases h with
    | cons h r =>
      have := rpk_zip (kvs := kvs) rfl r
      cases k <;> exact .cons h this
mutual
theorem Own.rp {K : PySem.W.Frag} {G G' H : Hp} (e : Ex G G') : ∀ {v : V} {o : OT} {A : List Addr}, Own K G H v o A → (∀ a ∈ A, ∀ u, H a = some u → G' a = some u) → Rp K G' v o.toD
  | _, _, _, .dat h, _ => by
    rw [OT.toD]
    exact h.ex e
  | _, _, _, .lst h r, k => by
    rw [OT.toD]
    exact .lst (Or.inl (k _ (List.mem_cons_self) _ h)) (OwnAll.rp e r fun a m => k a (List.mem_cons_of_mem _ m))
  | _, _, _, .dk h r, k => by
    rw [OT.toD]
    exact .dK (k _ (List.mem_cons_self) _ h) (r.ex e).k
  | _, _, _, .dt h r, k => by
    rw [OT.toD]
    exact .dT (k _ (List.mem_cons_self) _ h) (r.ex e).t
  | _, _, _, .tp h r, k => by
    rw [OT.toD]
    exact .tup (e.t h) (OwnAll.rp e r k)
  | _, _, _, .dko (kvs := kvs) h hk r, k => by
    rw [OT.toD]
    exact .dK (k _ (List.mem_cons_self) _ h) (rpk_zip hk (OwnAll.rp e r fun a m => k a (List.mem_cons_of_mem _ m)))
  | _, _, _, .obj _ _ _ _ _, _ => by
    rw [OT.toD]
    exact .any fun z => nomatch z
theorem OwnAll.rp {K : PySem.W.Frag} {G G' H : Hp} (e : Ex G G') : ∀ {v : List V} {o : List OT} {A : List Addr}, OwnAll K G H v o A → (∀ a ∈ A, ∀ u, H a = some u → G' a = some u) → RpAll K G' v (OT.toDs o)
  | _, _, _, .nil, _ => by
    rw [OT.toDs]
    exact .nil
  | _, _, _, .cons h r, k => by
    rw [OT.toDs]
    exact .cons (Own.rp e h fun a m => k a (List.mem_append_left _ m)) (OwnAll.rp e r fun a m => k a (List.mem_append_right _ m))
end
end DL
namespace DL
open PySem PySem.Spec L2
inductive Slot where
  | non
  | val (d : D)
  | own (l : Nat) (o : OT)
  | ali (j : Nat) (path : List Nat)
structure Base where
  H0 : Hp
  G0 : Hp
  Mo : Nat → List Addr
  m0 : Mo 0 = []
  pv : Nat → Option V
  rs : Exn → Prop
structure Anc (B : Base) (G H : Hp) : Prop where
  keep : ∀ a o, (∀ l, a ∉ B.Mo l) → B.H0 a = some o → H a = some o
  there : ∀ a l, a ∈ B.Mo l → H a ≠ none
  gsub : Ex B.G0 G
  gnew : ∀ a, B.H0 a ≠ none → B.G0 a = none → G a = none ∨ ∃ xs, H a = some (.tup xs)
  sub : Ex G H
theorem Anc.gnone {B : Base} {G H : Hp} (h : Anc B G H) {a : Addr} (e1 : B.H0 a ≠ none) (e2 : B.G0 a = none) (nt : ∀ xs, H a ≠ some (.tup xs)) : G a = none := (h.gnew a e1 e2).elim id fun ⟨xs, e⟩ => absurd e (nt xs)
theorem gnew_then {G H G1 H1 : Hp} {a : Addr} (g : G a = none ∨ ∃ xs, H a = some (.tup xs)) (s : Ex G H) (x : Ex G G1) (s1 : Ex G1 H1) (k : G a = none → G1 a = none ∨ ∃ xs, H1 a = some (.tup xs)) : G1 a = none ∨ ∃ xs, H1 a = some (.tup xs) := by
  cases e : G a with
  | none => exact k e
  | some u =>
    rcases g with g | ⟨xs, g⟩
    · rw [e] at g
      cases g
    · have := s a u e
      rw [g] at this
      cases this
      exact .inr ⟨xs, s1 a _ (x a _ e)⟩
theorem Anc.fresh {B : Base} {G H : Hp} (h : Anc B G H) {p : Addr} (hp : H p = none) : B.H0 p = none := by
  cases e : B.H0 p with
  | none => rfl
  | some o =>
    by_cases hm : ∃ l, p ∈ B.Mo l
    · obtain ⟨l, hm⟩ := hm
      exact absurd hp (h.there p l hm)
    · rw [h.keep p o (fun l m => hm ⟨l, m⟩) e] at hp
      cases hp
theorem Anc.new {B : Base} {G H : Hp} (h : Anc B G H) {p : Addr} (hp : H p = none) (o : HO) : Anc B (upd G p o) (upd H p o) := by
  have h0 := h.fresh hp
  refine ⟨fun a u hm e => ?_, fun a l hm => ?_, h.gsub.trans (Ex.new (h.sub.back hp)), fun a e1 e2 => ?_, h.sub.upd p o⟩
  · rw [upd_ne (ne_of_none (h.keep a u hm e) hp)]
    exact h.keep a u hm e
  · by_cases ha : a = p
    · subst ha
      rw [upd_same]
      exact fun z => nomatch z
    · rw [upd_ne ha]
      exact h.there a l hm
  · have ha : a ≠ p := fun z => by
      subst z
      exact e1 h0
    rw [upd_ne ha, upd_ne ha]
    exact h.gnew a e1 e2
theorem Anc.put {B : Base} {G H : Hp} (h : Anc B G H) {p : Addr} (hG : G p = none) (hp : (∃ l, p ∈ B.Mo l) ∨ B.H0 p = none) (o : HO) : Anc B G (upd H p o) := by
  refine ⟨fun a u hm e => ?_, fun a l hm => ?_, h.gsub, fun a e1 e2 => ?_, fun a u e => ?_⟩
  · have ha : a ≠ p := fun z => by
      subst z
      rcases hp with ⟨l, hp⟩ | hp
      · exact hm l hp
      · rw [hp] at e
        cases e
    rw [upd_ne ha]
    exact h.keep a u hm e
  · by_cases ha : a = p
    · subst ha
      rw [upd_same]
      exact fun z => nomatch z
    · rw [upd_ne ha]
      exact h.there a l hm
  · by_cases ha : a = p
    · exact .inl (by rw [ha]; exact hG)
    · rw [upd_ne ha]
      exact h.gnew a e1 e2
  · rw [upd_ne (ne_of_none e hG)]
    exact h.sub a u e
theorem Anc.frz {B : Base} {G H : Hp} (h : Anc B G H) {A : List Addr} (hA : ∀ a ∈ A, G a = none ∧ B.H0 a = none) : Anc B (fun a => if a ∈ A then H a else G a) H := by
  refine ⟨h.keep, h.there, fun a u e => ?_, fun a e1 e2 => ?_, fun a u e => ?_⟩
  · by_cases ha : a ∈ A
    · have z := (hA a ha).1.symm.trans (h.gsub a u e)
      cases z
    · show (if a ∈ A then H a else G a) = _
      rw [if_neg ha]
      exact h.gsub a u e
  · show (if a ∈ A then H a else G a) = none ∨ _
    by_cases ha : a ∈ A
    · exact absurd (hA a ha).2 e1
    · rw [if_neg ha]
      exact h.gnew a e1 e2
  · have e : (if a ∈ A then H a else G a) = some u := e
    by_cases ha : a ∈ A
    · rw [if_pos ha] at e
      exact e
    · rw [if_neg ha] at e
      exact h.sub a u e
mutual
theorem Own.nt {K : PySem.W.Frag} {G H : Hp} : ∀ {v : V} {o : OT} {A : List Addr}, Own K G H v o A → ∀ a ∈ A, ∀ xs, H a ≠ some (.tup xs)
  | _, _, _, .dat _, _, m => nomatch m
  | _, _, _, .lst h r, a, m => fun xs z => by
    rcases List.mem_cons.mp m with rfl | m
    · rw [h] at z
      cases z
    · exact OwnAll.nt r a m xs z
  | _, _, _, .dk h r, a, m => fun xs z => by
    rw [List.mem_singleton.mp m, h] at z
    cases z
  | _, _, _, .dt h r, a, m => fun xs z => by
    rw [List.mem_singleton.mp m, h] at z
    cases z
  | _, _, _, .tp _ r, a, m => OwnAll.nt r a m
  | _, _, _, .dko h _ r, a, m => fun xs z => by
    rcases List.mem_cons.mp m with rfl | m
    · rw [h] at z
      cases z
    · exact OwnAll.nt r a m xs z
  | _, _, _, .obj h g _ _ r, a, m => fun xs z => by
    rcases List.mem_cons.mp m with rfl | m
    · rw [h] at z
      cases z
    · rcases List.mem_cons.mp m with rfl | m
      · rw [g] at z
        cases z
      · exact OwnAll.nt r a m xs z
theorem OwnAll.nt {K : PySem.W.Frag} {G H : Hp} : ∀ {v : List V} {o : List OT} {A : List Addr}, OwnAll K G H v o A → ∀ a ∈ A, ∀ xs, H a ≠ some (.tup xs)
  | _, _, _, .nil, _, m => nomatch m
  | _, _, _, .cons h r, a, m => by
    rcases List.mem_append.mp m with m | m
    · exact Own.nt h a m
    · exact OwnAll.nt r a m
end
inductive Cell (K : PySem.W.Frag) (B : Base) (G H : Hp) : Option V → Slot → List Addr → Prop
  | non {x : Option V} : Cell K B G H x .non []
  | val {v : V} {d : D} : Rp K G v d → Cell K B G H (some v) (.val d) []
  | own {v : V} {l : Nat} {o : OT} {A : List Addr} : Own K G H v o A → (∀ a ∈ A, a ∈ B.Mo l ∨ B.H0 a = none) → (l = 0 ∨ B.pv l = some v) → Cell K B G H (some v) (.own l o) A
  | ali {x : Option V} {j : Nat} {p : List Nat} : Cell K B G H x (.ali j p) []
inductive Cells (K : PySem.W.Frag) (B : Base) (G H : Hp) : List (Option V) → List Slot → List Addr → Prop
  | nil : Cells K B G H [] [] []
  | cons {x : Option V} {s : Slot} {A : List Addr} {σ : St} {ρ : List Slot} {A' : List Addr} : Cell K B G H x s A → Cells K B G H σ ρ A' → Cells K B G H (x :: σ) (s :: ρ) (A ++ A')
section
variable {K : PySem.W.Frag} {B : Base} {G G' H H' : Hp}
theorem Cell.ex {x : Option V} {s : Slot} {A : List Addr} (h : Cell K B G H x s A) (e : Ex G G') (k : ∀ a ∈ A, ∀ u, H a = some u → H' a = some u) : Cell K B G' H' x s A := by
  cases h with
  | non => exact .non
  | val h => exact .val (h.ex e)
  | own h l z => exact .own (h.ex e k) l z
  | ali => exact .ali
theorem Cells.ex {σ : St} {ρ : List Slot} {A : List Addr} (h : Cells K B G H σ ρ A) (e : Ex G G') (k : ∀ a ∈ A, ∀ u, H a = some u → H' a = some u) : Cells K B G' H' σ ρ A := by
  induction h with
  | nil => exact .nil
  | cons c r ih => exact .cons (c.ex e fun a m => k a (List.mem_append_left _ m)) (ih fun a m => k a (List.mem_append_right _ m))
theorem Cell.there {x : Option V} {s : Slot} {A : List Addr} (h : Cell K B G H x s A) : ∀ a ∈ A, ∃ u, H a = some u := by
  cases h with
  | non => exact fun _ m => nomatch m
  | val h => exact fun _ m => nomatch m
  | own h l _ => exact h.there
  | ali => exact fun _ m => nomatch m
theorem Cell.nt {x : Option V} {s : Slot} {A : List Addr} (h : Cell K B G H x s A) : ∀ a ∈ A, ∀ xs, H a ≠ some (.tup xs) := by
  cases h with
  | non => exact fun _ m => nomatch m
  | val h => exact fun _ m => nomatch m
  | own h l _ => exact h.nt
  | ali => exact fun _ m => nomatch m
theorem Cells.nt {σ : St} {ρ : List Slot} {A : List Addr} (h : Cells K B G H σ ρ A) : ∀ a ∈ A, ∀ xs, H a ≠ some (.tup xs) := by
  induction h with
  | nil => exact fun _ m => nomatch m
  | cons c r ih =>
    intro a m
    rcases List.mem_append.mp m with m | m
    · exact c.nt a m
    · exact ih a m
theorem Cells.there {σ : St} {ρ : List Slot} {A : List Addr} (h : Cells K B G H σ ρ A) : ∀ a ∈ A, ∃ u, H a = some u := by
  induction h with
  | nil => exact fun _ m => nomatch m
  | cons c r ih =>
    intro a m
    rcases List.mem_append.mp m with m | m
    · exact c.there a m
    · exact ih a m
theorem Cells.len {σ : St} {ρ : List Slot} {A : List Addr} (h : Cells K B G H σ ρ A) : σ.length = ρ.length := by
  induction h with
  | nil => rfl
  | cons c r ih => rw [List.length_cons, List.length_cons, ih]
theorem Cells.get {σ : St} {ρ : List Slot} {A : List Addr} (h : Cells K B G H σ ρ A) : ∀ {i : Nat} {s : Slot}, ρ[i]? = some s → ∃ x A1, σ[i]? = some x ∧ Cell K B G H x s A1 ∧ A1.Sublist A := by
  induction h with
  | nil => exact fun e => nomatch e
  | cons c r ih =>
    intro i s e
    cases i with
    | zero =>
      simp at e
      subst e
      exact ⟨_, _, rfl, c, List.sublist_append_left _ _⟩
    | succ i =>
      obtain ⟨x, A1, h1, h2, h3⟩ := ih (i := i) (s := s) (by simpa using e)
      exact ⟨x, A1, by simpa using h1, h2, h3.trans (List.sublist_append_right _ _)⟩
theorem Cells.set {σ : St} {ρ : List Slot} {A : List Addr} (h : Cells K B G H σ ρ A) {x : Option V} {s : Slot} {A1 : List Addr} (c : Cell K B G H x s A1) : ∀ {i : Nat}, i < ρ.length → ∃ A' C, Cells K B G H (σ.set i x) (ρ.set i s) A' ∧ A'.Perm (A1 ++ C) ∧ C.Sublist A := by
  induction h with
  | nil => exact fun e => absurd e (Nat.not_lt_zero _)
  | @cons x0 s0 A0 σ ρ A' c0 r ih =>
    intro i hi
    cases i with
    | zero => exact ⟨A1 ++ A', A', .cons c r, List.Perm.refl _, List.sublist_append_right _ _⟩
    | succ i =>
      obtain ⟨A2, C, h1, h2, h3⟩ := ih (i := i) (by simpa using hi)
      refine ⟨A0 ++ A2, A0 ++ C, .cons c0 h1, ?_, h3.append_left _⟩
      have e1 : (A0 ++ A2).Perm (A0 ++ (A1 ++ C)) := h2.append_left _
      have e2 : (A0 ++ (A1 ++ C)).Perm (A1 ++ (A0 ++ C)) := by
        rw [← List.append_assoc, ← List.append_assoc]
        exact List.perm_append_comm.append_right C
      exact e1.trans e2
theorem Cells.swap2 {σ : St} {ρ : List Slot} {A : List Addr} {x y : Option V} {s t : Slot} (h : Cells K B G H (x :: y :: σ) (s :: t :: ρ) A) : ∃ A', Cells K B G H (y :: x :: σ) (t :: s :: ρ) A' ∧ A'.Perm A := by
  cases h with
  | cons c r =>
    cases r with
    | cons d r =>
      refine ⟨_, .cons d (.cons c r), ?_⟩
      rw [← List.append_assoc, ← List.append_assoc]
      exact List.perm_append_comm.append_right _
end
def forgot : List Slot → List Bool → List Slot
  | [], _ => []
  | s :: ρ, [] => s :: ρ
  | s :: ρ, b :: bs => (if b then s else .non) :: forgot ρ bs
theorem Cells.forgot {K : PySem.W.Frag} {B : Base} {G H : Hp} : ∀ {σ : St} {ρ : List Slot} {A : List Addr} (bs : List Bool), Cells K B G H σ ρ A → ∃ A', Cells K B G H σ (forgot ρ bs) A' ∧ A'.Sublist A
  | _, _, _, _, .nil => ⟨[], .nil, List.Sublist.refl _⟩
  | _, _, _, [], .cons c r => ⟨_, .cons c r, List.Sublist.refl _⟩
  | _, _, _, true :: bs, .cons c r => by
    obtain ⟨A', h1, h2⟩ := Cells.forgot bs r
    exact ⟨_, .cons c h1, h2.append_left _⟩
  | _, _, _, false :: bs, .cons c r => by
    obtain ⟨A', h1, h2⟩ := Cells.forgot bs r
    exact ⟨_, .cons (s := .non) .non h1, h2.trans (List.sublist_append_right _ _)⟩
theorem forgot_len : ∀ (ρ : List Slot) (bs : List Bool), (forgot ρ bs).length = ρ.length
  | [], _ => rfl
  | _ :: _, [] => rfl
  | _ :: ρ, b :: bs => by rw [forgot, List.length_cons, List.length_cons, forgot_len ρ bs]
theorem forgot_get : ∀ (ρ : List Slot) (bs : List Bool) (i : Nat) (s : Slot), (forgot ρ bs)[i]? = some s → s = .non ∨ ρ[i]? = some s
  | [], _, _, _, e => nomatch e
  | _ :: _, [], _, _, e => .inr e
  | s0 :: ρ, b :: bs, 0, s, e => by
    cases b with
    | true => exact .inr e
    | false =>
      simp [forgot] at e
      exact .inl e.symm
  | s0 :: ρ, b :: bs, i + 1, s, e => by
    have e : (forgot ρ bs)[i]? = some s := by simpa [forgot] using e
    rcases forgot_get ρ bs i s e with h | h
    · exact .inl h
    · exact .inr (by simpa using h)
def At (H : Hp) : V → List Nat → V → Prop
  | v, [], w => v = w
  | v, k :: ks, w => ∃ a vs u, v = .ref a ∧ H a = some (.lst vs) ∧ vs[k]? = some u ∧ At H u ks w
theorem At.ex {H H' : Hp} (e : Ex H H') : ∀ {p : List Nat} {v w : V}, At H v p w → At H' v p w
  | [], _, _, h => h
  | _ :: _, _, _, ⟨a, vs, u, h1, h2, h3, h4⟩ => ⟨a, vs, u, h1, e _ _ h2, h3, At.ex e h4⟩
structure En (K : PySem.W.Frag) (B : Base) (G H : Hp) (σ : St) (ρ : List Slot) (ex : List (V × Slot)) : Prop where
  anc : Anc B G H
  own : ∃ A, Cells K B G H (ex.map (fun p => some p.1) ++ σ) (ex.map (·.2) ++ ρ) A ∧ A.Nodup ∧ ∀ a ∈ A, G a = none
  len : σ.length = ρ.length
  ali : ∀ (i j : Nat) (p : List Nat), ρ[i]? = some (Slot.ali j p) → ∃ v w, σ[i]? = some (some v) ∧ σ[j]? = some (some w) ∧ At H w p v
def noAli (j : Nat) : List Slot → Bool
  | [] => true
  | .ali i _ :: r => i != j && noAli j r
  | _ :: r => noAli j r
theorem noAli_get {j : Nat} : ∀ {ρ : List Slot}, noAli j ρ = true → ∀ {i k : Nat} {p : List Nat}, ρ[i]? = some (.ali k p) → k ≠ j
  | [], _, _, _, _, e => nomatch e
  | s :: ρ, h, 0, k, p, e => by
    simp at e
    subst e
    simp [noAli] at h
    exact h.1
  | s :: ρ, h, i + 1, k, p, e => by
    have h' : noAli j ρ = true := by
      cases s <;> simp [noAli] at h
      · exact h
      · exact h
      · exact h
      · exact h.2
    exact noAli_get h' (i := i) (by simpa using e)
section
variable {K : PySem.W.Frag} {B : Base} {G G' H H' : Hp} {σ : St} {ρ : List Slot} {ex : List (V × Slot)}
theorem En.fresh (E : En K B G H σ ρ ex) {p : Addr} (hp : H p = none) : B.H0 p = none := E.anc.fresh hp
theorem En.sub (E : En K B G H σ ρ ex) : Ex G H := E.anc.sub
theorem En.get (E : En K B G H σ ρ ex) {i : Nat} {d : D} (h : ρ[i]? = some (.val d)) : ∃ v, σ[i]? = some (some v) ∧ Rp K G v d := by
  obtain ⟨A, c, _, _⟩ := E.own
  obtain ⟨x, A1, h1, h2, _⟩ := c.get (i := ex.length + i) (s := .val d) (by
    rw [List.getElem?_append_right (by simp), List.length_map]
    simpa using h)
  rw [List.getElem?_append_right (by simp), List.length_map] at h1
  cases h2 with
  | val r => exact ⟨_, by simpa using h1, r⟩
theorem En.top {v : V} {d : D} (E : En K B G H σ ρ ((v, .val d) :: ex)) : Rp K G v d := by
  obtain ⟨A, c, _, _⟩ := E.own
  cases c with
  | cons c r =>
    cases c with
    | val h => exact h
theorem En.pop {x : V × Slot} (E : En K B G H σ ρ (x :: ex)) : En K B G H σ ρ ex := by
  obtain ⟨A, c, n, f⟩ := E.own
  cases c with
  | cons c r => exact ⟨E.anc, ⟨_, r, (List.nodup_append.mp n).2.1, fun a m => f a (List.mem_append_right _ m)⟩, E.len, E.ali⟩
theorem En.push {v : V} {d : D} (E : En K B G H σ ρ ex) (h : Rp K G v d) : En K B G H σ ρ ((v, .val d) :: ex) := by
  obtain ⟨A, c, n, f⟩ := E.own
  exact ⟨E.anc, ⟨[] ++ A, .cons (.val h) c, n, f⟩, E.len, E.ali⟩
theorem En.swap {x y : V × Slot} (E : En K B G H σ ρ (x :: y :: ex)) : En K B G H σ ρ (y :: x :: ex) := by
  obtain ⟨A, c, n, f⟩ := E.own
  obtain ⟨A', c', p⟩ := c.swap2
  exact ⟨E.anc, ⟨A', c', p.nodup_iff.mpr n, fun a m => f a (p.mem_iff.mp m)⟩, E.len, E.ali⟩
theorem En.new (E : En K B G H σ ρ ex) {p : Addr} (hp : H p = none) (o : HO) : En K B (upd G p o) (upd H p o) σ ρ ex := by
  obtain ⟨A, c, n, f⟩ := E.own
  have hG := E.sub.back hp
  refine ⟨E.anc.new hp o, ⟨A, c.ex (Ex.new hG) fun a m u e => Ex.new hp a u e, n, fun a m => ?_⟩, E.len, fun i j q e => ?_⟩
  · obtain ⟨u, hu⟩ := c.there a m
    rw [upd_ne (ne_of_none hu hp)]
    exact f a m
  · obtain ⟨v, w, h1, h2, h3⟩ := E.ali i j q e
    exact ⟨v, w, h1, h2, h3.ex (Ex.new hp)⟩
theorem En.newL (E : En K B G H σ ρ ex) {p : Addr} (hp : H p = none) {vs : List V} {ds : List D} (r : RpAll K G vs ds) : En K B G (upd H p (.lst vs)) σ ρ ((.ref p, .own 0 (.lst (ds.map OT.dat))) :: ex) := by
  obtain ⟨A, c, n, f⟩ := E.own
  have hG := E.sub.back hp
  have h0 := E.fresh hp
  have ra : ∀ {vs : List V} {ds : List D}, RpAll K G vs ds → OwnAll K G (upd H p (.lst vs)) vs (ds.map OT.dat) [] := fun {vs ds} r => by
    have gen : ∀ (H' : Hp) {vs : List V} {ds : List D}, RpAll K G vs ds → OwnAll K G H' vs (ds.map OT.dat) [] := fun H' {vs ds} r => by
      induction ds generalizing vs with
      | nil =>
        cases r
        exact .nil
      | cons d ds ih =>
        cases r with
        | cons h r => exact .cons (A := []) (.dat h) (ih r)
    exact gen _ r
  have hn : p ∉ A := fun m => by
    obtain ⟨u, hu⟩ := c.there p m
    rw [hu] at hp
    cases hp
  refine ⟨E.anc.put hG (.inr h0) _, ⟨p :: ([] ++ A), .cons (A := [p]) (.own (.lst upd_same (ra r)) (fun a m => by
      rw [List.mem_singleton.mp m]
      exact .inr h0) (.inl rfl)) (c.ex (Ex.refl G) fun a m u e => by
      rw [upd_ne (ne_of_none e hp)]
      exact e), ?_, fun a m => ?_⟩, E.len, fun i j q e => ?_⟩
  · exact List.nodup_cons.mpr ⟨hn, n⟩
  · rcases List.mem_cons.mp m with rfl | m
    · exact hG
    · exact f a m
  · obtain ⟨v, w, h1, h2, h3⟩ := E.ali i j q e
    exact ⟨v, w, h1, h2, h3.ex (Ex.new hp)⟩
theorem En.frz {v : V} {o : OT} (E : En K B G H σ ρ ((v, .own 0 o) :: ex)) : ∃ G', Ex G G' ∧ En K B G' H σ ρ ((v, .val o.toD) :: ex) := by
  obtain ⟨A, c, n, f⟩ := E.own
  cases c with
  | @cons _ _ A1 _ _ A2 c r =>
    cases c with
    | own h l _ =>
      have n1 := List.nodup_append.mp n
      have hA : ∀ a ∈ A1, G a = none ∧ B.H0 a = none := fun a m => ⟨f a (List.mem_append_left _ m), (l a m).resolve_left (by rw [B.m0]; exact fun z => nomatch z)⟩
      have eG : Ex G fun a => if a ∈ A1 then H a else G a := fun a u e => by
        show (if a ∈ A1 then H a else G a) = _
        by_cases ha : a ∈ A1
        · rw [(hA a ha).1] at e
          cases e
        · rw [if_neg ha]
          exact e
      refine ⟨_, eG, E.anc.frz hA, ⟨[] ++ A2, .cons (.val (h.rp eG fun a m u e => by
          show (if a ∈ A1 then H a else G a) = _
          rw [if_pos m]
          exact e)) (r.ex eG fun _ _ _ e => e), n1.2.1, fun a m => ?_⟩, E.len, E.ali⟩
      have ha : a ∉ A1 := fun z => n1.2.2 a z a m rfl
      show (if a ∈ A1 then H a else G a) = _
      rw [if_neg ha]
      exact f a (List.mem_append_right _ m)
theorem En.set {v : V} {s : Slot} (E : En K B G H σ ρ [(v, s)]) {i : Nat} (hi : i < ρ.length) (hs : ∀ j p, s ≠ .ali j p) (ha : noAli i ρ = true) : En K B G H (σ.set i (some v)) (ρ.set i s) [] := by
  obtain ⟨A, c, n, f⟩ := E.own
  cases c with
  | @cons _ _ A1 _ _ A2 c r =>
    obtain ⟨A', C, h1, h2, h3⟩ := Cells.set r c hi
    have sub : (A1 ++ C).Sublist (A1 ++ A2) := h3.append_left A1
    refine ⟨E.anc, ⟨A', h1, h2.nodup_iff.mpr (sub.nodup n), fun a m => f a (sub.subset (h2.mem_iff.mp m))⟩, by rw [List.length_set, List.length_set]; exact E.len, fun k j p e => ?_⟩
    by_cases hk : i = k
    · subst hk
      rw [List.getElem?_set_self hi] at e
      cases e
      exact absurd rfl (hs j p)
    · rw [List.getElem?_set_ne hk] at e
      obtain ⟨v', w, q1, q2, q3⟩ := E.ali k j p e
      have hj := noAli_get ha e
      exact ⟨v', w, by rw [List.getElem?_set_ne hk]; exact q1, by rw [List.getElem?_set_ne (Ne.symm hj)]; exact q2, q3⟩
theorem En.forgot (E : En K B G H σ ρ []) (bs : List Bool) : En K B G H σ (forgot ρ bs) [] := by
  obtain ⟨A, c, n, f⟩ := E.own
  obtain ⟨A', h1, h2⟩ := Cells.forgot bs c
  refine ⟨E.anc, ⟨A', h1, h2.nodup n, fun a m => f a (h2.subset m)⟩, by rw [forgot_len]; exact E.len, fun i j p e => ?_⟩
  rcases forgot_get ρ bs i _ e with z | z
  · cases z
  · exact E.ali i j p z
end
section
variable {K : PySem.W.Frag} {B : Base} {G G' H H' : Hp}
theorem Cells.take1 {σ : L2.St} {ρ : List Slot} {A : List Addr} (h : Cells K B G H σ ρ A) : ∀ {i : Nat} {l : Nat} {o : OT}, ρ[i]? = some (.own l o) →
    ∃ v A1 A2, σ[i]? = some (some v) ∧ Own K G H v o A1 ∧ ((∀ a ∈ A1, a ∈ B.Mo l ∨ B.H0 a = none) ∧ (l = 0 ∨ B.pv l = some v)) ∧ Cells K B G H σ (ρ.set i .non) A2 ∧ A.Perm (A1 ++ A2) := by
  induction h with
  | nil => exact fun e => nomatch e
  | @cons x0 s0 A0 σ ρ A' c0 r ih =>
    intro i l o e
    cases i with
    | zero =>
      simp at e
      subst e
      cases c0 with
      | own hO hl hv => exact ⟨_, A0, [] ++ A', rfl, hO, ⟨hl, hv⟩, .cons (.non) r, List.Perm.refl _⟩
    | succ i =>
      obtain ⟨v, A1, A2, h1, h2, h3, h4, h5⟩ := ih (i := i) (l := l) (o := o) (by simpa using e)
      refine ⟨v, A1, A0 ++ A2, by simpa using h1, h2, h3, .cons c0 h4, ?_⟩
      have e1 : (A0 ++ A').Perm (A0 ++ (A1 ++ A2)) := h5.append_left _
      have e2 : (A0 ++ (A1 ++ A2)).Perm (A1 ++ (A0 ++ A2)) := by
        rw [← List.append_assoc, ← List.append_assoc]
        exact List.perm_append_comm.append_right A2
      exact e1.trans e2
theorem Cells.put1 {σ : L2.St} {ρ : List Slot} {A : List Addr} (h : Cells K B G H σ ρ A) : ∀ {i : Nat} {l : Nat} {o : OT} {v : V} {A1 : List Addr}, ρ[i]? = some .non → σ[i]? = some (some v) → Own K G H v o A1 → ((∀ a ∈ A1, a ∈ B.Mo l ∨ B.H0 a = none) ∧ (l = 0 ∨ B.pv l = some v)) →
    ∃ A2, Cells K B G H σ (ρ.set i (.own l o)) A2 ∧ A2.Perm (A1 ++ A) := by
  induction h with
  | nil => exact fun e => nomatch e
  | @cons x0 s0 A0 σ ρ A' c0 r ih =>
    intro i l o v A1 e e2 hO hl
    cases i with
    | zero =>
      simp at e
      subst e
      simp at e2
      subst e2
      cases c0
      exact ⟨A1 ++ A', .cons (.own hO hl.1 hl.2) r, by
        rw [List.nil_append]⟩
    | succ i =>
      obtain ⟨A2, h4, h5⟩ := ih (i := i) (l := l) (by simpa using e) (by simpa using e2) hO hl
      refine ⟨A0 ++ A2, .cons c0 h4, ?_⟩
      have e1 : (A0 ++ A2).Perm (A0 ++ (A1 ++ A')) := h5.append_left _
      have e2 : (A0 ++ (A1 ++ A')).Perm (A1 ++ (A0 ++ A')) := by
        rw [← List.append_assoc, ← List.append_assoc]
        exact List.perm_append_comm.append_right A'
      exact e1.trans e2
end
end DL
namespace DL
open PySem PySem.Spec L2
section
variable {X : Cx} {B : Base}
theorem PE_imp {e : Expr} {t t' : TE} (h : PE X e t) (k : ∀ σ H Q, t' σ H Q → t σ H Q) : PE X e t' := ⟨fun pins s σ H Q I q => h.run pins s σ H Q I (k σ H Q q)⟩
theorem PT_imp {e : Expr} {t t' : TT} (h : PT X e t) (k : ∀ σ H Q, t' σ H Q → t σ H Q) : PT X e t' := ⟨fun pins s σ H Q I q => h.run pins s σ H Q I (k σ H Q q)⟩
theorem PW_imp {e : Expr} {t t' : TT} (h : PW X e t) (k : ∀ σ H Q, t' σ H Q → t σ H Q) : PW X e t' := ⟨fun wh pins s σ H Q I q => h.run wh pins s σ H Q I (k σ H Q q)⟩
theorem PA_imp {e : List Expr} {t t' : TA} (h : PA X e t) (k : ∀ σ H Q, t' σ H Q → t σ H Q) : PA X e t' := ⟨fun pos pins s σ H Q I q => h.run pos pins s σ H Q I (k σ H Q q)⟩
theorem PS_imp {e : Stmt} {t t' : TS} (h : PS X e t) (k : ∀ D σ H, t' D σ H → t D σ H) : PS X e t' := ⟨fun pins s σ H D I q => h.run pins s σ H D I (k D σ H q)⟩
theorem PSs_imp {e : List Stmt} {t t' : TS} (h : PSs X e t) (k : ∀ D σ H, t' D σ H → t D σ H) : PSs X e t' := ⟨fun pins s σ H D I q => h.run pins s σ H D I (k D σ H q)⟩
end
def tJ (K : PySem.W.Frag) (B : Base) (ρ : List Slot) {β : Type} (m : R β) (sl : β → Slot) (ρ' : β → List Slot) : TE := fun σ H Q =>
  ∃ G, En K B G H σ ρ [] ∧ m.post (fun b => ∀ v G' H', Ex G G' → En K B G' H' σ (ρ' b) [(v, sl b)] → Q v H') B.rs
def JE (X : Cx) (B : Base) (ρ : List Slot) (e : Expr) {β : Type} (m : R β) (sl : β → Slot) (ρ' : β → List Slot) : Prop := PE X e (tJ X.K B ρ m sl ρ')
abbrev JP (X : Cx) (B : Base) (ρ : List Slot) (e : Expr) (d : D) : Prop := JE X B ρ e (.ok ()) (fun _ => .val d) (fun _ => ρ)
def tJT (K : PySem.W.Frag) (B : Base) (ρ : List Slot) {β : Type} (m : R β) (bn : β → Bool) (ρ' : β → List Slot) : TT := fun σ H Q =>
  ∃ G, En K B G H σ ρ [] ∧ m.post (fun b => ∀ G' H', Ex G G' → En K B G' H' σ (ρ' b) [] → Q (bn b) H') B.rs
def JT (X : Cx) (B : Base) (ρ : List Slot) (e : Expr) {β : Type} (m : R β) (bn : β → Bool) (ρ' : β → List Slot) : Prop := PT X e (tJT X.K B ρ m bn ρ')
def JW (X : Cx) (B : Base) (ρ : List Slot) (e : Expr) {β : Type} (m : R β) (bn : β → Bool) (ρ' : β → List Slot) : Prop := PW X e (tJT X.K B ρ m bn ρ')
abbrev TP0 (X : Cx) (B : Base) (ρ : List Slot) (e : Expr) (b : Bool) : Prop := JT X B ρ e (.ok ()) (fun _ => b) (fun _ => ρ)
inductive Ar where
  | val (d : D)
  | slot (i : Nat)
inductive ArOk (K : PySem.W.Frag) (G : Hp) (σ : L2.St) : List V → List Ar → Prop
  | nil : ArOk K G σ [] []
  | val {v : V} {d : D} {vs : List V} {as : List Ar} : Rp K G v d → ArOk K G σ vs as → ArOk K G σ (v :: vs) (.val d :: as)
  | slot {v : V} {i : Nat} {vs : List V} {as : List Ar} : σ[i]? = some (some v) → ArOk K G σ vs as → ArOk K G σ (v :: vs) (.slot i :: as)
theorem ArOk.ex {K : PySem.W.Frag} {G G' : Hp} {σ : L2.St} {vs : List V} {as : List Ar} (h : ArOk K G σ vs as) (e : Ex G G') : ArOk K G' σ vs as := by
  induction h with
  | nil => exact .nil
  | val h _ ih => exact .val (h.ex e) ih
  | slot h _ ih => exact .slot h ih
def tJA (K : PySem.W.Frag) (B : Base) (ρ : List Slot) {β : Type} (m : R β) (as : β → List Ar) (ρ' : β → List Slot) : TA := fun σ H Q =>
  ∃ G, En K B G H σ ρ [] ∧ m.post (fun b => ∀ vs G' H', Ex G G' → En K B G' H' σ (ρ' b) [] → ArOk K G' σ vs (as b) → Q vs H') B.rs
def JA (X : Cx) (B : Base) (ρ : List Slot) (es : List Expr) {β : Type} (m : R β) (as : β → List Ar) (ρ' : β → List Slot) : Prop := PA X es (tJA X.K B ρ m as ρ')
section
variable {X : Cx} {B : Base} {ρ : List Slot} {a b e : Expr} {pos : Pos}
theorem jp_of {t : TE} {d : D} (h : PE X e t) (k : ∀ σ G H Q, En X.K B G H σ ρ [] → (∀ v G' H', Ex G G' → En X.K B G' H' σ ρ [(v, .val d)] → Q v H') → t σ H Q) : JP X B ρ e d :=
  PE_imp h fun σ H Q ⟨G, E, q⟩ => k σ G H Q E q
theorem jp_var (i : Nat) {x : Str} {d : D} (h : ρ[i]? = some (.val d) := by rfl) (hN : X.N[i]? = some x := by rfl) (hv : Vis X.env.scope x := by first | exact Or.inl rfl | exact Or.inr (Or.inl rfl) | exact Or.inr (Or.inr rfl))
    (hd : (x == ("__debug__" : Str)) = false := by decide) (hcd : (x == ("__classdict__" : Str)) = false := by decide) : JP X B ρ (.Name x pos) d :=
  jp_of (pv i hN hv hd hcd) fun σ G H Q E q => by
    obtain ⟨v, h1, h2⟩ := E.get h
    exact ⟨v, h1, q v G H (Ex.refl G) (E.push h2)⟩
theorem jp_int {i : Int} {j : Nat} : JP X B ρ (.Constant (.int i) j pos) (.int i) := jp_of pe_int fun σ G H Q E q => q _ G H (Ex.refl G) (E.push (.int i))
theorem jp_bl {b : Bool} {j : Nat} : JP X B ρ (.Constant (.bool b) j pos) (.bool b) := jp_of pe_bl fun σ G H Q E q => q _ G H (Ex.refl G) (E.push (.bl b))
theorem jp_str {x : Str} {j : Nat} : JP X B ρ (.Constant (.str x) j pos) (.str x) := jp_of pe_str fun σ G H Q E q => q _ G H (Ex.refl G) (E.push (.str x))
theorem je_frz {β : Type} {m : R β} {o : β → OT} {ρ' : β → List Slot} (h : JE X B ρ e m (fun b => .own 0 (o b)) ρ') : JE X B ρ e m (fun b => .val (o b).toD) ρ' :=
  PE_imp h fun σ H Q ⟨G, E, q⟩ => ⟨G, E, R.post_mono q fun b k v G' H' x E' => by
    obtain ⟨G2, x2, E2⟩ := E'.frz
    exact k v G2 H' (x.trans x2) E2⟩
def OpD (K : PySem.W.Frag) (B : Base) (r : R2) (x y : D) {γ : Type} (mr : R γ) (s : γ → Slot) : Prop :=
  ∀ G H σ ρ vx vy Q, En K B G H σ ρ [] → Rp K G vx x → Rp K G vy y → mr.post (fun z => ∀ v G' H', Ex G G' → En K B G' H' σ ρ [(v, s z)] → Q v H') B.rs → r vx vy H Q
theorem od_val {K : PySem.W.Frag} {r : R2} {x y z : D} {c : Prop} [Decidable c] {w : V} (h : c → ∀ G H vx vy Q, Ex G H → Rp K G vx x → Rp K G vy y → Q w H → r vx vy H Q) (hw : ∀ G, Rp K G w z) : OpD K B r x y (R.guard c) (fun _ => .val z) :=
  fun G H σ ρ vx vy Q E hx hy q => by
    obtain ⟨hc, q⟩ := R.post_guard q
    exact h hc G H vx vy Q E.sub hx hy (q w G H (Ex.refl G) (E.push (hw G)))
theorem od_val0 {K : PySem.W.Frag} {r : R2} {x y z : D} {w : V} (h : ∀ G H vx vy Q, Ex G H → Rp K G vx x → Rp K G vy y → Q w H → r vx vy H Q) (hw : ∀ G, Rp K G w z) : OpD K B r x y (.ok ()) (fun _ => .val z) :=
  fun G H σ ρ vx vy Q E hx hy q => h G H vx vy Q E.sub hx hy (q w G H (Ex.refl G) (E.push (hw G)))
def op2 {α β γ : Type} (ma : R α) (mb : α → R β) (mr : α → β → R γ) : R (α × β × γ) := ma.bind fun x => (mb x).bind fun y => (mr x y).bind fun z => .ok (x, y, z)
theorem je_op2 {r : R2} (ht : ∀ ta tb, PE X a ta → PE X b tb → PE X e (tOp r ta tb)) {α β γ : Type} {ma : R α} {mb : α → R β} {xa : α → D} {xb : α → β → D} {ρa : α → List Slot} {ρb : α → β → List Slot} {mr : α → β → R γ} {s : α → β → γ → Slot}
    (ha : JE X B ρ a ma (fun x => .val (xa x)) ρa) (hb : ∀ x, JE X B (ρa x) b (mb x) (fun y => .val (xb x y)) (ρb x)) (hr : ∀ x y, OpD X.K B r (xa x) (xb x y) (mr x y) (s x y)) :
    JE X B ρ e (op2 ma mb mr) (fun p => s p.1 p.2.1 p.2.2) (fun p => ρb p.1 p.2.1) := by
  have hb' : PE X b (fun σ H Q => ∃ x, tJ X.K B (ρa x) (mb x) (fun y => .val (xb x y)) (ρb x) σ H Q) := ⟨fun pins s σ H Q I ⟨x, q⟩ => (hb x).run pins s σ H Q I q⟩
  refine PE_imp (ht _ _ ha hb') fun σ H Q ⟨G, E, q⟩ => ?_
  refine ⟨G, E, R.post_mono (R.post_bind.mp q) fun x q1 vx G1 H1 x1 E1 => ?_⟩
  refine ⟨x, G1, E1.pop, R.post_mono (R.post_bind.mp q1) fun y q2 vy G2 H2 x2 E2 => ?_⟩
  exact hr x y G2 H2 σ (ρb x y) vx vy Q E2.pop (E1.top.ex x2) E2.top (R.post_mono (R.post_bind.mp q2) fun z q3 v G3 H3 x3 E3 => q3 v G3 H3 (x1.trans (x2.trans x3)) E3)
theorem je_op {r : R2} (ht : ∀ ta tb, PE X a ta → PE X b tb → PE X e (tOp r ta tb)) {x y : D} {γ : Type} {mr : R γ} {s : γ → Slot} (ha : JP X B ρ a x) (hb : JP X B ρ b y) (hr : OpD X.K B r x y mr s) : JE X B ρ e mr s (fun _ => ρ) := by
  refine PE_imp (ht _ _ ha hb) fun σ H Q ⟨G, E, q⟩ => ?_
  refine ⟨G, E, fun vx G1 H1 x1 E1 => ?_⟩
  refine ⟨G1, E1.pop, fun vy G2 H2 x2 E2 => ?_⟩
  exact hr G2 H2 σ ρ vx vy Q E2.pop (E1.top.ex x2) E2.top (R.post_mono q fun z q v G3 H3 x3 E3 => q v G3 H3 (x1.trans (x2.trans x3)) E3)
def divOk (i j : Int) : Prop := j ≠ 0 ∧ Builtin.divisionGoesByPylong i j = false
instance {i j : Int} : Decidable (divOk i j) := by unfold divOk; infer_instance
def powOk (i j : Int) : Prop := 0 ≤ j ∧ j ≤ 1000000 ∧ i.natAbs < 2 ^ 64
instance {i j : Int} : Decidable (powOk i j) := by unfold powOk; infer_instance
instance {i j : Int} : Decidable (CPow i j) := by unfold CPow; infer_instance
instance {i j : Int} : Decidable (CMulX i j) := by unfold CMulX; infer_instance
theorem op_fdivZ : OpR X (binaryOp .FloorDiv) (rI divOk fun i j => .int (i.fdiv j)) := opI fun i j _ _ _ _ _ hc q => PyProof.Rows.floordiv_int hc.1 q (.inl hc.2)
section
variable {K : PySem.W.Frag} {i j : Int}
theorem od_I0 {g : Int → Int → V} {z : D} (hz : ∀ G, Rp K G (g i j) z) : OpD K B (rI0 g) (.int i) (.int j) (.ok ()) (fun _ => .val z) :=
  od_val0 (fun G H vx vy Q _ hx hy q => ⟨i, j, hx.int_inv, hy.int_inv, q⟩) hz
theorem od_I {C : Int → Int → Prop} [Decidable (C i j)] {g : Int → Int → V} {z : D} (hz : ∀ G, Rp K G (g i j) z) : OpD K B (rI C g) (.int i) (.int j) (R.guard (C i j)) (fun _ => .val z) :=
  od_val (fun c G H vx vy Q _ hx hy q => ⟨i, j, hx.int_inv, hy.int_inv, c, q⟩) hz
theorem od_add : OpD K B (rI0 fun i j => .int (i + j)) (.int i) (.int j) (.ok ()) (fun _ => .val (.int (i + j))) := od_I0 fun _ => .int _
theorem od_sub : OpD K B (rI0 fun i j => .int (i - j)) (.int i) (.int j) (.ok ()) (fun _ => .val (.int (i - j))) := od_I0 fun _ => .int _
theorem od_mul : OpD K B (rI CMulX fun i j => .int (i * j)) (.int i) (.int j) (R.guard (CMulX i j)) (fun _ => .val (.int (i * j))) := od_I fun _ => .int _
theorem od_fdiv : OpD K B (rI divOk fun i j => .int (i.fdiv j)) (.int i) (.int j) (R.guard (divOk i j)) (fun _ => .val (.int (i.fdiv j))) := od_I fun _ => .int _
theorem od_mod : OpD K B (rI (fun _ j => j ≠ 0) fun i j => .int (i.fmod j)) (.int i) (.int j) (R.guard (j ≠ 0)) (fun _ => .val (.int (i.fmod j))) := od_I (C := fun _ j => j ≠ 0) fun _ => .int _
theorem od_lt : OpD K B (rI0 fun i j => .bl (decide (i < j))) (.int i) (.int j) (.ok ()) (fun _ => .val (.bool (decide (i < j)))) := od_I0 fun _ => .bl _
theorem od_gt : OpD K B (rI0 fun i j => .bl (decide (j < i))) (.int i) (.int j) (.ok ()) (fun _ => .val (.bool (decide (j < i)))) := od_I0 fun _ => .bl _
theorem od_eqI : OpD K B rEq (.int i) (.int j) (.ok ()) (fun _ => .val (.bool (decide (i = j)))) := od_val0 (w := .bl (decide (i = j))) (fun G H vx vy Q _ hx hy q => by
  rw [hx.int_inv, hy.int_inv]
  refine ⟨rfl, ?_⟩
  rw [show decide (V.int i = V.int j) = decide (i = j) from decide_eq_decide.mpr ⟨fun h => V.int.inj h, fun h => by rw [h]⟩]
  exact q) fun _ => .bl _
end
theorem jp_neg {i : Int} (ha : JP X B ρ a (.int i)) : JP X B ρ (.UnaryOp .USub a pos) (.int (-i)) :=
  jp_of (pe_un un_neg ha) fun σ G H Q E q => ⟨G, E, fun v G1 H1 x1 E1 => ⟨i, E1.top.int_inv, q _ G1 H1 x1 (E1.pop.push (.int _))⟩⟩
theorem jt_val {β : Type} {m : R β} {bn : β → Bool} {ρ' : β → List Slot} (h : JE X B ρ e m (fun b => .val (.bool (bn b))) ρ') (he : ∀ whole, isTrue e X.env whole = (do let v ← whole; standAt e.pos; holding [v] (truthy v)) := by intro _; rfl) : JT X B ρ e m bn ρ' :=
  PT_imp (pt_val h he) fun σ H Q ⟨G, E, q⟩ => ⟨G, E, R.post_mono q fun b k v G1 H1 x1 E1 => ⟨bn b, E1.top.bl_inv, k G1 H1 x1 E1.pop⟩⟩
theorem jt_not {β : Type} {m : R β} {bn : β → Bool} {ρ' : β → List Slot} (h : JT X B ρ a m bn ρ') : JT X B ρ (.UnaryOp .Not a pos) m (fun b => !bn b) ρ' :=
  PT_imp (pt_not h) fun σ H Q ⟨G, E, q⟩ => ⟨G, E, q⟩
theorem jt_w {β : Type} {m : R β} {bn : β → Bool} {ρ' : β → List Slot} (h : JW X B ρ e m bn ρ') : JT X B ρ e m bn ρ' := PW.pt h
variable {rest : List Expr}
theorem jw_or1 {β : Type} {m : R β} {bn : β → Bool} {ρ' : β → List Slot} (h : JT X B ρ a m bn ρ') : JW X B ρ (.BoolOp .Or [a] pos) m bn ρ' := pw_or1 h
theorem tw_or {x y : Bool} (ha : TP0 X B ρ a x) (hb : JW X B ρ (.BoolOp .Or (b :: rest) pos) (.ok ()) (fun _ => y) (fun _ => ρ)) : JW X B ρ (.BoolOp .Or (a :: b :: rest) pos) (.ok ()) (fun _ => x || y) (fun _ => ρ) :=
  PW_imp (pw_or ha hb) fun σ H Q ⟨G, E, q⟩ => ⟨G, E, fun G1 H1 x1 E1 => by
    cases x with
    | false => exact ⟨G1, E1, fun G2 H2 x2 E2 => q G2 H2 (x1.trans x2) E2⟩
    | true => exact q G1 H1 x1 E1⟩
def and2 {α : Type} (ma : R α) (xa : α → Bool) (mb : R Bool) : R Bool := ma.bind fun x => if xa x = true then mb else .ok false
def or2 {α : Type} (ma : R α) (xa : α → Bool) (mb : R Bool) : R Bool := ma.bind fun x => if xa x = true then .ok true else mb
theorem jw_or {α : Type} {ma : R α} {xa : α → Bool} {mb : R Bool} (ha : JT X B ρ a ma xa (fun _ => ρ)) (hb : JW X B ρ (.BoolOp .Or (b :: rest) pos) mb (fun y => y) (fun _ => ρ)) : JW X B ρ (.BoolOp .Or (a :: b :: rest) pos) (or2 ma xa mb) (fun y => y) (fun _ => ρ) :=
  PW_imp (pw_or ha hb) fun σ H Q ⟨G, E, q⟩ => ⟨G, E, R.post_mono (R.post_bind.mp q) fun x k G1 H1 x1 E1 => by
    cases hx : xa x with
    | false =>
      rw [if_neg (by rw [hx]; decide)] at k
      exact ⟨G1, E1, R.post_mono k fun b k G2 H2 x2 E2 => k G2 H2 (x1.trans x2) E2⟩
    | true =>
      rw [if_pos hx] at k
      exact k G1 H1 x1 E1⟩
theorem jt_map {β : Type} {m : R β} {bn : β → Bool} (h : JT X B ρ e m bn (fun _ => ρ)) : JT X B ρ e (m.bind fun b => .ok (bn b)) (fun y => y) (fun _ => ρ) :=
  PT_imp h fun σ H Q ⟨G, E, q⟩ => ⟨G, E, R.post_mono (R.post_bind.mp q) fun b k => k⟩
end
end DL
namespace DL
open PySem PySem.Spec L2
def insAt : Nat → List Slot → List Ar → List Slot
  | _, _, [] => []
  | n, ρ, .val d :: as => .val d :: insAt (n + 1) ρ as
  | n, ρ, .slot i :: as => (match ρ[i]? with | some (.own _ o) => .own (n + 1) o | _ => .non) :: insAt (n + 1) (ρ.set i .non) as
def movedAt : List Slot → List Ar → List Slot
  | ρ, [] => ρ
  | ρ, .val _ :: as => movedAt ρ as
  | ρ, .slot i :: as => movedAt (ρ.set i .non) as
def relab : Slot → Option Slot → Slot
  | .own _ o, some (.own l _) => .own l o
  | _, _ => .non
def backAt (ρ0 : List Slot) : List Slot → List Ar → List Slot → List Slot
  | ρ, [], _ => ρ
  | ρ, _, [] => ρ
  | ρ, .val _ :: as, _ :: os => backAt ρ0 ρ as os
  | ρ, .slot i :: as, s :: os => backAt ρ0 (ρ.set i (relab s ρ0[i]?)) as os
def isOwn : Option Slot → Bool
  | some (.own _ _) => true
  | _ => false
def goodIn : List Slot → List Ar → Bool
  | _, [] => true
  | ρ, .val _ :: as => goodIn ρ as
  | ρ, .slot i :: as => isOwn ρ[i]? && goodIn (ρ.set i .non) as
def isOwnL (n : Nat) : Slot → Bool
  | .own l _ => l == n
  | _ => false
def goodOut : Nat → List Ar → List Slot → Bool
  | _, [], [] => true
  | n, .val _ :: as, _ :: os => goodOut (n + 1) as os
  | n, .slot _ :: as, s :: os => isOwnL (n + 1) s && goodOut (n + 1) as os
  | _, _, _ => false
def noSlots : List Ar → Bool
  | [] => true
  | .val _ :: as => noSlots as
  | .slot _ :: _ => false
def noAlis : List Slot → Bool
  | [] => true
  | .ali _ _ :: _ => false
  | _ :: r => noAlis r
theorem noAlis_get : ∀ {ρ : List Slot}, noAlis ρ = true → ∀ {i j : Nat} {p : List Nat}, ρ[i]? ≠ some (.ali j p)
  | [], _, _, _, _ => fun e => nomatch e
  | s :: ρ, h, 0, j, p => fun e => by
    simp at e
    subst e
    simp [noAlis] at h
  | s :: ρ, h, i + 1, j, p => fun e => by
    have h' : noAlis ρ = true := by
      cases s <;> simp [noAlis] at h <;> exact h
    exact noAlis_get h' (i := i) (j := j) (p := p) (by simpa using e)
section
variable {K : PySem.W.Frag} {B B' : Base} {G G' H H' : Hp}
theorem isOwn_inv {s : Option Slot} (h : isOwn s = true) : ∃ l o, s = some (.own l o) := by
  match s, h with
  | some (.own l o), _ => exact ⟨l, o, rfl⟩
theorem isOwnL_inv {n : Nat} {s : Slot} (h : isOwnL n s = true) : ∃ o, s = .own n o := by
  match s, h with
  | .own l o, h =>
    simp [isOwnL] at h
    subst h
    exact ⟨o, rfl⟩
theorem Cells.args {σ : L2.St} : ∀ {as : List Ar} {vs : List V} {ρ : List Slot} {A : List Addr} (n : Nat), Cells K B G H σ ρ A → ArOk K G σ vs as → goodIn ρ as = true →
    ∃ (As : List (List Addr)) (Ar' : List Addr), As.length = as.length ∧ (∀ B' : Base, (∀ k, B'.Mo (n + 1 + k) = As.getD k []) → (∀ k, B'.pv (n + 1 + k) = vs[k]?) → Cells K B' G H (vs.map some) (insAt n ρ as) As.flatten) ∧ Cells K B G H σ (movedAt ρ as) Ar' ∧ A.Perm (As.flatten ++ Ar') ∧
      ∀ (k i : Nat), as[k]? = some (.slot i) → ∃ l o, ρ[i]? = some (.own l o) ∧ (∀ a ∈ As.getD k [], a ∈ B.Mo l ∨ B.H0 a = none) ∧ ∀ v, σ[i]? = some (some v) → l = 0 ∨ B.pv l = some v
  | [], _, ρ, A, n, h, .nil, _ => ⟨[], A, rfl, fun _ _ _ => .nil, h, List.Perm.refl _, fun _ _ e => by simp at e⟩
  | .val d :: as, v :: vs, ρ, A, n, h, .val r q, g => by
    obtain ⟨As, A', h1, h2, h3, h4, h5⟩ := Cells.args (n + 1) h q (by simpa [goodIn] using g)
    refine ⟨[] :: As, A', by simp [h1], fun B' hB hP => ?_, h3, by simpa using h4, fun k i e => ?_⟩
    · exact .cons (A := []) (.val r) (h2 B' (fun k => by
        have := hB (k + 1)
        rw [show n + 1 + (k + 1) = n + 1 + 1 + k by omega] at this
        simpa using this) (fun k => by
        have := hP (k + 1)
        rw [show n + 1 + (k + 1) = n + 1 + 1 + k by omega] at this
        simpa using this))
    · cases k with
      | zero => simp at e
      | succ k =>
        obtain ⟨l, o, e1, e2⟩ := h5 k i (by simpa using e)
        exact ⟨l, o, e1, by simpa using e2.1, e2.2⟩
  | .slot j :: as, v :: vs, ρ, A, n, h, .slot e0 q, g => by
    simp [goodIn] at g
    obtain ⟨l, o, ho⟩ := isOwn_inv g.1
    obtain ⟨v', A1, A2, e1, hO, ⟨hl, hv⟩, c2, p⟩ := h.take1 ho
    have ev : v = v' := by
      have z := e0.symm.trans e1
      injection z with z
      injection z
    subst ev
    obtain ⟨As, A', h1, h2, h3, h4, h5⟩ := Cells.args (n + 1) c2 q g.2
    refine ⟨A1 :: As, A', by simp [h1], fun B' hB hP => ?_, h3, ?_, fun k i e => ?_⟩
    · have hins : insAt n ρ (.slot j :: as) = .own (n + 1) o :: insAt (n + 1) (ρ.set j .non) as := by
        show (match ρ[j]? with | some (.own _ o) => Slot.own (n + 1) o | _ => .non) :: _ = _
        rw [ho]
      rw [hins]
      refine .cons (A := A1) (.own hO (fun a m => .inl ?_) (.inr ?_)) (h2 B' (fun k => ?_) fun k => ?_)
      · have := hB 0
        simp at this
        rw [this]
        exact m
      · have := hP 0
        simpa using this
      · have := hB (k + 1)
        rw [show n + 1 + (k + 1) = n + 1 + 1 + k by omega] at this
        simpa using this
      · have := hP (k + 1)
        rw [show n + 1 + (k + 1) = n + 1 + 1 + k by omega] at this
        simpa using this
    · have := p.trans (h4.append_left A1)
      rw [← List.append_assoc] at this
      exact this
    · cases k with
      | zero =>
        simp at e
        subst e
        exact ⟨l, o, ho, by simpa using hl, fun w ew => by
          have z := e1.symm.trans ew
          injection z with z
          injection z with z
          rw [← z]
          exact hv⟩
      | succ k =>
        obtain ⟨l', o', q1, q2⟩ := h5 k i (by simpa using e)
        have hij : j ≠ i := fun z => by
          subst z
          by_cases hlt : j < ρ.length
          · rw [List.getElem?_set_self hlt] at q1
            cases q1
          · rw [List.getElem?_eq_none (by simpa using hlt)] at q1
            cases q1
        rw [List.getElem?_set_ne hij] at q1
        exact ⟨l', o', q1, by simpa using q2.1, q2.2⟩
theorem Cells.region {σ : L2.St} {ρ : List Slot} {A : List Addr} (h : Cells K B G H σ ρ A) : ∀ a ∈ A, (∃ l, a ∈ B.Mo l) ∨ B.H0 a = none := by
  induction h with
  | nil => exact fun _ m => nomatch m
  | cons c r ih =>
    intro a m
    rcases List.mem_append.mp m with m | m
    · cases c with
      | non => exact nomatch m
      | val _ => exact nomatch m
      | own _ hl _ => exact (hl a m).imp (fun z => ⟨_, z⟩) id
      | ali => exact nomatch m
    · exact ih a m
def slotsOf : List Ar → List Nat
  | [] => []
  | .val _ :: as => slotsOf as
  | .slot i :: as => i :: slotsOf as
theorem goodIn_nodup : ∀ {as : List Ar} {ρ : List Slot}, goodIn ρ as = true → (slotsOf as).Nodup ∧ ∀ i ∈ slotsOf as, isOwn ρ[i]? = true
  | [], _, _ => ⟨List.nodup_nil, fun _ m => nomatch m⟩
  | .val _ :: as, ρ, h => goodIn_nodup (as := as) (by simpa [goodIn] using h)
  | .slot j :: as, ρ, h => by
    simp [goodIn] at h
    obtain ⟨h1, h2⟩ := goodIn_nodup h.2
    have hj : ∀ i ∈ slotsOf as, i ≠ j := fun i m z => by
      subst z
      have := h2 i m
      by_cases hlt : i < ρ.length
      · rw [List.getElem?_set_self hlt] at this
        cases this
      · rw [List.getElem?_eq_none (by simpa using hlt)] at this
        cases this
    refine ⟨List.nodup_cons.mpr ⟨fun m => hj j m rfl, h1⟩, fun i m => ?_⟩
    rcases List.mem_cons.mp m with rfl | m
    · exact h.1
    · have := h2 i m
      rw [List.getElem?_set_ne (Ne.symm (hj i m))] at this
      exact this
theorem movedAt_len : ∀ (as : List Ar) (ρ : List Slot), (movedAt ρ as).length = ρ.length
  | [], _ => rfl
  | .val _ :: as, ρ => movedAt_len as ρ
  | .slot i :: as, ρ => by
    show (movedAt (ρ.set i .non) as).length = _
    rw [movedAt_len as, List.length_set]
theorem movedAt_get : ∀ {as : List Ar} {ρ : List Slot} {i : Nat}, i ∈ slotsOf as → i < ρ.length → (movedAt ρ as)[i]? = some .non
  | .val _ :: as, ρ, i, m, h => movedAt_get (as := as) (ρ := ρ) (by simpa [slotsOf] using m) h
  | .slot j :: as, ρ, i, m, h => by
    show (movedAt (ρ.set j .non) as)[i]? = _
    by_cases hi : i ∈ slotsOf as
    · exact movedAt_get hi (by simpa using h)
    · have e : i = j := by
        rcases List.mem_cons.mp m with e | m
        · exact e
        · exact absurd m hi
      subst e
      have keep : ∀ (as : List Ar) (ρ : List Slot), i ∉ slotsOf as → (movedAt ρ as)[i]? = ρ[i]? := by
        intro as
        induction as with
        | nil => intro ρ _; rfl
        | cons a as ih =>
          intro ρ hn
          cases a with
          | val d => exact ih ρ (by simpa [slotsOf] using hn)
          | slot k =>
            have hk : i ≠ k ∧ i ∉ slotsOf as := by simpa [slotsOf] using hn
            show (movedAt (ρ.set k .non) as)[i]? = _
            rw [ih _ hk.2, List.getElem?_set_ne (Ne.symm hk.1)]
      rw [keep as _ hi, List.getElem?_set_self h]
theorem Cells.back {σ : L2.St} {G0 : Hp} (ρ0 : List Slot) : ∀ {as : List Ar} {vs : List V} {os ρ : List Slot} {A A' : List Addr} (n : Nat), ArOk K G0 σ vs as → Cells K B' G' H' (vs.map some) os A' → Cells K B G' H' σ ρ A → goodOut n as os = true →
    (slotsOf as).Nodup → (∀ i ∈ slotsOf as, ρ[i]? = some .non) → (∀ (k i : Nat), as[k]? = some (.slot i) → ∃ l o, ρ0[i]? = some (.own l o) ∧ (∀ a, (a ∈ B'.Mo (n + 1 + k) ∨ B'.H0 a = none) → a ∈ B.Mo l ∨ B.H0 a = none) ∧ ∀ v, σ[i]? = some (some v) → l = 0 ∨ B.pv l = some v) →
    ∃ A2 C, Cells K B G' H' σ (backAt ρ0 ρ as os) A2 ∧ A2.Perm (C ++ A) ∧ C.Sublist A'
  | [], _, os, ρ, A, A', n, .nil, _, h, _, _, _, _ => ⟨A, [], by rw [backAt]; exact h, List.Perm.refl _, List.nil_sublist _⟩
  | .val d :: as, v :: vs, os, ρ, A, A', n, .val r q, c, h, g, nd, hn, hl => by
    cases c with
    | @cons _ s A1 _ os A2 c1 cr =>
      obtain ⟨A3, C, h1, h2, h3⟩ := Cells.back ρ0 (n + 1) q cr h (by simpa [goodOut] using g) (by simpa [slotsOf] using nd) (by simpa [slotsOf] using hn) (fun k i e => by
        obtain ⟨l, o, e1, e2⟩ := hl (k + 1) i (by simpa using e)
        rw [show n + 1 + (k + 1) = n + 1 + 1 + k by omega] at e2
        exact ⟨l, o, e1, e2⟩)
      exact ⟨A3, C, by rw [backAt]; exact h1, h2, h3.trans (List.sublist_append_right _ _)⟩
  | .slot j :: as, v :: vs, os, ρ, A, A', n, .slot e0 q, c, h, g, nd, hn, hl => by
    cases c with
    | @cons _ s A1 _ os A2 c1 cr =>
      have g' : isOwnL (n + 1) s = true ∧ goodOut (n + 1) as os = true := by simpa [goodOut] using g
      obtain ⟨o, rfl⟩ := isOwnL_inv g'.1
      cases c1 with
      | own hO hr _ =>
        obtain ⟨l, o0, e1, e2, e3⟩ := hl 0 j rfl
        have hj : ρ[j]? = some .non := hn j (by simp [slotsOf])
        obtain ⟨A4, c4, p4⟩ := h.put1 (l := l) hj e0 hO ⟨fun a m => e2 a (by simpa using hr a m), e3 _ e0⟩
        have nd' : j ∉ slotsOf as ∧ (slotsOf as).Nodup := by simpa [slotsOf] using nd
        obtain ⟨A3, C, h1, h2, h3⟩ := Cells.back ρ0 (n + 1) q cr c4 g'.2 nd'.2 (fun i m => by
          have hij : j ≠ i := fun z => nd'.1 (z ▸ m)
          rw [List.getElem?_set_ne hij]
          exact hn i (by simp [slotsOf, m])) (fun k i e => by
          obtain ⟨l, o, e1, e2⟩ := hl (k + 1) i (by simpa using e)
          rw [show n + 1 + (k + 1) = n + 1 + 1 + k by omega] at e2
          exact ⟨l, o, e1, e2⟩)
        refine ⟨A3, A1 ++ C, ?_, ?_, h3.append_left A1⟩
        · rw [backAt, e1]
          exact h1
        · have p5 := h2.trans (p4.append_left C)
          refine p5.trans ?_
          rw [← List.append_assoc]
          exact List.perm_append_comm.append_right A
theorem backAt_len (ρ0 : List Slot) : ∀ (as : List Ar) (os ρ : List Slot), (backAt ρ0 ρ as os).length = ρ.length
  | [], _, _ => by rw [backAt]
  | .val _ :: _, [], _ => by rw [backAt]; exact fun h => nomatch h
  | .slot _ :: _, [], _ => by rw [backAt]; exact fun h => nomatch h
  | .val _ :: as, _ :: os, ρ => by
    rw [backAt]
    exact backAt_len ρ0 as os ρ
  | .slot i :: as, s :: os, ρ => by
    rw [backAt, backAt_len ρ0 as os, List.length_set]
end
def baseOf (H G : Hp) (As : List (List Addr)) (vs : List V) (rs : Exn → Prop) : Base := ⟨H, G, fun l => match l with | 0 => [] | n + 1 => As.getD n [], rfl, fun l => match l with | 0 => none | n + 1 => vs[n]?, rs⟩
def spM (K : PySem.W.Frag) {α β : Type} (ins : α → List Slot) (m : α → R β) (sl : β → Slot) (outs : β → List Slot) : Sp := fun vs H Q _ =>
  ∃ (a : α) (G : Hp) (As : List (List Addr)), En K (baseOf H G As vs fun _ => False) G H (vs.map some) (ins a) [] ∧
    (m a).post (fun b => ∀ v G' H', En K (baseOf H G As vs fun _ => False) G' H' (vs.map some) (outs b) [(v, sl b)] → Q v H') fun _ => False
def resOk : Slot → Bool
  | .val _ => true
  | .own 0 _ => true
  | _ => false
def aliOk (ρ : List Slot) (as : List Ar) : Bool := noSlots as || noAlis ρ
theorem insAt_noAli : ∀ {as : List Ar} {n : Nat} {ρ : List Slot} {i j : Nat} {p : List Nat}, (insAt n ρ as)[i]? ≠ some (.ali j p)
  | [], n, ρ, i, j, p => fun e => nomatch e
  | .val d :: as, n, ρ, 0, j, p => fun e => by simp [insAt] at e
  | .val d :: as, n, ρ, i + 1, j, p => fun e => insAt_noAli (as := as) (n := n + 1) (ρ := ρ) (i := i) (j := j) (p := p) (by simpa [insAt] using e)
  | .slot k :: as, n, ρ, 0, j, p => fun e => by
    simp [insAt] at e
    split at e <;> cases e
  | .slot k :: as, n, ρ, i + 1, j, p => fun e => insAt_noAli (as := as) (n := n + 1) (ρ := ρ.set k .non) (i := i) (j := j) (p := p) (by simpa [insAt] using e)
theorem movedAt_noSlots : ∀ {as : List Ar} {ρ : List Slot}, noSlots as = true → movedAt ρ as = ρ
  | [], _, _ => rfl
  | .val _ :: as, ρ, h => movedAt_noSlots (as := as) h
theorem backAt_noSlots {ρ0 : List Slot} : ∀ {as : List Ar} {os ρ : List Slot}, noSlots as = true → backAt ρ0 ρ as os = ρ
  | [], _, _, _ => by rw [backAt]
  | .val _ :: as, [], _, _ => by rw [backAt]; exact fun h => nomatch h
  | .val _ :: as, _ :: os, ρ, h => by
    rw [backAt]
    exact backAt_noSlots (as := as) h
theorem backAt_noAlis {ρ0 : List Slot} : ∀ {as : List Ar} {os ρ : List Slot}, (∀ {i j : Nat} {p : List Nat}, ρ[i]? ≠ some (.ali j p)) → ∀ {i j : Nat} {p : List Nat}, (backAt ρ0 ρ as os)[i]? ≠ some (.ali j p)
  | [], _, _, h => by
    rw [backAt]
    exact h
  | .val _ :: _, [], _, h => by
    rw [backAt]
    exact h
    exact fun h => nomatch h
  | .slot _ :: _, [], _, h => by
    rw [backAt]
    exact h
    exact fun h => nomatch h
  | .val _ :: as, _ :: os, ρ, h => by
    rw [backAt]
    exact backAt_noAlis h
  | .slot k :: as, s :: os, ρ, h => by
    rw [backAt]
    refine backAt_noAlis fun {i j p} e => ?_
    by_cases hk : k = i
    · subst hk
      by_cases hlt : k < ρ.length
      · rw [List.getElem?_set_self hlt] at e
        have e : relab s ρ0[k]? = .ali j p := Option.some.inj e
        cases s <;> simp [relab] at e
        split at e <;> cases e
      · rw [List.getElem?_eq_none (by simpa using hlt)] at e
        cases e
    · rw [List.getElem?_set_ne hk] at e
      exact h e
theorem movedAt_noAlis : ∀ {as : List Ar} {ρ : List Slot}, (∀ {i j : Nat} {p : List Nat}, ρ[i]? ≠ some (.ali j p)) → ∀ {i j : Nat} {p : List Nat}, (movedAt ρ as)[i]? ≠ some (.ali j p)
  | [], _, h => h
  | .val _ :: as, ρ, h => movedAt_noAlis (as := as) h
  | .slot k :: as, ρ, h => movedAt_noAlis (as := as) (ρ := ρ.set k .non) fun {i j p} e => by
    by_cases hk : k = i
    · subst hk
      by_cases hlt : k < ρ.length
      · rw [List.getElem?_set_self hlt] at e
        cases e
      · rw [List.getElem?_eq_none (by simpa using hlt)] at e
        cases e
    · rw [List.getElem?_set_ne hk] at e
      exact h e
section
variable {K : PySem.W.Frag} {B : Base} {G H : Hp} {σ : L2.St} {ρ : List Slot} {as : List Ar} {vs : List V}
theorem call_en (En0 : En K B G H σ ρ []) (ok : ArOk K G σ vs as) (hi : goodIn ρ as = true) (hal : aliOk ρ as = true) :
    ∃ As, En K (baseOf H G As vs fun _ => False) G H (vs.map some) (insAt 0 ρ as) [] ∧ ∀ (os : List Slot) (s : Slot) (v : V) (G' H' : Hp), goodOut 0 as os = true → resOk s = true → En K (baseOf H G As vs fun _ => False) G' H' (vs.map some) os [(v, s)] →
      Ex G G' ∧ En K B G' H' σ (backAt ρ (movedAt ρ as) as os) [(v, s)] := by
  obtain ⟨A, c, nd, f⟩ := En0.own
  obtain ⟨As, Ar', h1, h2, h3, h4, h5⟩ := Cells.args (as := as) 0 (show Cells K B G H σ ρ A from c) ok hi
  have nd2 := List.nodup_append.mp (h4.nodup_iff.mp nd)
  have fA : ∀ x ∈ As.flatten, G x = none := fun x m => f x (h4.mem_iff.mpr (List.mem_append_left _ m))
  have fR : ∀ x ∈ Ar', G x = none := fun x m => f x (h4.mem_iff.mpr (List.mem_append_right _ m))
  have mo : ∀ k, (baseOf H G As vs fun _ => False).Mo (0 + 1 + k) = As.getD k [] := fun k => by
    show (match 0 + 1 + k with | 0 => [] | n + 1 => As.getD n []) = _
    rw [show 0 + 1 + k = k + 1 by omega]
  have moIn : ∀ l x, x ∈ (baseOf H G As vs fun _ => False).Mo l → x ∈ As.flatten := fun l x m => by
    cases l with
    | zero => exact nomatch m
    | succ n =>
      have m : x ∈ As.getD n [] := m
      rw [List.getD_eq_getElem?_getD] at m
      cases e : As[n]? with
      | none =>
        rw [e] at m
        exact nomatch m
      | some L =>
        rw [e] at m
        exact List.mem_flatten.mpr ⟨L, List.mem_of_getElem? e, m⟩
  have cA := h2 (baseOf H G As vs fun _ => False) mo fun k => by
    show (match 0 + 1 + k with | 0 => none | n + 1 => vs[n]?) = _
    rw [show 0 + 1 + k = k + 1 by omega]
  have thA : ∀ x ∈ As.flatten, ∃ u, H x = some u := cA.there
  have thR : ∀ x ∈ Ar', ∃ u, H x = some u := h3.there
  refine ⟨As, ⟨⟨fun x o _ e => e, fun x l mx => ?_, Ex.refl G, fun x _ e => .inl e, En0.sub⟩, ⟨_, by
      exact cA, nd2.1, fA⟩, ?_, fun i j p e => ?_⟩, ?_⟩
  · obtain ⟨u, hu⟩ := thA x (moIn l x mx)
    rw [hu]
    exact fun z => nomatch z
  · exact cA.len
  · exact absurd e insAt_noAli
  · intro os s v G' H' ho hres E'
    have hG : Ex G G' := E'.anc.gsub
    refine ⟨hG, ?_⟩
    obtain ⟨A', c', n', f'⟩ := E'.own
    cases c' with
    | @cons _ _ A1 _ _ A2 cv cr =>
      have n1 := List.nodup_append.mp n'
      have keepH : ∀ x o, x ∉ As.flatten → H x = some o → H' x = some o := fun x o hx e => E'.anc.keep x o (fun l z => hx (moIn l x z)) e
      have reg : ∀ x ∈ A1 ++ A2, x ∈ As.flatten ∨ H x = none := fun x mx => by
        have := Cells.region (Cells.cons cv cr) x mx
        rcases this with ⟨l, z⟩ | z
        · exact .inl (moIn l x z)
        · exact .inr z
      have cR : Cells K B G' H' σ (movedAt ρ as) Ar' := h3.ex hG fun x mx u e => keepH x u (fun z => nd2.2.2 x z x mx rfl) e
      obtain ⟨gn1, gn2⟩ := goodIn_nodup hi
      obtain ⟨A3, C, b1, b2, b3⟩ := Cells.back (B := B) ρ (n := 0) ok cr cR ho gn1 (fun i mi => movedAt_get mi (by
          have := gn2 i mi
          obtain ⟨l, o, e⟩ := isOwn_inv this
          exact (List.getElem?_eq_some_iff.mp e).1)) (fun k i e => by
          obtain ⟨l, o, e1, e2, e3⟩ := h5 k i e
          refine ⟨l, o, e1, fun x hx => ?_, e3⟩
          rcases hx with hx | hx
          · rw [mo] at hx
            exact e2 x hx
          · exact .inr (En0.fresh hx))
      have subC : (A1 ++ C).Sublist (A1 ++ A2) := b3.append_left A1
      have ndC : (A1 ++ C).Nodup := subC.nodup n'
      have dis : ∀ x ∈ A1 ++ A2, x ∉ Ar' := fun x mx mr => by
        rcases reg x mx with z | z
        · exact nd2.2.2 x z x mr rfl
        · obtain ⟨u, hu⟩ := thR x mr
          rw [hu] at z
          cases z
      have pA : (A1 ++ A3).Perm ((A1 ++ C) ++ Ar') := by
        rw [List.append_assoc]
        exact b2.append_left A1
      have cvB : Cell K B G' H' (some v) s A1 := by
        have cv2 : Cell K (baseOf H G As vs fun _ => False) G' H' (some v) s A1 := cv
        have hb := hres
        cases cv2 with
        | non => exact .non
        | val h => exact .val h
        | @own _ l o _ hO hl _ =>
          cases l with
          | succ n => cases hb
          | zero =>
            refine .own hO (fun x mx => .inr (En0.fresh ?_)) (.inl rfl)
            rcases hl x mx with z | z
            · exact nomatch z
            · exact z
        | ali => exact .ali
      have lenEq : (backAt ρ (movedAt ρ as) as os).length = ρ.length := by rw [backAt_len, movedAt_len]
      have anc : Anc B G' H' := by
        refine ⟨fun x o hx e => ?_, fun x l hx => ?_, En0.anc.gsub.trans hG, fun x e1 e2 => ?_, E'.anc.sub⟩
        · have e1 := En0.anc.keep x o hx e
          refine keepH x o (fun z => ?_) e1
          rcases Cells.region (show Cells K B G H σ ρ A from c) x (h4.mem_iff.mpr (List.mem_append_left _ z)) with ⟨l, y⟩ | y
          · exact hx l y
          · rw [y] at e
            cases e
        · have e1 := En0.anc.there x l hx
          by_cases hxA : x ∈ As.flatten
          · obtain ⟨L, hL, mL⟩ := List.mem_flatten.mp hxA
            obtain ⟨k, hk⟩ := List.getElem?_of_mem hL
            refine E'.anc.there x (k + 1) ?_
            show x ∈ As.getD k []
            rw [List.getD_eq_getElem?_getD, hk]
            exact mL
          · cases e : H x with
            | none => exact absurd e e1
            | some o =>
              rw [keepH x o hxA e]
              exact fun z => nomatch z
        · refine gnew_then (En0.anc.gnew x e1 e2) En0.anc.sub hG E'.anc.sub fun gx => E'.anc.gnew x ?_ gx
          intro z
          exact e1 (En0.fresh z)
      refine ⟨anc, ⟨A1 ++ A3, .cons cvB b1, pA.nodup_iff.mpr (List.nodup_append.mpr ⟨ndC, nd2.2.1, fun x mx y my e => dis x (subC.subset mx) (e ▸ my)⟩), fun x mx => ?_⟩, by rw [lenEq]; exact En0.len, fun i j p e => ?_⟩
      · rcases List.mem_append.mp (pA.mem_iff.mp mx) with mx | mx
        · exact f' x (subC.subset mx)
        · refine E'.anc.gnone ?_ (fR x mx) (cR.nt x mx)
          obtain ⟨u, hu⟩ := thR x mx
          show H x ≠ none
          rw [hu]
          exact fun z => nomatch z
      · cases hs : noSlots as with
        | false =>
          have hn : noAlis ρ = true := by
            unfold aliOk at hal
            rw [hs] at hal
            simpa using hal
          exact absurd e (backAt_noAlis (movedAt_noAlis (noAlis_get hn)))
        | true =>
          rw [backAt_noSlots hs, movedAt_noSlots hs] at e
          obtain ⟨v', w, q1, q2, q3⟩ := En0.ali i j p e
          refine ⟨v', w, q1, q2, q3.ex fun x o e => keepH x o (fun z => ?_) e⟩
          have hk : ∀ {as : List Ar} {As : List (List Addr)}, noSlots as = true → As.length = as.length → (∀ k : Nat, k < As.length → As.getD k [] = []) → As.flatten = [] := fun {as As} _ hl hk => by
            rw [List.flatten_eq_nil_iff]
            intro L hL
            obtain ⟨k, hk'⟩ := List.getElem?_of_mem hL
            have := hk k (List.getElem?_eq_some_iff.mp hk').1
            rw [List.getD_eq_getElem?_getD, hk'] at this
            exact this
          have vals : ∀ {as : List Ar} {vs : List V} {n : Nat} {ρ : List Slot} {A : List Addr} {B' : Base}, noSlots as = true → Cells K B' G H (vs.map some) (insAt n ρ as) A → A = [] := by
            intro as
            induction as with
            | nil =>
              intro vs n ρ A B' _ c
              cases vs with
              | nil =>
                cases c
                rfl
              | cons v vs => cases c
            | cons a as ih =>
              intro vs n ρ A B' hs c
              cases a with
              | slot i => cases hs
              | val d =>
                cases vs with
                | nil => cases c
                | cons v vs =>
                  cases c with
                  | cons c r =>
                    cases c
                    exact ih hs r
          have := vals hs cA
          rw [this] at z
          exact nomatch z
theorem call_sp {α β : Type} {ins : α → List Slot} {m : α → R β} {sl : β → Slot} {outs : β → List Slot} {Q : VK} {E : XK} (a : α) (En0 : En K B G H σ ρ []) (ok : ArOk K G σ vs as) (hi : goodIn ρ as = true) (hins : insAt 0 ρ as = ins a)
    (ho : ∀ b, goodOut 0 as (outs b) = true) (hal : aliOk ρ as = true) (hres : ∀ b, resOk (sl b) = true) (hr : ∀ e, ¬ B.rs e)
    (q : (m a).post (fun b => ∀ v G' H', Ex G G' → En K B G' H' σ (backAt ρ (movedAt ρ as) as (outs b)) [(v, sl b)] → Q v H') B.rs) : spM K ins m sl outs vs H Q E := by
  obtain ⟨As, c1, c2⟩ := call_en En0 ok hi hal
  refine ⟨a, G, As, by rw [← hins]; exact c1, ?_⟩
  cases hm : m a with
  | bad =>
    rw [hm] at q
    exact q.elim
  | err e =>
    rw [hm] at q
    exact (hr e q).elim
  | ok b =>
    rw [hm] at q
    intro v G' H' E'
    obtain ⟨hG, E2⟩ := c2 _ _ v G' H' (ho b) (hres b) E'
    exact q v G' H' hG E2
end
section
variable {X : Cx} {B : Base} {ρ : List Slot} {e : Expr} {es : List Expr} {pos : Pos}
theorem ja_nil : JA X B ρ [] (.ok ()) (fun _ => []) (fun _ => ρ) := PA_imp pa_nil fun σ H Q ⟨G, E, q⟩ => q [] G H (Ex.refl G) E .nil
theorem ja_p {d : D} {β : Type} {m : R β} {as : β → List Ar} {ρ' : β → List Slot} (h : JP X B ρ e d) (t : JA X B ρ es m as ρ') (hst : starEach (e :: es) X.env = (false, eval e X.env) :: starEach es X.env := by rfl) : JA X B ρ (e :: es) m (fun b => .val d :: as b) ρ' :=
  PA_imp (pa_cons h t hst) fun σ H Q ⟨G, E, q⟩ => ⟨G, E, fun v G1 H1 x1 E1 => ⟨G1, E1.pop, R.post_mono q fun b k vs G2 H2 x2 E2 ok => k _ G2 H2 (x1.trans x2) E2 (.val (E1.top.ex x2) ok)⟩⟩
theorem ja_e {α β : Type} {ma : R α} {xa : α → D} {ρa : α → List Slot} {mb : α → R β} {as : α → β → List Ar} {ρ' : α → β → List Slot} (h : JE X B ρ e ma (fun x => .val (xa x)) ρa) (t : ∀ x, JA X B (ρa x) es (mb x) (as x) (ρ' x)) (hst : starEach (e :: es) X.env = (false, eval e X.env) :: starEach es X.env := by rfl) :
    JA X B ρ (e :: es) (ma.bind fun x => (mb x).bind fun y => .ok (x, y)) (fun p => .val (xa p.1) :: as p.1 p.2) (fun p => ρ' p.1 p.2) := by
  have t' : PA X es (fun σ H Q => ∃ x, tJA X.K B (ρa x) (mb x) (as x) (ρ' x) σ H Q) := ⟨fun pos pins s σ H Q I ⟨x, q⟩ => (t x).run pos pins s σ H Q I q⟩
  exact PA_imp (pa_cons h t' hst) fun σ H Q ⟨G, E, q⟩ => ⟨G, E, R.post_mono (R.post_bind.mp q) fun x k v G1 H1 x1 E1 => ⟨x, G1, E1.pop, R.post_mono (R.post_bind.mp k) fun y k vs G2 H2 x2 E2 ok => k _ G2 H2 (x1.trans x2) E2 (.val (E1.top.ex x2) ok)⟩⟩
theorem ja_s (i : Nat) {x : Str} {β : Type} {m : R β} {as : β → List Ar} {ρ' : β → List Slot} (t : JA X B ρ es m as ρ') (h : isOwn ρ[i]? = true := by rfl) (hN : X.N[i]? = some x := by rfl) (hv : Vis X.env.scope x := by first | exact Or.inl rfl | exact Or.inr (Or.inl rfl) | exact Or.inr (Or.inr rfl))
    (hd : (x == ("__debug__" : Str)) = false := by decide) (hcd : (x == ("__classdict__" : Str)) = false := by decide) : JA X B ρ (.Name x pos :: es) m (fun b => .slot i :: as b) ρ' :=
  PA_imp (pa_cons (pv i hN hv hd hcd) t) fun σ H Q ⟨G, E, q⟩ => by
    obtain ⟨l, o, e⟩ := isOwn_inv h
    obtain ⟨A, c, _, _⟩ := E.own
    obtain ⟨v, _, _, e1, _⟩ := Cells.take1 (show Cells X.K B G H σ ρ A from c) e
    exact ⟨v, e1, G, E, R.post_mono q fun b k vs G2 H2 x2 E2 ok => k _ G2 H2 x2 E2 (.slot e1 ok)⟩
def arDs : List Ar → List D
  | [] => []
  | .val d :: as => d :: arDs as
  | .slot _ :: as => .none :: arDs as
theorem ArOk.ds {K : PySem.W.Frag} {G : Hp} {σ : L2.St} {vs : List V} {as : List Ar} (h : ArOk K G σ vs as) (hs : noSlots as = true) : RpAll K G vs (arDs as) := by
  induction h with
  | nil => exact .nil
  | val r _ ih => exact .cons r (ih hs)
  | slot _ _ _ => cases hs
theorem je_lst {β : Type} {m : R β} {as : β → List Ar} {ρ' : β → List Slot} (h : JA X B ρ es m as ρ') (hs : ∀ b, noSlots (as b) = true := by intro _; rfl) (hl : ∀ b, (arDs (as b)).length ≤ 1000 := by intro _; exact of_decide_eq_true rfl) : JE X B ρ (.List es pos) m (fun b => .own 0 (.lst ((arDs (as b)).map OT.dat))) ρ' :=
  PE_imp (pe_lst h) fun σ H Q ⟨G, E, q⟩ => ⟨G, E, R.post_mono q fun b k vs G1 H1 x1 E1 ok => by
    have r := ok.ds (hs b)
    refine ⟨?_, fun p hp => k _ G1 _ x1 (E1.newL hp r)⟩
    rw [r.len]
    exact Nat.le_of_lt (small1000 (hl b))⟩
section
variable {CX : CXT} {k : Nat} {f : Addr} {fd : FuncData} {ps : List Str} {EE : XK} {x : Str} {p : Pos}
theorem je_call {α β γ : Type} {ins : α → List Slot} {mf : α → R β} {sl : β → Slot} {outs : β → List Slot} (F : FnG X.prog X.w X.K X.mg X.base CX k f fd ps (spM X.K ins mf sl outs)) (hr : RoomG k X.A) (hg : Gl X x) (hm : X.mg x = some (.ref f)) (hk : PySem.W.keepIn X.K (.ref f) = true)
    (hb : Binds X.K fd ps []) (hx : Passes CX X EE) {ma : R γ} {as : γ → List Ar} {ρa : γ → List Slot} (arg : γ → α) (ha : JA X B ρ (e :: es) ma as ρa) (hne : ∀ e, ¬ B.rs e) (hi : ∀ c, goodIn (ρa c) (as c) = true := by intro _; rfl) (hins : ∀ c, insAt 0 (ρa c) (as c) = ins (arg c) := by intro _; rfl)
    (ho : ∀ c b, goodOut 0 (as c) (outs b) = true := by intro _ _; rfl) (hal : ∀ c, aliOk (ρa c) (as c) = true := by intro _; rfl) (hres : ∀ b, resOk (sl b) = true := by intro _; rfl)
    (hdb : (x == ("__debug__" : Str)) = false := by decide) (he : starEach (e :: es) X.env = (false, eval e X.env) :: starEach es X.env := by rfl) (hpl : (backTo pos (starEach es X.env)).any (·.1) = false := by rfl) :
    JE X B ρ (.Call (.Name x p) (e :: es) [] pos) (ma.bind fun c => (mf (arg c)).bind fun b => .ok (c, b)) (fun y => sl y.2) (fun y => backAt (ρa y.1) (movedAt (ρa y.1) (as y.1)) (as y.1) (outs y.2)) :=
  PE_imp (pe_callG F hr hg hm hk hb hx ha hdb he hpl) fun σ H Q ⟨G, E, q⟩ => ⟨G, E, R.post_mono (R.post_bind.mp q) fun c k vs G1 H1 x1 E1 ok => by
    show spM X.K ins mf sl outs (vs ++ []) H1 Q EE
    rw [List.append_nil]
    exact call_sp (arg c) E1 ok (hi c) (hins c) (ho c) (hal c) hres hne (R.post_mono (R.post_bind.mp k) fun b k v G2 H2 x2 E2 => k v G2 H2 (x1.trans x2) E2)⟩
theorem je_callP {α β : Type} {ins : α → List Slot} {mf : α → R β} {sl : β → Slot} {outs : β → List Slot} (F : FnG X.prog X.w X.K X.mg X.base CX k f fd ps (spM X.K ins mf sl outs)) (hr : RoomG k X.A) (hg : Gl X x) (hm : X.mg x = some (.ref f)) (hk : PySem.W.keepIn X.K (.ref f) = true)
    (hb : Binds X.K fd ps []) (hx : Passes CX X EE) {as : List Ar} (arg : α) (ha : JA X B ρ (e :: es) (.ok ()) (fun _ => as) (fun _ => ρ)) (hne : ∀ e, ¬ B.rs e) (hi : goodIn ρ as = true := by rfl) (hins : insAt 0 ρ as = ins arg := by rfl)
    (ho : ∀ b, goodOut 0 as (outs b) = true := by intro _; rfl) (hal : aliOk ρ as = true := by rfl) (hres : ∀ b, resOk (sl b) = true := by intro _; rfl)
    (hdb : (x == ("__debug__" : Str)) = false := by decide) (he : starEach (e :: es) X.env = (false, eval e X.env) :: starEach es X.env := by rfl) (hpl : (backTo pos (starEach es X.env)).any (·.1) = false := by rfl) :
    JE X B ρ (.Call (.Name x p) (e :: es) [] pos) (mf arg) sl (fun y => backAt ρ (movedAt ρ as) as (outs y)) :=
  PE_imp (pe_callG F hr hg hm hk hb hx ha hdb he hpl) fun σ H Q ⟨G, E, q⟩ => ⟨G, E, fun vs G1 H1 x1 E1 ok => by
    show spM X.K ins mf sl outs (vs ++ []) H1 Q EE
    rw [List.append_nil]
    exact call_sp arg E1 ok hi hins ho hal hres hne (R.post_mono q fun b k v G2 H2 x2 E2 => k v G2 H2 (x1.trans x2) E2)⟩
end
end
end DL
namespace DL
open PySem PySem.Spec L2
inductive Fl (N L T : Type) where
  | nx (n : N)
  | ct (l : L)
  | bk (l : L)
  | rt (t : T)
structure Fin (N L T : Type) where
  n : N → List Slot
  c : L → List Slot
  k : L → List Slot
  s : T → Slot
  t : T → List Slot
def flP (K : PySem.W.Frag) (B : Base) (G : Hp) (D : Ends) {N L T : Type} (F : Fin N L T) : Fl N L T → Prop
  | .nx n => ∀ σ' G' H', Ex G G' → En K B G' H' σ' (F.n n) [] → D.nx σ' H'
  | .ct l => ∀ σ' G' H', Ex G G' → En K B G' H' σ' (F.c l) [] → D.ct σ' H'
  | .bk l => ∀ σ' G' H', Ex G G' → En K B G' H' σ' (F.k l) [] → D.bk σ' H'
  | .rt t => ∀ v σ' G' H', Ex G G' → En K B G' H' σ' (F.t t) [(v, F.s t)] → D.rt v H'
def tJS (K : PySem.W.Frag) (B : Base) (ρ : List Slot) {N L T : Type} (m : R (Fl N L T)) (F : Fin N L T) : TS := fun D σ H =>
  ∃ G, En K B G H σ ρ [] ∧ m.post (flP K B G D F) B.rs
def JS (X : Cx) (B : Base) (ρ : List Slot) (st : Stmt) {N L T : Type} (m : R (Fl N L T)) (F : Fin N L T) : Prop := PS X st (tJS X.K B ρ m F)
def JSs (X : Cx) (B : Base) (ρ : List Slot) (sts : List Stmt) {N L T : Type} (m : R (Fl N L T)) (F : Fin N L T) : Prop := PSs X sts (tJS X.K B ρ m F)
def tJ1 (K : PySem.W.Frag) (B : Base) (ρ : List Slot) {β : Type} (m : R β) (ρ' : β → List Slot) : TS := fun D σ H =>
  ∃ G, En K B G H σ ρ [] ∧ m.post (fun b => ∀ σ' G' H', Ex G G' → En K B G' H' σ' (ρ' b) [] → D.nx σ' H') B.rs
def J1 (X : Cx) (B : Base) (ρ : List Slot) (st : Stmt) {β : Type} (m : R β) (ρ' : β → List Slot) : Prop := PS X st (tJ1 X.K B ρ m ρ')
def bindF {N1 N L T : Type} (m : R (Fl N1 L T)) (k : N1 → R (Fl N L T)) : R (Fl N L T) := m.bind fun
  | .nx n => k n
  | .ct l => .ok (.ct l)
  | .bk l => .ok (.bk l)
  | .rt t => .ok (.rt t)
theorem flP_ex {K : PySem.W.Frag} {B : Base} {G G1 : Hp} {D : Ends} {N L T : Type} {F : Fin N L T} {f : Fl N L T} (h : flP K B G D F f) (e : Ex G G1) : flP K B G1 D F f := by
  cases f with
  | nx n => exact fun σ' G' H' x E => h σ' G' H' (e.trans x) E
  | ct n => exact fun σ' G' H' x E => h σ' G' H' (e.trans x) E
  | bk n => exact fun σ' G' H' x E => h σ' G' H' (e.trans x) E
  | rt n => exact fun v σ' G' H' x E => h v σ' G' H' (e.trans x) E
section
variable {X : Cx} {B : Base} {ρ : List Slot} {st : Stmt} {rest : List Stmt} {N N1 L T β : Type} {F : Fin N L T} {pos : Pos} {e : Expr}
theorem js_nil (bs : List Bool) (n : N) (h : forgot ρ bs = F.n n := by rfl) : JSs X B ρ [] (.ok (.nx n)) F :=
  PSs_imp pss_nil fun D σ H ⟨G, E, q⟩ => q σ G H (Ex.refl G) (by
    rw [← h]
    exact E.forgot bs)
theorem js_one {m : R (Fl N L T)} (h : JS X B ρ st m F) : JSs X B ρ [st] m F := pss_one h
theorem js_cons1 {m : R β} {ρ' : β → List Slot} {k : β → R (Fl N L T)} (h : J1 X B ρ st m ρ') (r : ∀ b, JSs X B (ρ' b) rest (k b) F) : JSs X B ρ (st :: rest) (m.bind k) F := by
  have r' : PSs X rest (fun D σ H => ∃ b, tJS X.K B (ρ' b) (k b) F D σ H) := ⟨fun pins s σ H D I ⟨b, q⟩ => (r b).run pins s σ H D I q⟩
  exact PSs_imp (pss_cons h r') fun D σ H ⟨G, E, q⟩ => ⟨G, E, R.post_mono (R.post_bind.mp q) fun b q1 σ' G' H' x E' => ⟨b, G', E', R.post_mono q1 fun f q2 => flP_ex q2 x⟩⟩
theorem js_cons {m : R (Fl N1 L T)} {ρ1 : N1 → List Slot} {k : N1 → R (Fl N L T)} (h : JS X B ρ st m ⟨ρ1, F.c, F.k, F.s, F.t⟩) (r : ∀ n, JSs X B (ρ1 n) rest (k n) F) : JSs X B ρ (st :: rest) (bindF m k) F := by
  have r' : PSs X rest (fun D σ H => ∃ b, tJS X.K B (ρ1 b) (k b) F D σ H) := ⟨fun pins s σ H D I ⟨b, q⟩ => (r b).run pins s σ H D I q⟩
  exact PSs_imp (pss_cons h r') fun D σ H ⟨G, E, q⟩ => ⟨G, E, R.post_mono (R.post_bind.mp q) fun f q1 => by
    cases f with
    | nx n => exact fun σ' G' H' x E' => ⟨n, G', E', R.post_mono q1 fun f q2 => flP_ex q2 x⟩
    | ct n => exact q1
    | bk n => exact q1
    | rt n => exact q1⟩
theorem js_ret {m : R β} {sl : β → Slot} {ρ' : β → List Slot} (f : β → T) (bs : List Bool) (h : JE X B ρ e m sl ρ') (hs : ∀ b, F.s (f b) = sl b := by intro _; rfl) (ht : ∀ b, forgot (ρ' b) bs = F.t (f b) := by intro _; rfl) : JS X B ρ (.Return (some e) pos) (m.bind fun b => .ok (.rt (f b))) F :=
  PS_imp (ps_ret h) fun D σ H ⟨G, E, q⟩ => ⟨G, E, R.post_mono (R.post_bind.mp q) fun b q1 v G' H' x E' => q1 v σ G' H' x (by
    rw [hs b, ← ht b]
    obtain ⟨A, c, nd, f'⟩ := E'.own
    cases c with
    | @cons _ _ A1 _ _ A2 c1 cr =>
      obtain ⟨A3, h1, h2⟩ := Cells.forgot bs (show Cells X.K B G' H' σ (ρ' b) A2 from cr)
      have sub : (A1 ++ A3).Sublist (A1 ++ A2) := h2.append_left A1
      refine ⟨E'.anc, ⟨A1 ++ A3, .cons c1 h1, sub.nodup nd, fun a m => f' a (sub.subset m)⟩, by rw [forgot_len]; exact E'.len, fun i j p e => ?_⟩
      rcases forgot_get (ρ' b) bs i _ e with z | z
      · cases z
      · exact E'.ali i j p z)⟩
theorem js_if {c : Expr} {a b : List Stmt} {mc : R β} {bn : β → Bool} {ρ' : β → List Slot} {ma mb : β → R (Fl N L T)} (h : JT X B ρ c mc bn ρ') (ha : ∀ x, JSs X B (ρ' x) a (ma x) F) (hb : ∀ x, JSs X B (ρ' x) b (mb x) F) :
    JS X B ρ (.If c a b pos) (mc.bind fun x => if bn x = true then ma x else mb x) F := by
  have ha' : PSs X a (fun D σ H => ∃ x, tJS X.K B (ρ' x) (ma x) F D σ H) := ⟨fun pins s σ H D I ⟨x, q⟩ => (ha x).run pins s σ H D I q⟩
  have hb' : PSs X b (fun D σ H => ∃ x, tJS X.K B (ρ' x) (mb x) F D σ H) := ⟨fun pins s σ H D I ⟨x, q⟩ => (hb x).run pins s σ H D I q⟩
  refine PS_imp (ps_if h ha' hb') fun D σ H ⟨G, E, q⟩ => ⟨G, E, R.post_mono (R.post_bind.mp q) fun x q1 G' H' y E' => ?_⟩
  cases hx : bn x with
  | true =>
    rw [if_pos hx] at q1
    exact ⟨x, G', E', R.post_mono q1 fun f q2 => flP_ex q2 y⟩
  | false =>
    rw [if_neg (by rw [hx]; decide)] at q1
    exact ⟨x, G', E', R.post_mono q1 fun f q2 => flP_ex q2 y⟩
theorem js_ifP {c : Expr} {a b : List Stmt} {t : Bool} {ma mb : R (Fl N L T)} (h : TP0 X B ρ c t) (ha : JSs X B ρ a ma F) (hb : JSs X B ρ b mb F) : JS X B ρ (.If c a b pos) (if t = true then ma else mb) F :=
  js_if (mc := .ok ()) (bn := fun _ => t) (ma := fun _ => ma) (mb := fun _ => mb) h (fun _ => ha) fun _ => hb
theorem j1_expr {m : R β} {sl : β → Slot} {ρ' : β → List Slot} (h : JE X B ρ e m sl ρ') (hs : swapsWith e none pos.line X.env = pure false := by rfl) : J1 X B ρ (.Expr e pos) m ρ' :=
  PS_imp (ps_expr h hs) fun D σ H ⟨G, E, q⟩ => ⟨G, E, R.post_mono q fun b q1 v G' H' x E' => q1 σ G' H' x E'.pop⟩
theorem j1_set (i : Nat) {x : Str} {pos' : Pos} {m : R β} {sl : β → Slot} {ρ' : β → List Slot} (hN : X.N.Nodup) (h : JE X B ρ e m sl ρ') (hi : X.N[i]? = some x := by rfl) (hx : Loc X.env.scope x := by first | exact Or.inl rfl | exact Or.inr rfl)
    (hlt : ∀ b, i < (ρ' b).length := by intro _; exact of_decide_eq_true rfl) (hal : ∀ b, noAli i (ρ' b) = true := by intro _; rfl) (hres : ∀ b, resOk (sl b) = true := by intro _; rfl)
    (hs : swapsWith e (some (.Name x pos')) pos.line X.env = pure false := by rfl) (hf : X.fn x = true ∨ X.env.scope.names.lookup x = some .local := by first | exact .inl rfl | exact .inr rfl) : J1 X B ρ (.Assign [.Name x pos'] e pos) m (fun b => (ρ' b).set i (sl b)) :=
  PS_imp (ps_set (i := i) hN hi hx h (hs := hs) (hf := hf)) fun D σ H ⟨G, E, q⟩ => ⟨G, E, R.post_mono q fun b q1 v G' H' x E' => q1 (σ.set i (some v)) G' H' x (E'.set (hlt b) (fun j p z => by
    have := hres b
    rw [z] at this
    cases this) (hal b))⟩
end
end DL
namespace DL
open PySem PySem.Spec L2
section
variable {K : PySem.W.Frag} {B : Base} {G G' H H' : Hp} {σ : L2.St} {ρ : List Slot} {ex : List (V × Slot)}
theorem own_dats : ∀ {vs : List V} {ds : List D}, RpAll K G vs ds → OwnAll K G H vs (ds.map OT.dat) []
  | _, _, .nil => .nil
  | _, _, .cons h r => .cons (A := []) (A' := []) (.dat h) (own_dats r)
theorem own_dats_inv : ∀ {vs : List V} {ds : List D} {A : List Addr}, OwnAll K G H vs (ds.map OT.dat) A → A = [] ∧ RpAll K G vs ds
  | _, [], _, h => by
    cases h
    exact ⟨rfl, .nil⟩
  | _, d :: ds, _, h => by
    cases h with
    | cons h r =>
      cases h with
      | dat h =>
        obtain ⟨e, r⟩ := own_dats_inv r
        exact ⟨by rw [e]; rfl, .cons h r⟩
theorem En.ownD (E : En K B G H σ ρ ex) {i l : Nat} {ds : List D} (h : ρ[i]? = some (.own l (.lst (ds.map OT.dat)))) (hal : noAlis ρ = true) : ∃ p vs, σ[i]? = some (some (.ref p)) ∧ H p = some (.lst vs) ∧ RpAll K G vs ds ∧
    ∀ G' H1 ex' vs' ds', En K B G' H1 σ ρ ex' → Ex G G' → H1 p = some (.lst vs) → RpAll K G' vs' ds' → En K B G' (upd H1 p (.lst vs')) σ (ρ.set i (.own l (.lst (ds'.map OT.dat)))) ex' := by
  obtain ⟨A, c, n, f⟩ := E.own
  have gen : ∀ {G H : Hp} {ex : List (V × Slot)} {A : List Addr}, Cells K B G H (ex.map (fun p => some p.1) ++ σ) (ex.map (·.2) ++ ρ) A → ∃ p vs A1 A2, σ[i]? = some (some (.ref p)) ∧ H p = some (.lst vs) ∧ RpAll K G vs ds ∧ A1 = [p] ∧ ((p ∈ B.Mo l ∨ B.H0 p = none) ∧ (l = 0 ∨ B.pv l = some (.ref p))) ∧
      Cells K B G H (ex.map (fun p => some p.1) ++ σ) ((ex.map (·.2) ++ ρ).set (ex.length + i) .non) A2 ∧ A.Perm (A1 ++ A2) := fun {G H ex A} c => by
    obtain ⟨v, A1, A2, e1, hO, ⟨hl, hv⟩, c2, p⟩ := c.take1 (i := ex.length + i) (l := l) (o := .lst (ds.map OT.dat)) (by
      rw [List.getElem?_append_right (by simp), List.length_map]
      simpa using h)
    rw [List.getElem?_append_right (by simp), List.length_map] at e1
    cases hO with
    | @lst a vs _ A3 ha hall =>
      obtain ⟨e3, r⟩ := own_dats_inv hall
      subst e3
      exact ⟨a, vs, [a], A2, by simpa using e1, ha, r, rfl, ⟨hl a (by simp), hv⟩, c2, p⟩
  obtain ⟨p, vs, A1, A2, e1, e2, e3, e4, e5, c2, pm⟩ := gen c
  refine ⟨p, vs, e1, e2, e3, fun G' H1 ex' vs' ds' E' hG hp r' => ?_⟩
  obtain ⟨A', c', n', f'⟩ := E'.own
  obtain ⟨q, ws, B1, B2, g1, g2, g3, g4, g5, d2, pm'⟩ := gen c'
  have epq : q = p := by
    have z := g1.symm.trans e1
    injection z with z
    injection z with z
    injection z
  subst epq
  subst g4
  have nq := pm'.nodup_iff.mp n'
  have nq2 : q ∉ B2 := (List.nodup_cons.mp nq).1
  have fq : G' q = none := f' q (pm'.mem_iff.mpr (by simp))
  have d3 : Cells K B G' (upd H1 q (.lst vs')) (ex'.map (fun p => some p.1) ++ σ) ((ex'.map (·.2) ++ ρ).set (ex'.length + i) .non) B2 := d2.ex (Ex.refl _) fun a m u e => by
    rw [upd_ne (fun z => nq2 (by rw [← z]; exact m))]
    exact e
  have hi : i < ρ.length := (List.getElem?_eq_some_iff.mp h).1
  obtain ⟨A3, c3, p3⟩ := d3.put1 (i := ex'.length + i) (l := l) (o := .lst (ds'.map OT.dat)) (v := .ref q) (A1 := [q]) (by
      rw [List.getElem?_set_self (by simp; omega)]) (by
      rw [List.getElem?_append_right (by simp), List.length_map]
      simpa using g1) (.lst upd_same (own_dats r')) ⟨fun a m => by
      rw [List.mem_singleton.mp m]
      exact g5.1, g5.2⟩
  rw [List.set_set, List.set_append_right _ _ (by simp), List.length_map, Nat.add_sub_cancel_left] at c3
  refine ⟨E'.anc.put fq (g5.1.imp (fun z => ⟨l, z⟩) id) _, ⟨A3, c3, p3.nodup_iff.mpr nq, fun a m => ?_⟩, by rw [List.length_set]; exact E'.len, fun k j pa e => ?_⟩
  · exact f' a (pm'.mem_iff.mpr (p3.mem_iff.mp m))
  · have hk : i ≠ k := fun z => by
      subst z
      rw [List.getElem?_set_self hi] at e
      cases e
    rw [List.getElem?_set_ne hk] at e
    exact absurd e (noAlis_get hal)
end
def tJG (K : PySem.W.Frag) (B : Base) (ρ : List Slot) (d : D) {γ : Type} (m : R γ) (ρ' : γ → List Slot) : TG := fun v σ H Q =>
  ∃ G, En K B G H σ ρ [] ∧ Rp K G v d ∧ m.post (fun c => ∀ σ' G' H', Ex G G' → En K B G' H' σ' (ρ' c) [] → Q σ' H') B.rs
def JG (X : Cx) (B : Base) (ρ : List Slot) (tg : Expr) (d : D) {γ : Type} (m : R γ) (ρ' : γ → List Slot) : Prop := PG X tg (tJG X.K B ρ d m ρ')
def tJGs (K : PySem.W.Frag) (B : Base) (ρ : List Slot) (ds : List D) {γ : Type} (m : R γ) (ρ' : γ → List Slot) : TGs := fun vs σ H Q =>
  ∃ G, En K B G H σ ρ [] ∧ RpAll K G vs ds ∧ m.post (fun c => ∀ σ' G' H', Ex G G' → En K B G' H' σ' (ρ' c) [] → Q σ' H') B.rs
def JGs (X : Cx) (B : Base) (ρ : List Slot) (ts : List Expr) (ds : List D) {γ : Type} (m : R γ) (ρ' : γ → List Slot) : Prop := PGs X ts (tJGs X.K B ρ ds m ρ')
section
variable {X : Cx} {B : Base} {ρ : List Slot} {pos : Pos} {e a b : Expr}
theorem PG_imp {e : Expr} {t t' : TG} (h : PG X e t) (k : ∀ v σ H Q, t' v σ H Q → t v σ H Q) : PG X e t' := ⟨fun pins s σ H v u Q I r q => h.run pins s σ H v u Q I r (k v σ H Q q)⟩
theorem PGs_imp {e : List Expr} {t t' : TGs} (h : PGs X e t) (k : ∀ v σ H Q, t' v σ H Q → t v σ H Q) : PGs X e t' := ⟨fun pins s σ H v u Q I r q => h.run pins s σ H v u Q I r (k v σ H Q q)⟩
theorem jg_name (i : Nat) {x : Str} {d : D} (hN : X.N.Nodup) (hi : X.N[i]? = some x := by rfl) (hx : Loc X.env.scope x := by first | exact Or.inl rfl | exact Or.inr rfl) (hf : X.fn x = true ∨ X.env.scope.names.lookup x = some .local := by first | exact .inl rfl | exact .inr rfl)
    (hlt : i < ρ.length := by exact of_decide_eq_true rfl) (hal : noAli i ρ = true := by rfl) : JG X B ρ (.Name x pos) d (.ok ()) (fun _ => ρ.set i (.val d)) :=
  PG_imp (pg_name (i := i) hN hi hx hf) fun v σ H Q ⟨G, E, r, q⟩ => q (σ.set i (some v)) G H (Ex.refl G) ((E.push r).set hlt (fun _ _ z => nomatch z) hal)
theorem jgs_nil : JGs X B ρ [] [] (.ok ()) (fun _ => ρ) := PGs_imp pgs_nil fun vs σ H Q ⟨G, E, r, q⟩ => by
  cases r
  exact ⟨rfl, q σ G H (Ex.refl G) E⟩
theorem jgs_cons {es : List Expr} {d : D} {ds : List D} {γ δ : Type} {m : R γ} {ρ1 : γ → List Slot} {m2 : γ → R δ} {ρ2 : γ → δ → List Slot} (h : JG X B ρ e d m ρ1) (t : ∀ c, JGs X B (ρ1 c) es ds (m2 c) (ρ2 c))
    (hs : (assignEach (e :: es) X.env).map (·.2) = assign e X.env :: (assignEach es X.env).map (·.2) := by rfl) : JGs X B ρ (e :: es) (d :: ds) (m.bind fun c => (m2 c).bind fun c2 => .ok (c, c2)) (fun p => ρ2 p.1 p.2) := by
  have t' : PGs X es (fun vs σ H Q => ∃ c, tJGs X.K B (ρ1 c) ds (m2 c) (ρ2 c) vs σ H Q) := ⟨fun pins s σ H vs us Q I r ⟨c, q⟩ => (t c).run pins s σ H vs us Q I r q⟩
  refine PGs_imp (pgs_cons h t' hs) fun vs σ H Q ⟨G, E, r, q⟩ => ?_
  cases r with
  | cons r rr => exact ⟨_, _, rfl, G, E, r, R.post_mono (R.post_bind.mp q) fun c q1 σ' G' H' x E' => ⟨c, G', E', rr.ex x, R.post_mono (R.post_bind.mp q1) fun c2 q2 σ2 G2 H2 x2 E2 => q2 σ2 G2 H2 (x.trans x2) E2⟩⟩
theorem jgs_p {es : List Expr} {d : D} {ds : List D} {δ : Type} {ρ1 : List Slot} {m2 : R δ} {ρ2 : δ → List Slot} (h : JG X B ρ e d (.ok ()) (fun _ => ρ1)) (t : JGs X B ρ1 es ds m2 ρ2)
    (hs : (assignEach (e :: es) X.env).map (·.2) = assign e X.env :: (assignEach es X.env).map (·.2) := by rfl) : JGs X B ρ (e :: es) (d :: ds) m2 ρ2 := by
  refine PGs_imp (pgs_cons h t hs) fun vs σ H Q ⟨G, E, r, q⟩ => ?_
  cases r with
  | cons r rr => exact ⟨_, _, rfl, G, E, r, fun σ' G' H' x E' => ⟨G', E', rr.ex x, R.post_mono q fun c2 q2 σ2 G2 H2 x2 E2 => q2 σ2 G2 H2 (x.trans x2) E2⟩⟩
theorem jg_tup {es : List Expr} {k : Nat} {ds : List D} {γ : Type} {m : R γ} {ρ' : γ → List Slot} (hc : X.calm = true) (h : JGs X B ρ es ds m ρ') (hn : (assignEach es X.env).length = ds.length := by rfl) (hst : (assignEach es X.env).findIdx? (·.1) = none := by rfl) : JG X B ρ (.Tuple es k pos) (.tuple ds) m ρ' :=
  PG_imp (pg_tup (n := ds.length) hc h hn hst) fun v σ H Q ⟨G, E, r, q⟩ => by
    obtain ⟨a, xs, rfl, hS, hr⟩ := r.tup_inv
    exact ⟨a, xs, rfl, E.sub.t hS, hr.len, G, E, hr, q⟩
theorem j1_asg {tg : Expr} {β γ : Type} {m : R β} {d : β → D} {ρ' : β → List Slot} {m2 : β → R γ} {ρ2 : β → γ → List Slot} (h : JE X B ρ e m (fun b => .val (d b)) ρ') (g : ∀ b, JG X B (ρ' b) tg (d b) (m2 b) (ρ2 b))
    (hs : swapsWithSole [tg] e pos.line X.env = pure false := by rfl) (hw : swappedStores [tg] e X.env = pure none := by rfl) (h1 : (assignEach [tg] X.env).map (·.2) = [assign tg X.env] := by rfl) : J1 X B ρ (.Assign [tg] e pos) (m.bind fun b => (m2 b).bind fun c => .ok (b, c)) (fun p => ρ2 p.1 p.2) := by
  have g' : PG X tg (fun v σ H Q => ∃ b, tJG X.K B (ρ' b) (d b) (m2 b) (ρ2 b) v σ H Q) := ⟨fun pins s σ H v u Q I r ⟨b, q⟩ => (g b).run pins s σ H v u Q I r q⟩
  exact PS_imp (ps_asg h g' hs hw h1) fun D σ H ⟨G, E, q⟩ => ⟨G, E, R.post_mono (R.post_bind.mp q) fun b q1 v G' H' x E' => ⟨b, G', E'.pop, E'.top, R.post_mono (R.post_bind.mp q1) fun c q2 σ2 G2 H2 x2 E2 => q2 σ2 G2 H2 (x.trans x2) E2⟩⟩
theorem j1_asgN {tg : Expr} {β : Type} {m : R β} {d : β → D} {ρ' : β → List Slot} {ρ2 : β → List Slot} (h : JE X B ρ e m (fun b => .val (d b)) ρ') (g : ∀ b, JG X B (ρ' b) tg (d b) (.ok ()) (fun _ => ρ2 b))
    (hs : swapsWithSole [tg] e pos.line X.env = pure false := by rfl) (hw : swappedStores [tg] e X.env = pure none := by rfl) (h1 : (assignEach [tg] X.env).map (·.2) = [assign tg X.env] := by rfl) : J1 X B ρ (.Assign [tg] e pos) m ρ2 := by
  have g' : PG X tg (fun v σ H Q => ∃ b, tJG X.K B (ρ' b) (d b) (.ok ()) (fun _ => ρ2 b) v σ H Q) := ⟨fun pins s σ H v u Q I r ⟨b, q⟩ => (g b).run pins s σ H v u Q I r q⟩
  exact PS_imp (ps_asg h g' hs hw h1) fun D σ H ⟨G, E, q⟩ => ⟨G, E, R.post_mono q fun b q1 v G' H' x E' => ⟨b, G', E'.pop, E'.top, fun σ2 G2 H2 x2 E2 => q1 σ2 G2 H2 (x.trans x2) E2⟩⟩
theorem jg_sub (i : Nat) {x : Str} {px : Pos} {l : Nat} {α : Type} {en : α → D} {xs : List α} {y : α} {k : Int} {o2 : Expr} (h : ρ[i]? = some (.own l (.lst ((xs.map en).map OT.dat))) := by rfl) (hk : JP X B ρ o2 (.int k)) (hal : noAlis ρ = true := by rfl) (hN : X.N[i]? = some x := by rfl)
    (hv : Vis X.env.scope x := by first | exact Or.inl rfl | exact Or.inr (Or.inl rfl) | exact Or.inr (Or.inr rfl)) (hd : (x == ("__debug__" : Str)) = false := by decide) (hcd : (x == ("__classdict__" : Str)) = false := by decide)
    (ha : ∀ v, assign (.Subscript (.Name x px) o2 pos) X.env v = (do
      let ov ← holding [v] (eval (.Name x px) X.env)
      let iv ← holding [v, ov] (eval o2 X.env)
      standAt pos
      holding [v, ov, iv] (setItem ov iv v)
      release [v, ov, iv] []) := by intro _; rfl) :
    JG X B ρ (.Subscript (.Name x px) o2 pos) (en y) (R.some (ixN xs.length k)) (fun j => ρ.set i (.own l (.lst (((xs.set j y).map en).map OT.dat)))) :=
  PG_imp (pg_sub (pv i hN hv hd hcd) hk set_list ha) fun v σ H Q ⟨G, E, r, q⟩ => by
    obtain ⟨p, vs, e1, e2, e3, e4⟩ := E.ownD h hal
    obtain ⟨j, hj, q⟩ := R.post_some q
    refine ⟨.ref p, e1, G, E, fun w G1 H1 x1 E1 => ?_⟩
    have hn := E1.top.int_inv
    obtain ⟨p', vs', g1, g2, g3, g4⟩ := E1.pop.ownD h hal
    have ep : p' = p := by
      have z := g1.symm.trans e1
      injection z with z
      injection z with z
      injection z
    subst ep
    have hl : vs'.length = xs.length := by
      rw [g3.len, List.length_map]
    refine ⟨p', vs', k, j, rfl, hn, g2, by rw [hl]; exact hj, q σ G1 _ x1 ?_⟩
    have rs : ∀ {vs : List V} {ds : List D} (j : Nat), RpAll X.K G1 vs ds → RpAll X.K G1 (vs.set j v) (ds.set j (en y)) := by
      intro vs ds j h
      induction ds generalizing vs j with
      | nil =>
        cases h
        exact .nil
      | cons d ds ih =>
        cases h with
        | cons h1 h2 =>
          cases j with
          | zero => exact .cons (r.ex x1) h2
          | succ j => exact .cons h1 (ih j h2)
    have := g4 G1 H1 [] (vs'.set j v) ((xs.map en).set j (en y)) E1.pop (Ex.refl _) g2 (rs j g3)
    rw [← List.map_set] at this
    exact this
end
def forR {α S L T : Type} (f : α → S → R (Fl S S T)) : List α → S → R (Fl S L T)
  | [], s => .ok (.nx s)
  | x :: xs, s => (f x s).bind fun
    | .nx s' => forR f xs s'
    | .ct s' => forR f xs s'
    | .bk s' => .ok (.nx s')
    | .rt t => .ok (.rt t)
structure Yld (K : PySem.W.Frag) (J : It) (G : Hp) (ds : List D) : Prop where
  go : ∀ i H, i < ds.length → Ex G H → J.go i H
  stop : ∀ i H, ds.length ≤ i → Ex G H → J.stop i H
  yld : ∀ (B : Base) i G1 H1 σ ρ x H', Ex G G1 → En K B G1 H1 σ ρ [] → J.yld i H1 x H' → ∀ d, ds[i]? = some d → ∃ G2, Ex G1 G2 ∧ En K B G2 H' σ ρ [] ∧ Rp K G2 x d
def tJI (K : PySem.W.Frag) (B : Base) (ρ : List Slot) {β : Type} (m : R β) (ds : β → List D) (ρ' : β → List Slot) : TI := fun σ H Q =>
  ∃ G, En K B G H σ ρ [] ∧ m.post (fun b => ∀ J G' H', Ex G G' → En K B G' H' σ (ρ' b) [] → Yld K J G' (ds b) → Q J H') B.rs
def JI (X : Cx) (B : Base) (ρ : List Slot) (tg it : Expr) {β : Type} (m : R β) (ds : β → List D) (ρ' : β → List Slot) : Prop := PI X tg it (tJI X.K B ρ m ds ρ')
section
variable {X : Cx} {B : Base} {ρ : List Slot} {pos : Pos} {e a b tg it : Expr}
theorem PI_imp {t t' : TI} (h : PI X tg it t) (k : ∀ σ H Q, t' σ H Q → t σ H Q) : PI X tg it t' := ⟨fun pins s σ H Q I q => h.run pins s σ H Q I (k σ H Q q)⟩
theorem js_for {α β S L T : Type} {m : R β} {xs : β → List α} {en : α → D} {ρ' : β → List Slot} {s0 : β → S} (ρS : S → List Slot) (ρB : α → S → List Slot) {f : α → S → R (Fl S S T)} {F : Fin S L T} {body : List Stmt} (hp : PassesOwn (model X.prog X.w) X.A X.env X.xe) (hc : X.calm = true)
    (hi : JI X B ρ tg it m (fun b => (xs b).map en) ρ') (bs : List Bool) (hw : ∀ b, forgot (ρ' b) bs = ρS (s0 b)) (hg : ∀ x s, JG X B (ρS s) tg (en x) (.ok ()) (fun _ => ρB x s))
    (hb : ∀ x s, JSs X B (ρB x s) body (f x s) ⟨ρS, ρS, ρS, F.s, F.t⟩) (hn : F.n = ρS := by rfl) (hs : ∀ v, foldedSetIterable it X.env v = pure v := by intro _; rfl) : JS X B ρ (.For tg it body [] pos) (m.bind fun b => forR f (xs b) (s0 b)) F := by
  have hg' : PG X tg (fun v σ H Q => ∃ x s, tJG X.K B (ρS s) (en x) (.ok ()) (fun _ => ρB x s) v σ H Q) := ⟨fun pins s σ H v u Q I r ⟨x, s', q⟩ => (hg x s').run pins s σ H v u Q I r q⟩
  have hb' : PSs X body (fun D σ H => ∃ x s, tJS X.K B (ρB x s) (f x s) ⟨ρS, ρS, ρS, F.s, F.t⟩ D σ H) := ⟨fun pins s σ H D I ⟨x, s', q⟩ => (hb x s').run pins s σ H D I q⟩
  refine PS_imp (ps_for hp hc hi hg' hb' hs) fun D σ H ⟨G, E, q⟩ => ⟨G, E, R.post_mono (R.post_bind.mp q) fun b q1 J G' H' xG E' Y => ?_⟩
  have hlen : ((xs b).map en).length = (xs b).length := List.length_map _
  let W : Nat → L2.St → Hp → Prop := fun i σ' H1 => ∃ G1 s, Ex G' G1 ∧ En X.K B G1 H1 σ' (ρS s) [] ∧ (forR f ((xs b).drop i) s).post (flP X.K B G1 D F) B.rs
  refine ⟨fun i mm σ' H1 => mm = (xs b).length - i ∧ i ≤ (xs b).length ∧ W i σ' H1, ⟨_, rfl, Nat.zero_le _, G', s0 b, Ex.refl _, by rw [← hw b]; exact E'.forgot bs, R.post_mono q1 fun fl h => flP_ex h xG⟩, ?_⟩
  rintro i mm σ1 H1 ⟨rfl, hi1, G1, s, x1, E1, q2⟩
  have nxt : ∀ G2 s', Ex G' G2 → i < (xs b).length → (forR f ((xs b).drop (i + 1)) s').post (flP X.K B G2 D F) B.rs → ∀ σ' G3 H', Ex G2 G3 → En X.K B G3 H' σ' (ρS s') [] → W (i + 1) σ' H' := fun G2 s' y hlt h σ' G3 H' z E3 => ⟨G3, s', y.trans z, E3, R.post_mono h fun fl h => flP_ex h z⟩
  by_cases hlt : i < (xs b).length
  · refine .inr ⟨Y.go i H1 (by rw [hlen]; exact hlt) (x1.trans E1.sub), fun σ' H' => W (i + 1) σ' H', fun σ' H' w => ⟨_, ?_, rfl, hlt, w⟩, fun v H2 hy => ?_⟩
    · omega
    · have hd : ((xs b).map en)[i]? = some (en (xs b)[i]) := by rw [List.getElem?_map, List.getElem?_eq_getElem hlt]; rfl
      obtain ⟨G2, x2, E2, r2⟩ := Y.yld B i G1 H1 σ1 (ρS s) v H2 x1 E1 hy _ hd
      rw [List.drop_eq_getElem_cons hlt] at q2
      refine ⟨(xs b)[i], s, G2, E2, r2, fun σ' G3 H3 x3 E3 => ⟨(xs b)[i], s, G3, E3, R.post_mono (R.post_bind.mp q2) fun fl q3 => ?_⟩⟩
      have x13 := x2.trans x3
      have up : ∀ {m' : R (Fl S L T)}, m'.post (flP X.K B G1 D F) B.rs → m'.post (flP X.K B G3 D F) B.rs := fun h => R.post_mono h fun fl h => flP_ex h x13
      cases fl with
      | nx s' => exact nxt G3 s' (x1.trans x13) hlt (up q3)
      | ct s' => exact nxt G3 s' (x1.trans x13) hlt (up q3)
      | bk s' =>
        intro σ4 G4 H4 x4 E4
        have q3 : flP X.K B G1 D F (.nx s') := q3
        refine q3 σ4 G4 H4 (x13.trans x4) ?_
        rw [hn]
        exact E4
      | rt t =>
        intro v σ4 G4 H4 x4 E4
        have q3 : flP X.K B G1 D F (.rt t) := q3
        exact q3 v σ4 G4 H4 (x13.trans x4) E4
  · refine .inl ⟨Y.stop i H1 (by rw [hlen]; omega) (x1.trans E1.sub), ?_⟩
    rw [List.drop_eq_nil_of_le (by omega)] at q2
    have q2 : flP X.K B G1 D F (.nx s) := q2
    refine q2 σ1 G1 H1 (Ex.refl _) ?_
    rw [hn]
    exact E1
theorem yld_tup {K : PySem.W.Frag} {G : Hp} {a : Addr} {xs : List V} {ds : List D} (h : SqT K G a xs) (hr : RpAll K G xs ds) : Yld K (Itt K a) G ds where
  go := fun i H hi e => ⟨xs, xs[i]'(by rw [hr.len]; exact hi), e.t h, List.getElem?_eq_getElem _⟩
  stop := fun i H hi e => ⟨xs, e.t h, by rw [hr.len]; exact hi⟩
  yld := fun B i G1 H1 σ ρ x H' e E hy d hd => by
    obtain ⟨rfl, f⟩ := hy
    have := f xs ((e.trans E.sub).t h)
    obtain ⟨v, h1, h2⟩ := hr.get hd
    rw [this] at h1
    cases h1
    exact ⟨G1, Ex.refl _, E, h2.ex e⟩
theorem ji_tup {β : Type} {m : R β} {ds : β → List D} {ρ' : β → List Slot} (h : JE X B ρ it m (fun b => .val (.tuple (ds b))) ρ') : JI X B ρ tg it m ds ρ' :=
  PI_imp (pi_tup h) fun σ H Q ⟨G, E, q⟩ => ⟨G, E, R.post_mono q fun b q1 v G' H' x E' => by
    obtain ⟨a, xs, rfl, hS, hr⟩ := E'.top.tup_inv
    exact ⟨a, rfl, ⟨xs, E'.sub.t hS⟩, q1 _ G' H' x E'.pop (yld_tup hS hr)⟩⟩
def rng (lo hi : Int) : List Int := (List.range (hi - lo).toNat).map fun (k : Nat) => lo + (k : Int)
theorem yld_rng {K : PySem.W.Frag} {G : Hp} {lo : Int} {n : Nat} : Yld K (Itr lo n) G (((List.range n).map fun (k : Nat) => lo + (k : Int)).map D.int) where
  go := fun i H hi e => by
    have : i < n := by simpa using hi
    exact this
  stop := fun i H hi e => by
    have : n ≤ i := by simpa using hi
    exact this
  yld := fun B i G1 H1 σ ρ x H' e E hy d hd => by
    obtain ⟨rfl, rfl⟩ := hy
    have hi : i < n := by
      have := (List.getElem?_eq_some_iff.mp hd).1
      simpa using this
    rw [List.map_map, List.getElem?_map, List.getElem?_range hi] at hd
    cases hd
    exact ⟨G1, Ex.refl _, E, .int _⟩
def rngOk (i : Int) : Prop := -(2 ^ 62) ≤ i ∧ i < 2 ^ 62
instance {i : Int} : Decidable (rngOk i) := by unfold rngOk; infer_instance
theorem ji_rng1 {p : Pos} {β : Type} {m : R β} {as : β → List Ar} (i : β → Int) {ρ' : β → List Slot} (hm : X.mg "range" = none) (h : JA X B ρ [a] m as ρ') (ha : ∀ b, as b = [.val (.int (i b))] := by intro _; rfl) (hg : Gl X "range" := by rfl) (hs : starEach [a] X.env = [(false, eval a X.env)] := by rfl) :
    JI X B ρ tg (.Call (.Name "range" p) [a] [] pos) (m.bind fun b => (R.guard (rngOk (i b))).bind fun _ => .ok b) (fun b => (rng 0 (i b)).map D.int) ρ' :=
  PI_imp (pi_range1 hg hm h hs) fun σ H Q ⟨G, E, q⟩ => ⟨G, E, R.post_mono (R.post_bind.mp q) fun b q1 vs G' H' x E' ok => by
    obtain ⟨hc, q2⟩ := R.post_guard (R.post_bind.mp q1)
    rw [ha b] at ok
    cases ok with
    | val r ok =>
      cases ok
      refine ⟨i b, by rw [r.int_inv], hc.1, hc.2, q2 _ G' H' x E' ?_⟩
      show Yld X.K _ G' ((rng 0 (i b)).map D.int)
      unfold rng
      rw [Int.sub_zero]
      exact yld_rng⟩
def whN {S L T : Type} (c : S → R Bool) (f : S → R (Fl S S T)) : Nat → S → R (Fl S L T)
  | 0, _ => .bad
  | n + 1, s => (c s).bind fun b => if b = true then (f s).bind fun
      | .nx s' => whN c f n s'
      | .ct s' => whN c f n s'
      | .bk s' => .ok (.nx s')
      | .rt t => .ok (.rt t)
    else .ok (.nx s)
open Classical in
noncomputable def whR {S L T : Type} (c : S → R Bool) (f : S → R (Fl S S T)) (s : S) : R (Fl S L T) :=
  if h : ∃ n, whN (L := L) c f n s ≠ .bad then whN c f h.choose s else .bad
theorem whN_mono {S L T : Type} {c : S → R Bool} {f : S → R (Fl S S T)} : ∀ {n : Nat} {s : S}, whN (L := L) c f n s ≠ .bad → ∀ m, n ≤ m → whN (L := L) c f m s = whN c f n s
  | 0, s, h, _, _ => absurd rfl h
  | n + 1, s, h, 0, hm => absurd hm (Nat.not_succ_le_zero _)
  | n + 1, s, h, m + 1, hm => by
    have hm' : n ≤ m := Nat.le_of_succ_le_succ hm
    rw [whN] at h ⊢
    rw [whN]
    cases hc : c s with
    | bad => rfl
    | err e => rfl
    | ok b =>
      rw [hc] at h
      cases b with
      | false => rfl
      | true =>
        simp only [R.bind, if_true] at h ⊢
        cases hf : f s with
        | bad => rfl
        | err e => rfl
        | ok fl =>
          rw [hf] at h
          cases fl with
          | nx s' => exact whN_mono h m hm'
          | ct s' => exact whN_mono h m hm'
          | bk s' => rfl
          | rt t => rfl
theorem whR_of {S L T : Type} {c : S → R Bool} {f : S → R (Fl S S T)} {n : Nat} {s : S} (h : whN (L := L) c f n s ≠ .bad) : whR (L := L) c f s = whN c f n s := by
  have hx : ∃ n, whN (L := L) c f n s ≠ .bad := ⟨n, h⟩
  unfold whR
  rw [dif_pos hx]
  rcases Nat.le_total n hx.choose with l | l
  · exact whN_mono h _ l
  · exact (whN_mono hx.choose_spec _ l).symm
theorem js_while {S L T : Type} (ρS : S → List Slot) {c : S → R Bool} {f : S → R (Fl S S T)} {F : Fin S L T} {body : List Stmt} (hp : PassesOwn (model X.prog X.w) X.A X.env X.xe) (s0 : S) (bs : List Bool) (hw : forgot ρ bs = ρS s0)
    (hc : ∀ s, JT X B (ρS s) e (c s) (fun b => b) (fun _ => ρS s)) (hb : ∀ s, JSs X B (ρS s) body (f s) ⟨ρS, ρS, ρS, F.s, F.t⟩) (hn : F.n = ρS := by rfl) : JS X B ρ (.While e body [] pos) (whR c f s0) F := by
  have hc' : PT X e (fun σ H Q => ∃ s, tJT X.K B (ρS s) (c s) (fun b => b) (fun _ => ρS s) σ H Q) := ⟨fun pins s σ H Q I ⟨x, q⟩ => (hc x).run pins s σ H Q I q⟩
  have hb' : PSs X body (fun D σ H => ∃ s, tJS X.K B (ρS s) (f s) ⟨ρS, ρS, ρS, F.s, F.t⟩ D σ H) := ⟨fun pins s σ H D I ⟨x, q⟩ => (hb x).run pins s σ H D I q⟩
  refine PS_imp (ps_while hp hc' hb') fun D σ H ⟨G, E, q⟩ => ?_
  have hne : ∃ n, (whN c f n s0 : R (Fl S L T)) ≠ .bad := by
    apply Classical.byContradiction
    intro z
    unfold whR at q
    rw [dif_neg z] at q
    exact q
  obtain ⟨n, hn0⟩ := hne
  rw [whR_of hn0] at q
  refine ⟨fun m σ' H' => ∃ G' s, Ex G G' ∧ En X.K B G' H' σ' (ρS s) [] ∧ (whN c f m s).post (flP X.K B G' D F) B.rs, ⟨n, G, s0, Ex.refl _, by rw [← hw]; exact E.forgot bs, q⟩, ?_⟩
  rintro m σ' H' ⟨G1, s, x1, E1, q1⟩
  cases m with
  | zero => exact q1.elim
  | succ m =>
    rw [whN] at q1
    refine ⟨s, G1, E1, R.post_mono (R.post_bind.mp q1) fun b q2 G2 H2 x2 E2 => ?_⟩
    cases b with
    | false =>
      have q2 : flP X.K B G1 D F (.nx s) := q2
      refine q2 σ' G2 H2 x2 ?_
      rw [hn]
      exact E2
    | true =>
      rw [if_pos rfl] at q2 ⊢
      refine ⟨fun σ3 H3 => ∃ G' s, Ex G G' ∧ En X.K B G' H3 σ3 (ρS s) [] ∧ (whN c f m s).post (flP X.K B G' D F) B.rs, fun σ3 H3 w => ⟨m, Nat.lt_succ_self m, w⟩, s, G2, E2, R.post_mono (R.post_bind.mp q2) fun fl q3 => ?_⟩
      have nxt : ∀ s', (whN c f m s').post (flP X.K B G1 D F) B.rs → ∀ σ' G3 H', Ex G2 G3 → En X.K B G3 H' σ' (ρS s') [] → ∃ G' s, Ex G G' ∧ En X.K B G' H' σ' (ρS s) [] ∧ (whN c f m s).post (flP X.K B G' D F) B.rs :=
        fun s' h σ' G3 H' z E3 => ⟨G3, s', x1.trans (x2.trans z), E3, R.post_mono h fun fl h => flP_ex h (x2.trans z)⟩
      cases fl with
      | nx s' => exact nxt s' q3
      | ct s' => exact nxt s' q3
      | bk s' =>
        intro σ4 G4 H4 x4 E4
        have q3 : flP X.K B G1 D F (.nx s') := q3
        refine q3 σ4 G4 H4 (x2.trans x4) ?_
        rw [hn]
        exact E4
      | rt t =>
        intro v σ4 G4 H4 x4 E4
        have q3 : flP X.K B G1 D F (.rt t) := q3
        exact q3 v σ4 G4 H4 (x2.trans x4) E4
end
end DL
namespace DL
open PySem PySem.Spec L2
def CbD (K : PySem.W.Frag) (B : Base) (ρ : List Slot) (r : List V → Hp → VK → Prop) (as : List Ar) {γ : Type} (mr : R γ) (s : γ → Slot) : Prop :=
  ∀ G H σ vs Q, En K B G H σ ρ [] → ArOk K G σ vs as → mr.post (fun z => ∀ v G' H', Ex G G' → En K B G' H' σ ρ [(v, s z)] → Q v H') B.rs → r vs H Q
section
variable {X : Cx} {B : Base} {ρ : List Slot} {e a b : Expr} {es : List Expr} {pos : Pos}
theorem je_cb {E0 : Expr} {r : List V → Hp → VK → Prop} (hp : ∀ t, PA X es t → PE X E0 (tCB r t)) {as : List Ar} {γ : Type} {mr : R γ} {s : γ → Slot} (ha : JA X B ρ es (.ok ()) (fun _ => as) (fun _ => ρ)) (hr : CbD X.K B ρ r as mr s) : JE X B ρ E0 mr s (fun _ => ρ) :=
  PE_imp (hp _ ha) fun σ H Q ⟨G, E, q⟩ => ⟨G, E, fun vs G1 H1 x1 E1 ok => hr G1 H1 σ vs Q E1 ok (R.post_mono q fun z k v G2 H2 x2 E2 => k v G2 H2 (x1.trans x2) E2)⟩
theorem je_cb2 {E0 : Expr} {r : List V → Hp → VK → Prop} (hp : ∀ t, PA X es t → PE X E0 (tCB r t)) {β γ : Type} {ma : R β} {as : β → List Ar} {ρa : β → List Slot} {mr : β → R γ} {s : β → γ → Slot} (ha : JA X B ρ es ma as ρa) (hr : ∀ x, CbD X.K B (ρa x) r (as x) (mr x) (s x)) :
    JE X B ρ E0 (ma.bind fun x => (mr x).bind fun z => .ok (x, z)) (fun p => s p.1 p.2) (fun p => ρa p.1) :=
  PE_imp (hp _ ha) fun σ H Q ⟨G, E, q⟩ => ⟨G, E, R.post_mono (R.post_bind.mp q) fun x q1 vs G1 H1 x1 E1 ok => hr x G1 H1 σ vs Q E1 ok (R.post_mono (R.post_bind.mp q1) fun z k v G2 H2 x2 E2 => k v G2 H2 (x1.trans x2) E2)⟩
theorem cb_val {r : List V → Hp → VK → Prop} {K : PySem.W.Frag} {as : List Ar} {c : Prop} [Decidable c] {z : D} {w : V} (h : c → ∀ G H σ vs Q, Ex G H → ArOk K G σ vs as → Q w H → r vs H Q) (hw : ∀ G, Rp K G w z) : CbD K B ρ r as (R.guard c) (fun _ => .val z) :=
  fun G H σ vs Q E ok q => by
    obtain ⟨hc, q⟩ := R.post_guard q
    exact h hc G H σ vs Q E.sub ok (q w G H (Ex.refl G) (E.push (hw G)))
theorem cb_val0 {r : List V → Hp → VK → Prop} {K : PySem.W.Frag} {as : List Ar} {z : D} {w : V} (h : ∀ G H σ vs Q, Ex G H → ArOk K G σ vs as → Q w H → r vs H Q) (hw : ∀ G, Rp K G w z) : CbD K B ρ r as (.ok ()) (fun _ => .val z) :=
  fun G H σ vs Q E ok q => h G H σ vs Q E.sub ok (q w G H (Ex.refl G) (E.push (hw G)))
theorem ArOk.one {K : PySem.W.Frag} {G : Hp} {σ : L2.St} {vs : List V} {d : D} (h : ArOk K G σ vs [.val d]) : ∃ v, vs = [v] ∧ Rp K G v d := by
  cases h with
  | val r h =>
    cases h
    exact ⟨_, rfl, r⟩
theorem ArOk.two {K : PySem.W.Frag} {G : Hp} {σ : L2.St} {vs : List V} {d d' : D} (h : ArOk K G σ vs [.val d, .val d']) : ∃ v w, vs = [v, w] ∧ Rp K G v d ∧ Rp K G w d' := by
  cases h with
  | val r h =>
    obtain ⟨w, rfl, r'⟩ := h.one
    exact ⟨_, _, rfl, r, r'⟩
section
variable {K : PySem.W.Frag}
theorem cb_abs {i : Int} : CbD K B ρ (fun xs H Q => ∃ i, xs = [.int i] ∧ Q (.int (if i < 0 then -i else i)) H) [.val (.int i)] (.ok ()) (fun _ => .val (.int (if i < 0 then -i else i))) :=
  cb_val0 (fun G H σ vs Q _ ok q => by
    obtain ⟨v, rfl, r⟩ := ok.one
    exact ⟨i, by rw [r.int_inv], q⟩) fun _ => .int _
theorem cb_max {i j : Int} : CbD K B ρ (fun xs H Q => ∃ i j, xs = [.int i, .int j] ∧ Q (.int (if j > i then j else i)) H) [.val (.int i), .val (.int j)] (.ok ()) (fun _ => .val (.int (max i j))) :=
  cb_val0 (w := .int (max i j)) (fun G H σ vs Q _ ok q => by
    obtain ⟨v, w, rfl, r, r2⟩ := ok.two
    refine ⟨i, j, by rw [r.int_inv, r2.int_inv], ?_⟩
    rw [show (if j > i then j else i) = max i j by omega]
    exact q) fun _ => .int _
theorem cb_min {i j : Int} : CbD K B ρ (fun xs H Q => ∃ i j, xs = [.int i, .int j] ∧ Q (.int (if j < i then j else i)) H) [.val (.int i), .val (.int j)] (.ok ()) (fun _ => .val (.int (min i j))) :=
  cb_val0 (w := .int (min i j)) (fun G H σ vs Q _ ok q => by
    obtain ⟨v, w, rfl, r, r2⟩ := ok.two
    refine ⟨i, j, by rw [r.int_inv, r2.int_inv], ?_⟩
    rw [show (if j < i then j else i) = min i j by omega]
    exact q) fun _ => .int _
theorem cb_lenL {ds : List D} : CbD K B ρ (fun xs H Q => ∃ p ys, xs = [.ref p] ∧ (SqL K H p ys ∨ SqT K H p ys) ∧ Q (.int ys.length) H) [.val (.list ds)] (.ok ()) (fun _ => .val (.int ds.length)) :=
  cb_val0 (fun G H σ vs Q e ok q => by
    obtain ⟨v, rfl, r⟩ := ok.one
    obtain ⟨a, xs, rfl, hS, hr⟩ := r.lst_inv
    exact ⟨a, xs, rfl, .inl (.inl (e.rd hS)), by rw [hr.len]; exact q⟩) fun _ => .int _
theorem cb_lenT {ds : List D} : CbD K B ρ (fun xs H Q => ∃ p ys, xs = [.ref p] ∧ (SqL K H p ys ∨ SqT K H p ys) ∧ Q (.int ys.length) H) [.val (.tuple ds)] (.ok ()) (fun _ => .val (.int ds.length)) :=
  cb_val0 (fun G H σ vs Q e ok q => by
    obtain ⟨v, rfl, r⟩ := ok.one
    obtain ⟨a, xs, rfl, hS, hr⟩ := r.tup_inv
    exact ⟨a, xs, rfl, .inr (e.t hS), by rw [hr.len]; exact q⟩) fun _ => .int _
theorem Rp.scr_inv {K : PySem.W.Frag} {G : Hp} {v : V} {ns : List Int} (h : Rp K G v (.scr ns)) : ∃ a, v = .ref a ∧ SqL K G a (ns.map V.int) := by
  cases h with
  | scr h => exact ⟨_, rfl, h⟩
theorem cb_lenS {ns : List Int} : CbD K B ρ (fun xs H Q => ∃ p ys, xs = [.ref p] ∧ (SqL K H p ys ∨ SqT K H p ys) ∧ Q (.int ys.length) H) [.val (.scr ns)] (.ok ()) (fun _ => .val (.int ns.length)) :=
  cb_val0 (fun G H σ vs Q e ok q => by
    obtain ⟨v, rfl, r⟩ := ok.one
    obtain ⟨a, rfl, hS⟩ := r.scr_inv
    exact ⟨a, _, rfl, .inl (e.l hS), by rw [List.length_map]; exact q⟩) fun _ => .int _
instance {i j : Int} : Decidable (CDivP i j) := by unfold CDivP; infer_instance
theorem cb_divmod {i j : Int} : CbD K B ρ (fun xs H Q => ∃ i j, xs = [.int i, .int j] ∧ CDivP i j ∧ ∀ p, H p = none → Q (.ref p) (upd H p (.tup [.int (i / j), .int (i % j)]))) [.val (.int i), .val (.int j)] (R.guard (CDivP i j)) (fun _ => .val (.tuple [.int (i / j), .int (i % j)])) :=
  fun G H σ vs Q E ok q => by
    obtain ⟨hc, q⟩ := R.post_guard q
    obtain ⟨v, w, rfl, r, r2⟩ := ok.two
    refine ⟨i, j, by rw [r.int_inv, r2.int_inv], hc, fun p hp => q _ (upd G p _) _ (Ex.new (E.sub.back hp)) ((E.new hp _).push (.tup (.inl (.inl upd_same)) (.cons (.int _) (.cons (.int _) .nil))))⟩
end
def tyN : D → String
  | .none => "NoneType"
  | .bool _ => "bool"
  | .int _ => "int"
  | .str _ => "str"
  | .list _ => "list"
  | .tuple _ => "tuple"
  | .dict _ => "dict"
  | .scr _ => "list"
  | .row _ => "tuple"
  | .key _ => "tuple"
  | .exn _ _ _ => "NoneType"
  | .ddk _ => "NoneType"
def notX : D → Bool
  | .exn _ _ _ => false
  | .ddk _ => false
  | _ => true
def isInt : D → Bool
  | .int _ => true
  | .bool _ => true
  | _ => false
def isBool : D → Bool
  | .bool _ => true
  | _ => false
def isTup : D → Bool
  | .tuple _ => true
  | .row _ => true
  | .key _ => true
  | _ => false
def isLst : D → Bool
  | .list _ => true
  | .scr _ => true
  | _ => false
def isStr : D → Bool
  | .str _ => true
  | _ => false
theorem isi_int (d : D) : kitB (tyN d) "int" = some (isInt d) := match d with
  | .none => (show kitB "NoneType" "int" = some false by decide +kernel)
  | .bool _ => (show kitB "bool" "int" = some true by decide +kernel)
  | .int _ => (show kitB "int" "int" = some true by decide +kernel)
  | .str _ => (show kitB "str" "int" = some false by decide +kernel)
  | .list _ => (show kitB "list" "int" = some false by decide +kernel)
  | .tuple _ => (show kitB "tuple" "int" = some false by decide +kernel)
  | .dict _ => (show kitB "dict" "int" = some false by decide +kernel)
  | .scr _ => (show kitB "list" "int" = some false by decide +kernel)
  | .row _ => (show kitB "tuple" "int" = some false by decide +kernel)
  | .key _ => (show kitB "tuple" "int" = some false by decide +kernel)
  | .exn _ _ _ => (show kitB "NoneType" "int" = some false by decide +kernel)
  | .ddk _ => (show kitB "NoneType" "int" = some false by decide +kernel)
theorem isi_bool (d : D) : kitB (tyN d) "bool" = some (isBool d) := match d with
  | .none => (show kitB "NoneType" "bool" = some false by decide +kernel)
  | .bool _ => (show kitB "bool" "bool" = some true by decide +kernel)
  | .int _ => (show kitB "int" "bool" = some false by decide +kernel)
  | .str _ => (show kitB "str" "bool" = some false by decide +kernel)
  | .list _ => (show kitB "list" "bool" = some false by decide +kernel)
  | .tuple _ => (show kitB "tuple" "bool" = some false by decide +kernel)
  | .dict _ => (show kitB "dict" "bool" = some false by decide +kernel)
  | .scr _ => (show kitB "list" "bool" = some false by decide +kernel)
  | .row _ => (show kitB "tuple" "bool" = some false by decide +kernel)
  | .key _ => (show kitB "tuple" "bool" = some false by decide +kernel)
  | .exn _ _ _ => (show kitB "NoneType" "bool" = some false by decide +kernel)
  | .ddk _ => (show kitB "NoneType" "bool" = some false by decide +kernel)
theorem isi_tuple (d : D) : kitB (tyN d) "tuple" = some (isTup d) := match d with
  | .none => (show kitB "NoneType" "tuple" = some false by decide +kernel)
  | .bool _ => (show kitB "bool" "tuple" = some false by decide +kernel)
  | .int _ => (show kitB "int" "tuple" = some false by decide +kernel)
  | .str _ => (show kitB "str" "tuple" = some false by decide +kernel)
  | .list _ => (show kitB "list" "tuple" = some false by decide +kernel)
  | .tuple _ => (show kitB "tuple" "tuple" = some true by decide +kernel)
  | .dict _ => (show kitB "dict" "tuple" = some false by decide +kernel)
  | .scr _ => (show kitB "list" "tuple" = some false by decide +kernel)
  | .row _ => (show kitB "tuple" "tuple" = some true by decide +kernel)
  | .key _ => (show kitB "tuple" "tuple" = some true by decide +kernel)
  | .exn _ _ _ => (show kitB "NoneType" "tuple" = some false by decide +kernel)
  | .ddk _ => (show kitB "NoneType" "tuple" = some false by decide +kernel)
theorem isi_str (d : D) : kitB (tyN d) "str" = some (isStr d) := match d with
  | .none => (show kitB "NoneType" "str" = some false by decide +kernel)
  | .bool _ => (show kitB "bool" "str" = some false by decide +kernel)
  | .int _ => (show kitB "int" "str" = some false by decide +kernel)
  | .str _ => (show kitB "str" "str" = some true by decide +kernel)
  | .list _ => (show kitB "list" "str" = some false by decide +kernel)
  | .tuple _ => (show kitB "tuple" "str" = some false by decide +kernel)
  | .dict _ => (show kitB "dict" "str" = some false by decide +kernel)
  | .scr _ => (show kitB "list" "str" = some false by decide +kernel)
  | .row _ => (show kitB "tuple" "str" = some false by decide +kernel)
  | .key _ => (show kitB "tuple" "str" = some false by decide +kernel)
  | .exn _ _ _ => (show kitB "NoneType" "str" = some false by decide +kernel)
  | .ddk _ => (show kitB "NoneType" "str" = some false by decide +kernel)
theorem Rp.ty {K : PySem.W.Frag} {G H : Hp} {v : V} {d : D} (h : Rp K G v d) (e : Ex G H) (nx : notX d = true) : TyX K H v (.type (tyN d)) := by
  cases h with
  | ddk _ _ => cases nx
  | ddt _ _ => cases nx
  | any _ => cases nx
  | exn0 _ _ => cases nx
  | exn1 _ _ _ _ => cases nx
  | non => exact .base .non
  | bl b => exact .base (.bl b)
  | int b => exact .base (.int b)
  | str b => exact .base (.str b)
  | lst h r =>
    rcases e.rd h with h | ⟨o, h⟩
    · exact .base (.lst h)
    · exact .base (.frz h)
  | tup h r =>
    rcases e.t h with (h | ⟨o, h⟩) | ⟨o, its, n, h1, h2, _⟩
    · exact .base (.tup h)
    · exact .fTuple h
    · exact .kTuple h1 h2
  | scr h =>
    rcases h with h | ⟨o, its, n, h1, h2, _⟩
    · rcases e.rd h with h | ⟨o, h⟩
      · exact .base (.lst h)
      · exact .base (.frz h)
    · exact .kList h1 h2
  | dK h r => exact .base (.dK (e _ _ h))
  | dT h r => exact .base (.dT (e _ _ h))
  | row h d r => exact .fTuple (e _ _ h)
  | key h => exact .base (.tup (e _ _ h))
theorem je_isi {T : String} {f : D → Bool} (hf : ∀ d, kitB (tyN d) T = some (f d)) {x : Str} {p p2 : Pos} {β : Type} {m : R β} {d : β → D} {ρ' : β → List Slot} (h : JE X B ρ a m (fun b => .val (d b)) ρ') (hmi : X.mg "isinstance" = none) (hm : X.mg x = none) (hv : bootBuiltins x = some (.type T)) (nx : ∀ b, notX (d b) = true := by intro _; rfl)
    (hgi : Gl X "isinstance" := by rfl) (hg : Gl X x := by rfl) (hn : x ≠ "__name__" := by decide) (hd : (x == ("__debug__" : Str)) = false := by decide)
    (h1 : starEach [a, .Name x p2] X.env = (false, eval a X.env) :: starEach [.Name x p2] X.env := by rfl) (h2 : starEach [.Name x p2] X.env = (false, eval (.Name x p2) X.env) :: starEach [] X.env := by rfl) (h3 : (backTo pos (starEach [.Name x p2] X.env)).any (·.1) = false := by rfl) :
    JE X B ρ (.Call (.Name "isinstance" p) [a, .Name x p2] [] pos) m (fun b => .val (.bool (f (d b)))) ρ' :=
  PE_imp (pe_callB call_isi hgi hmi (by decide +kernel) (pa_cons h (pa_cons (pe_bltn hg hm hv (v := .ty T) rfl hn hd) pa_nil h2) h1) (by decide) (by decide) h1 h3) fun σ H Q ⟨G, E, q⟩ => ⟨G, E, R.post_mono q fun b k v G1 H1 x1 E1 =>
    ⟨v, .ty T, .type (tyN (d b)), .type T, f (d b), rfl, .ty T, E1.top.ty E1.sub (nx b), kit_ty (hf _), k _ G1 H1 x1 (E1.pop.push (.bl _))⟩⟩
section
variable {K : PySem.W.Frag}
theorem od_ixT {ds : List D} {i : Int} : OpD K B (rIxT K) (.tuple ds) (.int i) (R.some (atI ds i)) (fun d => .val d) := fun G H σ ρ vx vy Q E hx hy q => by
  obtain ⟨d, hd, q⟩ := R.post_some q
  obtain ⟨a, xs, rfl, hS, hr⟩ := hx.tup_inv
  obtain ⟨j, hj, hd⟩ := Option.bind_eq_some_iff.mp hd
  obtain ⟨v, hv, rv⟩ := hr.get hd
  refine ⟨a, xs, i, v, rfl, hy.int_inv, E.sub.t hS, ?_, q v G H (Ex.refl G) (E.push rv)⟩
  unfold atI
  rw [hr.len, hj]
  exact hv
theorem od_ixL {ds : List D} {i : Int} : OpD K B (rIxL K) (.list ds) (.int i) (R.some (atI ds i)) (fun d => .val d) := fun G H σ ρ vx vy Q E hx hy q => by
  obtain ⟨d, hd, q⟩ := R.post_some q
  obtain ⟨a, xs, rfl, hS, hr⟩ := hx.lst_inv
  obtain ⟨j, hj, hd⟩ := Option.bind_eq_some_iff.mp hd
  obtain ⟨v, hv, rv⟩ := hr.get hd
  refine ⟨a, xs, i, v, rfl, hy.int_inv, .inl (E.sub.rd hS), ?_, q v G H (Ex.refl G) (E.push rv)⟩
  unfold atI
  rw [hr.len, hj]
  exact hv
theorem atI_map {α β : Type} (f : α → β) (xs : List α) (i : Int) : atI (xs.map f) i = (atI xs i).map f := by
  unfold atI
  rw [List.length_map]
  cases ixN xs.length i with
  | none => rfl
  | some j => simp
theorem od_map {r : R2} {x y : D} {α : Type} {o : Option α} {f : α → D} (h : OpD K B r x y (R.some (o.map f)) (fun d => .val d)) : OpD K B r x y (R.some o) (fun a => .val (f a)) := fun G H σ ρ vx vy Q E hx hy q => by
  obtain ⟨d, hd, q⟩ := R.post_some q
  refine h G H σ ρ vx vy Q E hx hy ?_
  rw [hd]
  exact q
theorem od_ixLm {α : Type} {f : α → D} {xs : List α} {i : Int} : OpD K B (rIxL K) (.list (xs.map f)) (.int i) (R.some (atI xs i)) (fun a => .val (f a)) := od_map (by rw [← atI_map]; exact od_ixL)
theorem od_ixTs {ds : List D} {i : Int} {d : D} (h : atI ds i = some d) : OpD K B (rIxT K) (.tuple ds) (.int i) (.ok ()) (fun _ => .val d) := fun G H σ ρ vx vy Q E hx hy q => od_ixT G H σ ρ vx vy Q E hx hy (by rw [h]; exact q)
end
theorem je_ixO (i : Nat) {x : Str} {px : Pos} {l : Nat} {α : Type} {en : α → D} {xs : List α} {k : Int} (h : ρ[i]? = some (.own l (.lst ((xs.map en).map OT.dat))) := by rfl) (hk : JP X B ρ b (.int k)) (hal : noAlis ρ = true := by rfl) (hN : X.N[i]? = some x := by rfl)
    (hv : Vis X.env.scope x := by first | exact Or.inl rfl | exact Or.inr (Or.inl rfl) | exact Or.inr (Or.inr rfl)) (hd : (x == ("__debug__" : Str)) = false := by decide) (hcd : (x == ("__classdict__" : Str)) = false := by decide) (hs : PlainIx b := by exact fun _ _ => rfl) :
    JE X B ρ (.Subscript (.Name x px) b pos) (R.some (atI xs k)) (fun y => .val (en y)) (fun _ => ρ) :=
  PE_imp (pe_ix ix_list (pv i hN hv hd hcd) hk hs) fun σ H Q ⟨G, E, q⟩ => by
    obtain ⟨p, vs, e1, e2, e3, e4⟩ := E.ownD h hal
    obtain ⟨y, hy, q⟩ := R.post_some q
    refine ⟨.ref p, e1, G, E, fun w G1 H1 x1 E1 => ?_⟩
    have hn := E1.top.int_inv
    obtain ⟨p', vs', g1, g2, g3, g4⟩ := E1.pop.ownD h hal
    have ep : p' = p := by
      have z := g1.symm.trans e1
      injection z with z
      injection z with z
      injection z
    subst ep
    have hy' : atI (xs.map en) k = some (en y) := by rw [atI_map, hy]; rfl
    obtain ⟨j, hj, hd⟩ := Option.bind_eq_some_iff.mp hy'
    obtain ⟨v, hv, rv⟩ := g3.get hd
    refine ⟨p', vs', k, v, rfl, hn, .inl (.inl g2), ?_, q v G1 H1 x1 (E1.pop.push rv)⟩
    unfold atI
    rw [g3.len, hj]
    exact hv
def tJO (K : PySem.W.Frag) (B : Base) (ρ : List Slot) (o : Option Int) : TO := fun σ H Q => ∃ G, En K B G H σ ρ [] ∧ ∀ G' H', Ex G G' → En K B G' H' σ ρ [] → Q o H'
def JO (X : Cx) (B : Base) (ρ : List Slot) (e : Option Expr) (o : Option Int) : Prop := PO X e (tJO X.K B ρ o)
theorem PO_imp {e : Option Expr} {t t' : TO} (h : PO X e t) (k : ∀ σ H Q, t' σ H Q → t σ H Q) : PO X e t' := ⟨fun pins s σ H Q I q => h.run pins s σ H Q I (k σ H Q q)⟩
theorem jo_none : JO X B ρ none none := PO_imp po_none fun σ H Q ⟨G, E, q⟩ => q G H (Ex.refl G) E
theorem jo_some {i : Int} (h : JP X B ρ e (.int i)) : JO X B ρ (some e) (some i) := PO_imp (po_some h) fun σ H Q ⟨G, E, q⟩ => ⟨G, E, fun v G1 H1 x1 E1 => ⟨i, E1.top.int_inv, q G1 H1 x1 E1.pop⟩⟩
def cut {α : Type} (xs : List α) (lo hi : Option Int) : List α := (xs.drop (HT.sIx xs.length 0 lo)).take (HT.sIx xs.length xs.length hi - HT.sIx xs.length 0 lo)
theorem cut_map {α β : Type} (f : α → β) (xs : List α) (lo hi : Option Int) : cut (xs.map f) lo hi = (cut xs lo hi).map f := by
  unfold cut
  rw [List.length_map, List.map_take, List.map_drop]
theorem cut_rp {K : PySem.W.Frag} {G : Hp} {xs : List V} {ds : List D} {lo hi : Option Int} (h : RpAll K G xs ds) : RpAll K G (cutV xs lo hi) (cut ds lo hi) := by
  unfold cutV cut
  rw [h.len]
  exact (h.drop _).take _
theorem je_slS {o1 o2 : Option Expr} {p2 : Pos} {lo hi : Option Int} {β : Type} {m : R β} {ns : β → List Int} {ρ' : β → List Slot} (h : JE X B ρ a m (fun b => .val (.scr (ns b))) ρ') (h1 : ∀ b, JO X B (ρ' b) o1 lo) (h2 : ∀ b, JO X B (ρ' b) o2 hi) :
    JE X B ρ (.Subscript a (.Slice o1 o2 none p2) pos) m (fun b => .own 0 (.lst (((cut (ns b) lo hi).map D.int).map OT.dat))) ρ' := by
  have h1' : PO X o1 (fun σ H Q => ∃ b, tJO X.K B (ρ' b) lo σ H Q) := ⟨fun pins s σ H Q I ⟨b, q⟩ => (h1 b).run pins s σ H Q I q⟩
  have h2' : PO X o2 (fun σ H Q => ∃ b, tJO X.K B (ρ' b) hi σ H Q) := ⟨fun pins s σ H Q I ⟨b, q⟩ => (h2 b).run pins s σ H Q I q⟩
  refine PE_imp (pe_slice sl_list h h1' h2') fun σ H Q ⟨G, E, q⟩ => ⟨G, E, R.post_mono q fun b k v G1 H1 x1 E1 => ⟨b, G1, E1.pop, fun G2 H2 x2 E2 => ⟨b, G2, E2, fun G3 H3 x3 E3 => ?_⟩⟩⟩
  obtain ⟨p, rfl, hS⟩ := E1.top.scr_inv
  have x13 := x2.trans x3
  refine ⟨p, _, rfl, (x13.trans E3.sub).l hS, fun q' hq => k _ G3 _ (x1.trans x13) (E3.newL hq ?_)⟩
  rw [← cut_map]
  exact cut_rp (RpAll.of_ints (ns b))
def rCatR : R2 := fun x y H Q => ∃ l b xs zs, x = .ref l ∧ y = .ref b ∧ Rd H l (.lst xs) ∧ Rd H b (.lst zs) ∧ xs.length + zs.length ≤ sizeLine ∧ ∀ p, H p = none → Q (.ref p) (upd H p (.lst (xs ++ zs)))
theorem op_catR : OpR X (binaryOp .Add) rCatR := by
  intro pins s σ H x y v u Q I rx ry h
  obtain ⟨l, b, xs, zs, rfl, rfl, hH, hB, hz, q⟩ := h
  cases rx
  cases ry
  obtain ⟨z1, i1, n1, r1, g1⟩ := hH.ok I.hok
  obtain ⟨z2, i2, n2, r2, g2⟩ := hB.ok I.hok
  have l1 := r1.length
  have l2 := r2.length
  refine PySem.P.add_list g1 g2 ?_ (by simp only [List.size_toArray]; omega)
  rw [List.append_toArray]
  exact ⟨.ref _, _, I.lnew (t' := s.toks) (r1.append r2) (by simp only [List.length_append]; omega), rfl, q _ I.fresh⟩
theorem od_cat {K : PySem.W.Frag} {ds es : List D} : OpD K B rCatR (.list ds) (.list es) (R.guard (ds.length + es.length ≤ sizeLine)) (fun _ => .own 0 (.lst ((ds ++ es).map OT.dat))) := fun G H σ ρ vx vy Q E hx hy q => by
  obtain ⟨hc, q⟩ := R.post_guard q
  obtain ⟨a, xs, rfl, hS, hr⟩ := hx.lst_inv
  obtain ⟨b, ys, rfl, hS2, hr2⟩ := hy.lst_inv
  exact ⟨a, b, xs, ys, rfl, rfl, E.sub.rd hS, E.sub.rd hS2, by rw [hr.len, hr2.len]; exact hc, fun p hp => q _ G _ (Ex.refl G) (E.newL hp (hr.append hr2))⟩
end
end DL
namespace DL
open PySem PySem.Spec L2
abbrev FnP (K : PySem.W.Frag) (x : Str) (st : Stmt) (f : Addr) (fd : FuncData) : Prop := FunD K x x (defArgs st) (defBody st) (defScope st) [] [] f fd
structure DT (K : PySem.W.Frag) (mg : Str → Option Value) (x : Str) (st : Stmt) (ps : List Str) where
  a : Addr
  d : FuncData
  f : FnP K x st a d
  g : mg x = some (.ref a)
  b : Binds K d ps []
def fin0 {N L T : Type} (m : R (Fl N L T)) : R T := m.bind fun
  | .rt t => .ok t
  | _ => .bad
def finN {N L T : Type} (m : R (Fl N L T)) : R N := m.bind fun
  | .nx n => .ok n
  | _ => .bad
section
variable {P : Program} {w : World} {K : PySem.W.Frag} {mg : Str → Option Value} {base : Heap} {x : Str} {st : Stmt} {f : Addr} {fd : FuncData} {N ps : List Str} {k : Nat}
theorem start_en {B : Base} {G H : Hp} {vs : List V} {ρ : List Slot} {d : Nat} (E : En K B G H (vs.map some) ρ []) (hN : N.length = vs.length + d) : En K B G H (L2.start N vs) (ρ ++ List.replicate d .non) [] := by
  unfold L2.start
  rw [show N.length - vs.length = d by omega]
  obtain ⟨A, c, n, g⟩ := E.own
  have ap : ∀ {σ : L2.St} {ρ : List Slot} {A : List Addr}, Cells K B G H σ ρ A → Cells K B G H (σ ++ List.replicate d none) (ρ ++ List.replicate d .non) A := by
    intro σ ρ A h
    induction h with
    | nil =>
      have nn : ∀ m : Nat, Cells K B G H (List.replicate m none) (List.replicate m .non) [] := by
        intro m
        induction m with
        | zero => exact .nil
        | succ m ih => exact .cons (A := []) .non ih
      exact nn d
    | cons c r ih => exact .cons c ih
  refine ⟨E.anc, ⟨A, ap (show Cells K B G H (vs.map some) ρ A from c), n, g⟩, by simp [← E.len], fun i j p e => ?_⟩
  by_cases hi : i < ρ.length
  · rw [List.getElem?_append_left hi] at e
    obtain ⟨v, w, h1, h2, h3⟩ := E.ali i j p e
    have l1 : i < (vs.map some).length := by rw [E.len]; exact hi
    have l2 : j < (vs.map some).length := (List.getElem?_eq_some_iff.mp h2).1
    exact ⟨v, w, by rw [List.getElem?_append_left l1]; exact h1, by rw [List.getElem?_append_left l2]; exact h2, h3⟩
  · rw [List.getElem?_append_right (by omega)] at e
    have := (List.mem_replicate.mp (List.mem_of_getElem? e)).2
    cases this
def okOuts : Nat → List Slot → Bool
  | _, [] => true
  | n, .non :: r => okOuts (n + 1) r
  | n, .own l _ :: r => l == n + 1 && okOuts (n + 1) r
  | _, _ :: _ => false
theorem okOuts_ali : ∀ {ρ : List Slot} {n : Nat}, okOuts n ρ = true → ∀ {i j : Nat} {p : List Nat}, ρ[i]? ≠ some (.ali j p)
  | [], _, _, _, _, _ => fun e => nomatch e
  | s :: ρ, n, h, i, j, p => fun e => by
    have h' : okOuts (n + 1) ρ = true ∧ s ≠ .ali j p := by
      cases s <;> simp [okOuts] at h
      · exact ⟨h, fun z => nomatch z⟩
      · exact ⟨h.2, fun z => nomatch z⟩
    cases i with
    | zero =>
      simp at e
      exact h'.2 e
    | succ i => exact okOuts_ali h'.1 (i := i) (by simpa using e)
theorem stop_en {B : Base} {G H : Hp} {vs : List V} {σ : L2.St} {ρ : List Slot} {d : Nat} {v : V} {s : Slot} (E : En K B G H σ (ρ ++ List.replicate d .non) [(v, s)]) (hv : ∀ k, B.pv (k + 1) = vs[k]?) (ho : okOuts 0 ρ = true) (hl : vs.length = ρ.length) : En K B G H (vs.map some) ρ [(v, s)] := by
  obtain ⟨A, c, n, g⟩ := E.own
  cases c with
  | @cons _ _ A1 _ _ A2 c1 cr =>
    have cut : ∀ {ρ : List Slot} {σ : L2.St} {A : List Addr} {ws : List V} (n : Nat), Cells K B G H σ (ρ ++ List.replicate d .non) A → (∀ k, B.pv (n + k + 1) = ws[k]?) → okOuts n ρ = true → ws.length = ρ.length → Cells K B G H (ws.map some) ρ A := by
      intro ρ
      induction ρ with
      | nil =>
        intro σ A ws n h _ _ hl
        have nn : ∀ (m : Nat) {σ : L2.St} {A : List Addr}, Cells K B G H σ (List.replicate m .non) A → A = [] := by
          intro m
          induction m with
          | zero =>
            intro σ A h
            cases h
            rfl
          | succ m ih =>
            intro σ A h
            cases h with
            | cons c r =>
              cases c
              rw [ih r]
              rfl
        have e := nn d h
        subst e
        cases ws with
        | nil => exact .nil
        | cons a b => cases hl
      | cons s ρ ih =>
        intro σ A ws n h hv ho hl
        cases h with
        | @cons x0 _ B1 σ0 _ B2 c r =>
          cases ws with
          | nil => cases hl
          | cons y ws =>
            have tl : okOuts (n + 1) ρ = true → Cells K B G H (ws.map some) ρ B2 := fun ho => ih (n + 1) r (fun k => by
              have := hv (k + 1)
              rw [show n + (k + 1) + 1 = n + 1 + k + 1 by omega] at this
              simpa using this) ho (by simpa using hl)
            cases c with
            | non => exact .cons .non (tl (by simpa [okOuts] using ho))
            | val h => simp [okOuts] at ho
            | ali => simp [okOuts] at ho
            | @own u l o _ hO hr hp =>
              have ho' : l = n + 1 ∧ okOuts (n + 1) ρ = true := by simpa [okOuts] using ho
              obtain ⟨rfl, ho2⟩ := ho'
              have e1 := hp.resolve_left (Nat.succ_ne_zero n)
              have e2 := hv 0
              rw [show n + 0 + 1 = n + 1 by omega, e1] at e2
              have e3 : u = y := by simpa using e2
              subst e3
              exact .cons (.own hO hr hp) (tl ho2)
    exact ⟨E.anc, ⟨_, .cons c1 (cut 0 (show Cells K B G H σ (ρ ++ List.replicate d .non) A2 from cr) (fun k => by rw [Nat.zero_add]; exact hv k) ho hl), n, g⟩, by rw [List.length_map]; exact hl, fun i j p e => absurd e (okOuts_ali ho)⟩
theorem fn_ok {α β N1 L1 : Type} {ins : α → List Slot} {sl : β → Slot} {outs : β → List Slot} {n1 : N1 → List Slot} {c1 k1 : L1 → List Slot} (mb : α → R (Fl N1 L1 β)) (d : Nat) (F : FnP K x st f fd) (S : FnScope N ps (defScope st)) (hN : N.length = ps.length + d)
    (hi : ∀ a, (ins a).length = ps.length) (ho : ∀ b, okOuts 0 (outs b) = true) (ho2 : ∀ b, (outs b).length = ps.length)
    (hbody : ∀ (cdv : Value) (A : Around) (outer : List PySem.Env) (s : Shared) (H : Hp) (E : XK), RoomG k (A.deeper (PyProof.Rows.envOfC x (defScope st) s.heap.objs.size f cdv)) → ∀ (B : Base), (∀ e, ¬ B.rs e) → ∀ a,
      JSs (cxOf CX0 P w K mg base N x (defScope st) f cdv A outer s H E).nox B (ins a ++ List.replicate d .non) (defBody st) (mb a) ⟨n1, c1, k1, sl, fun b => outs b ++ List.replicate d .non⟩) :
    FnG P w K mg base CX0 (k + 1) f fd ps (spM K ins (fun a => fin0 (mb a)) sl outs) := by
  refine fn_ofG F S (fun vs H Q E h => ?_) fun cdv A outer s H vs Q E hr h => ?_
  · obtain ⟨a, G, As, E0, _⟩ := h
    have := E0.len
    rw [List.length_map] at this
    rw [this, hi a]
  · obtain ⟨a, G, As, E0, q⟩ := h
    have hl : vs.length = ps.length := by
      have := E0.len
      rw [List.length_map] at this
      rw [this, hi a]
    refine ⟨_, (hbody cdv A outer s H E hr (baseOf H G As vs fun _ => False) (fun e z => z) a).nox, G, start_en E0 (by rw [hN, hl]), ?_⟩
    have q' := R.post_bind.mp q
    refine R.post_mono q' fun fl q1 => ?_
    cases fl with
    | nx n => exact q1.elim
    | ct n => exact q1.elim
    | bk n => exact q1.elim
    | rt b => exact fun v σ' G' H' x1 E1 => q1 v G' H' (stop_en E1 (fun k => rfl) (ho b) (by rw [hl, ho2 b]))
end
end DL
namespace DL
open PySem PySem.Spec L2
def lt {α β : Type} (v : α) (k : α → β) : β := k v
@[reducible] def eT {α : Type} (f : α → D) (l : List α) : D := .tuple (l.map f)
@[reducible] def eL {α : Type} (f : α → D) (l : List α) : D := .list (l.map f)
@[reducible] def eD (d : D) : D := d
@[reducible] def eU (_ : Unit) : D := .none
@[reducible] def eP2 {α β : Type} (f : α → D) (g : β → D) (p : α × β) : D := .tuple [f p.1, g p.2]
@[reducible] def eP3 {α β γ : Type} (f : α → D) (g : β → D) (h : γ → D) (p : α × β × γ) : D := .tuple [f p.1, g p.2.1, h p.2.2]
@[reducible] def eP4 {α β γ δ : Type} (f : α → D) (g : β → D) (h : γ → D) (i : δ → D) (p : α × β × γ × δ) : D := .tuple [f p.1, g p.2.1, h p.2.2.1, i p.2.2.2]
@[reducible] def oL {α : Type} (f : α → D) (l : List α) : OT := .lst ((l.map f).map OT.dat)
theorem toDs_dat : ∀ ds : List D, OT.toDs (ds.map OT.dat) = ds
  | [] => by rw [List.map_nil, OT.toDs]
  | d :: ds => by rw [List.map_cons, OT.toDs, OT.toD, toDs_dat ds]
theorem oL_toD {α : Type} (f : α → D) (l : List α) : (oL f l).toD = eL f l := by
  show OT.toD (.lst _) = _
  rw [OT.toD, toDs_dat]
section
variable {X : Cx} {B : Base} {ρ : List Slot} {e a b : Expr} {es : List Expr} {rest : List Stmt} {pos : Pos} {N L T β α : Type} {F : Fin N L T}
theorem je_frzL {m : R β} {f : α → D} {v : β → List α} {ρ' : β → List Slot} (h : JE X B ρ e m (fun b => .own 0 (oL f (v b))) ρ') : JE X B ρ e m (fun b => .val (eL f (v b))) ρ' := by
  have := je_frz h
  simp only [oL_toD] at this
  exact this
theorem js_setE (i : Nat) {x : Str} {pos' : Pos} (en : α → D) {m : R β} (v : β → α) {ρ' : β → List Slot} {k : β → α → R (Fl N L T)} (hN : X.N.Nodup) (h : JE X B ρ e m (fun b => .val (en (v b))) ρ') (r : ∀ b x, JSs X B ((ρ' b).set i (.val (en x))) rest (k b x) F) (hi : X.N[i]? = some x := by rfl) (hx : Loc X.env.scope x := by first | exact Or.inl rfl | exact Or.inr rfl)
    (hlt : ∀ b, i < (ρ' b).length := by intro _; exact of_decide_eq_true rfl) (hal : ∀ b, noAli i (ρ' b) = true := by intro _; rfl) (hs : swapsWith e (some (.Name x pos')) pos.line X.env = pure false := by rfl) (hf : X.fn x = true ∨ X.env.scope.names.lookup x = some .local := by first | exact .inl rfl | exact .inr rfl) :
    JSs X B ρ (.Assign [.Name x pos'] e pos :: rest) (m.bind fun b => lt (v b) (k b)) F :=
  js_cons1 (j1_set i hN h hi hx hlt hal (fun _ => rfl) hs hf) fun b => r b (v b)
theorem js_setO (i : Nat) {x : Str} {pos' : Pos} (on : α → OT) {m : R β} (v : β → α) {ρ' : β → List Slot} {k : β → α → R (Fl N L T)} (hN : X.N.Nodup) (h : JE X B ρ e m (fun b => .own 0 (on (v b))) ρ') (r : ∀ b x, JSs X B ((ρ' b).set i (.own 0 (on x))) rest (k b x) F) (hi : X.N[i]? = some x := by rfl) (hx : Loc X.env.scope x := by first | exact Or.inl rfl | exact Or.inr rfl)
    (hlt : ∀ b, i < (ρ' b).length := by intro _; exact of_decide_eq_true rfl) (hal : ∀ b, noAli i (ρ' b) = true := by intro _; rfl) (hs : swapsWith e (some (.Name x pos')) pos.line X.env = pure false := by rfl) (hf : X.fn x = true ∨ X.env.scope.names.lookup x = some .local := by first | exact .inl rfl | exact .inr rfl) :
    JSs X B ρ (.Assign [.Name x pos'] e pos :: rest) (m.bind fun b => lt (v b) (k b)) F :=
  js_cons1 (j1_set i hN h hi hx hlt hal (fun _ => rfl) hs hf) fun b => r b (v b)
theorem js_retP (t : T) (bs : List Bool) {s : Slot} (h : JE X B ρ e (.ok ()) (fun _ => s) (fun _ => ρ)) (hs : F.s t = s := by rfl) (ht : forgot ρ bs = F.t t := by rfl) : JS X B ρ (.Return (some e) pos) (.ok (.rt t)) F :=
  js_ret (fun _ => t) bs h (fun _ => hs) fun _ => ht
theorem jt_op {r : R2} (ht : ∀ ta tb, PE X a ta → PE X b tb → PT X e (tTest (tOp r ta tb))) {x y : D} {γ : Type} {mr : R γ} {bn : γ → Bool} (ha : JP X B ρ a x) (hb : JP X B ρ b y) (hr : OpD X.K B r x y mr (fun z => .val (.bool (bn z)))) : JT X B ρ e mr bn (fun _ => ρ) := by
  refine PT_imp (ht _ _ ha hb) fun σ H Q ⟨G, E, q⟩ => ?_
  refine ⟨G, E, fun vx G1 H1 x1 E1 => ?_⟩
  refine ⟨G1, E1.pop, fun vy G2 H2 x2 E2 => ?_⟩
  exact hr G2 H2 σ ρ vx vy _ E2.pop (E1.top.ex x2) E2.top (R.post_mono q fun z q v G3 H3 x3 E3 => ⟨_, E3.top.bl_inv, q G3 H3 (x1.trans (x2.trans x3)) E3.pop⟩)
theorem je_lstT {β : Type} {m : R β} {as : β → List Ar} {ρ' : β → List Slot} (f : α → D) (xs : β → List α) (h : JA X B ρ es m as ρ') (hd : ∀ b, arDs (as b) = (xs b).map f := by intro _; rfl) (hs : ∀ b, noSlots (as b) = true := by intro _; rfl) (hl : ∀ b, (arDs (as b)).length ≤ 1000 := by intro _; exact of_decide_eq_true rfl) : JE X B ρ (.List es pos) m (fun b => .own 0 (oL f (xs b))) ρ' := by
  have := je_lst (pos := pos) h hs hl
  simp only [hd] at this
  exact this
theorem od_catm {K : PySem.W.Frag} {f : α → D} {xs ys : List α} : OpD K B rCatR (eL f xs) (eL f ys) (R.guard (xs.length + ys.length ≤ sizeLine)) (fun _ => .own 0 (oL f (xs ++ ys))) := by
  have := od_cat (K := K) (B := B) (ds := xs.map f) (es := ys.map f)
  simp only [List.length_map] at this
  rw [← List.map_append] at this
  exact this
theorem ji_rng1P {tg : Expr} {p : Pos} {i : Int} (hm : X.mg "range" = none) (h : JA X B ρ [a] (.ok ()) (fun _ => [.val (.int i)]) (fun _ => ρ)) (hg : Gl X "range" := by rfl) (hs : starEach [a] X.env = [(false, eval a X.env)] := by rfl) :
    JI X B ρ tg (.Call (.Name "range" p) [a] [] pos) (R.guard (rngOk i)) (fun _ => (rng 0 i).map D.int) (fun _ => ρ) :=
  PI_imp (ji_rng1 (fun _ => i) hm h (fun _ => rfl) hg hs) fun σ H Q ⟨G, E, q⟩ => ⟨G, E, by
    obtain ⟨hc, q⟩ := R.post_guard q
    show ((R.guard (rngOk i)).bind fun _ => R.ok ()).post _ _
    unfold R.guard
    rw [if_pos hc]
    exact q⟩
theorem js_forP {α S L T : Type} {xs : List α} {en : α → D} {s0 : S} {tg it : Expr} (ρS : S → List Slot) (ρB : α → S → List Slot) {f : α → S → R (Fl S S T)} {F : Fin S L T} {body : List Stmt} (hp : PassesOwn (model X.prog X.w) X.A X.env X.xe) (hc : X.calm = true)
    (hi : JI X B ρ tg it (.ok ()) (fun _ => xs.map en) (fun _ => ρ)) (bs : List Bool) (hw : forgot ρ bs = ρS s0) (hg : ∀ x s, JG X B (ρS s) tg (en x) (.ok ()) (fun _ => ρB x s))
    (hb : ∀ x s, JSs X B (ρB x s) body (f x s) ⟨ρS, ρS, ρS, F.s, F.t⟩) (hn : F.n = ρS := by rfl) (hs : ∀ v, foldedSetIterable it X.env v = pure v := by intro _; rfl) : JS X B ρ (.For tg it body [] pos) (forR f xs s0) F :=
  js_for (m := .ok ()) (xs := fun _ => xs) (s0 := fun _ => s0) (ρ' := fun _ => ρ) ρS ρB hp hc hi bs (fun _ => hw) hg hb hn hs
theorem jt_pb {t : Bool} (h : TP0 X B ρ e t) : JT X B ρ e (.ok t) (fun b => b) (fun _ => ρ) := h
theorem cb_lenLm {K : PySem.W.Frag} {f : α → D} {xs : List α} : CbD K B ρ (fun xs H Q => ∃ p ys, xs = [.ref p] ∧ (SqL K H p ys ∨ SqT K H p ys) ∧ Q (.int ys.length) H) [.val (eL f xs)] (.ok ()) (fun _ => .val (.int ((xs.length : Nat) : Int))) := by
  have := cb_lenL (K := K) (B := B) (ρ := ρ) (ds := xs.map f)
  rw [List.length_map] at this
  exact this
theorem cb_lenTm {K : PySem.W.Frag} {f : α → D} {xs : List α} : CbD K B ρ (fun xs H Q => ∃ p ys, xs = [.ref p] ∧ (SqL K H p ys ∨ SqT K H p ys) ∧ Q (.int ys.length) H) [.val (eT f xs)] (.ok ()) (fun _ => .val (.int ((xs.length : Nat) : Int))) := by
  have := cb_lenT (K := K) (B := B) (ρ := ρ) (ds := xs.map f)
  rw [List.length_map] at this
  exact this
theorem je_opL {r : R2} (ht : ∀ ta tb, PE X a ta → PE X b tb → PE X e (tOp r ta tb)) {α : Type} {ma : R α} {xa y : α → D} {ρa : α → List Slot} {s : α → Slot} (ha : JE X B ρ a ma (fun x => .val (xa x)) ρa) (hb : ∀ x, JP X B (ρa x) b (y x)) (hr : ∀ x, OpD X.K B r (xa x) (y x) (.ok ()) (fun _ => s x)) : JE X B ρ e ma s ρa := by
  have hb' : PE X b (fun σ H Q => ∃ x, tJ X.K B (ρa x) (.ok ()) (fun _ => .val (y x)) (fun _ => ρa x) σ H Q) := ⟨fun pins s σ H Q I ⟨x, q⟩ => (hb x).run pins s σ H Q I q⟩
  exact PE_imp (ht _ _ ha hb') fun σ H Q ⟨G, E, q⟩ => ⟨G, E, R.post_mono q fun x q1 vx G1 H1 x1 E1 => ⟨x, G1, E1.pop, fun vy G2 H2 x2 E2 => hr x G2 H2 σ (ρa x) vx vy Q E2.pop (E1.top.ex x2) E2.top fun v G3 H3 x3 E3 => q1 v G3 H3 (x1.trans (x2.trans x3)) E3⟩⟩
theorem je_opLG {r : R2} (ht : ∀ ta tb, PE X a ta → PE X b tb → PE X e (tOp r ta tb)) {α γ : Type} {ma : R α} {xa y : α → D} {ρa : α → List Slot} {mr : α → R γ} {s : α → γ → Slot} (ha : JE X B ρ a ma (fun x => .val (xa x)) ρa) (hb : ∀ x, JP X B (ρa x) b (y x)) (hr : ∀ x, OpD X.K B r (xa x) (y x) (mr x) (s x)) :
    JE X B ρ e (ma.bind fun x => (mr x).bind fun z => .ok (x, z)) (fun p => s p.1 p.2) (fun p => ρa p.1) := by
  have hb' : PE X b (fun σ H Q => ∃ x, tJ X.K B (ρa x) (.ok ()) (fun _ => .val (y x)) (fun _ => ρa x) σ H Q) := ⟨fun pins s σ H Q I ⟨x, q⟩ => (hb x).run pins s σ H Q I q⟩
  exact PE_imp (ht _ _ ha hb') fun σ H Q ⟨G, E, q⟩ => ⟨G, E, R.post_mono (R.post_bind.mp q) fun x q1 vx G1 H1 x1 E1 => ⟨x, G1, E1.pop, fun vy G2 H2 x2 E2 => hr x G2 H2 σ (ρa x) vx vy Q E2.pop (E1.top.ex x2) E2.top (R.post_mono (R.post_bind.mp q1) fun z q2 v G3 H3 x3 E3 => q2 v G3 H3 (x1.trans (x2.trans x3)) E3)⟩⟩
theorem je_opR {r : R2} (ht : ∀ ta tb, PE X a ta → PE X b tb → PE X e (tOp r ta tb)) {β : Type} {x : D} {mb : R β} {xb : β → D} {ρb : β → List Slot} {s : β → Slot} (ha : JP X B ρ a x) (hb : JE X B ρ b mb (fun y => .val (xb y)) ρb) (hr : ∀ y, OpD X.K B r x (xb y) (.ok ()) (fun _ => s y)) : JE X B ρ e mb s ρb :=
  PE_imp (ht _ _ ha hb) fun σ H Q ⟨G, E, q⟩ => ⟨G, E, fun vx G1 H1 x1 E1 => ⟨G1, E1.pop, R.post_mono q fun y q1 vy G2 H2 x2 E2 => hr y G2 H2 σ (ρb y) vx vy Q E2.pop (E1.top.ex x2) E2.top fun v G3 H3 x3 E3 => q1 v G3 H3 (x1.trans (x2.trans x3)) E3⟩⟩
theorem je_opRG {r : R2} (ht : ∀ ta tb, PE X a ta → PE X b tb → PE X e (tOp r ta tb)) {β γ : Type} {x : D} {mb : R β} {xb : β → D} {ρb : β → List Slot} {mr : β → R γ} {s : β → γ → Slot} (ha : JP X B ρ a x) (hb : JE X B ρ b mb (fun y => .val (xb y)) ρb) (hr : ∀ y, OpD X.K B r x (xb y) (mr y) (s y)) :
    JE X B ρ e (mb.bind fun y => (mr y).bind fun z => .ok (y, z)) (fun p => s p.1 p.2) (fun p => ρb p.1) :=
  PE_imp (ht _ _ ha hb) fun σ H Q ⟨G, E, q⟩ => ⟨G, E, fun vx G1 H1 x1 E1 => ⟨G1, E1.pop, R.post_mono (R.post_bind.mp q) fun y q1 vy G2 H2 x2 E2 => hr y G2 H2 σ (ρb y) vx vy Q E2.pop (E1.top.ex x2) E2.top (R.post_mono (R.post_bind.mp q1) fun z q2 v G3 H3 x3 E3 => q2 v G3 H3 (x1.trans (x2.trans x3)) E3)⟩⟩
theorem jt_opL {r : R2} (ht : ∀ ta tb, PE X a ta → PE X b tb → PT X e (tTest (tOp r ta tb))) {α : Type} {ma : R α} {xa y : α → D} {ρa : α → List Slot} {bn : α → Bool} (ha : JE X B ρ a ma (fun x => .val (xa x)) ρa) (hb : ∀ x, JP X B (ρa x) b (y x)) (hr : ∀ x, OpD X.K B r (xa x) (y x) (.ok ()) (fun _ => .val (.bool (bn x)))) : JT X B ρ e ma bn ρa := by
  have hb' : PE X b (fun σ H Q => ∃ x, tJ X.K B (ρa x) (.ok ()) (fun _ => .val (y x)) (fun _ => ρa x) σ H Q) := ⟨fun pins s σ H Q I ⟨x, q⟩ => (hb x).run pins s σ H Q I q⟩
  exact PT_imp (ht _ _ ha hb') fun σ H Q ⟨G, E, q⟩ => ⟨G, E, R.post_mono q fun x q1 vx G1 H1 x1 E1 => ⟨x, G1, E1.pop, fun vy G2 H2 x2 E2 => hr x G2 H2 σ (ρa x) vx vy _ E2.pop (E1.top.ex x2) E2.top fun v G3 H3 x3 E3 => ⟨_, E3.top.bl_inv, q1 G3 H3 (x1.trans (x2.trans x3)) E3.pop⟩⟩⟩
theorem ja_el {α : Type} {ma : R α} {xa : α → D} {ρa : α → List Slot} {as : α → List Ar} (h : JE X B ρ e ma (fun x => .val (xa x)) ρa) (t : ∀ x, JA X B (ρa x) es (.ok ()) (fun _ => as x) (fun _ => ρa x)) (hst : starEach (e :: es) X.env = (false, eval e X.env) :: starEach es X.env := by rfl) :
    JA X B ρ (e :: es) ma (fun x => .val (xa x) :: as x) ρa := by
  have t' : PA X es (fun σ H Q => ∃ x, tJA X.K B (ρa x) (.ok ()) (fun _ => as x) (fun _ => ρa x) σ H Q) := ⟨fun pos pins s σ H Q I ⟨x, q⟩ => (t x).run pos pins s σ H Q I q⟩
  exact PA_imp (pa_cons h t' hst) fun σ H Q ⟨G, E, q⟩ => ⟨G, E, R.post_mono q fun x k v G1 H1 x1 E1 => ⟨x, G1, E1.pop, fun vs G2 H2 x2 E2 ok => k _ G2 H2 (x1.trans x2) E2 (.val (E1.top.ex x2) ok)⟩⟩
theorem je_cbN {E0 : Expr} {r : List V → Hp → VK → Prop} (hp : ∀ t, PA X es t → PE X E0 (tCB r t)) {β : Type} {ma : R β} {as : β → List Ar} {ρa : β → List Slot} {s : β → Slot} (ha : JA X B ρ es ma as ρa) (hr : ∀ x, CbD X.K B (ρa x) r (as x) (.ok ()) (fun _ => s x)) :
    JE X B ρ E0 ma s ρa :=
  PE_imp (hp _ ha) fun σ H Q ⟨G, E, q⟩ => ⟨G, E, R.post_mono q fun x q1 vs G1 H1 x1 E1 ok => hr x G1 H1 σ vs Q E1 ok fun v G2 H2 x2 E2 => q1 v G2 H2 (x1.trans x2) E2⟩
theorem od_mulC {K : PySem.W.Frag} {i j : Int} (h : CMul i j := by first | exact .inl (by decide) | exact .inr (by decide)) : OpD K B (rI CMul fun i j => .int (i * j)) (.int i) (.int j) (.ok ()) (fun _ => .val (.int (i * j))) :=
  od_val0 (fun G H vx vy Q _ hx hy q => ⟨i, j, hx.int_inv, hy.int_inv, h, q⟩) fun _ => .int _
theorem od_modC {K : PySem.W.Frag} {i j : Int} (h : 0 < j := by decide) : OpD K B (rI (fun _ j => 0 < j) fun i j => .int (i % j)) (.int i) (.int j) (.ok ()) (fun _ => .val (.int (i % j))) :=
  od_val0 (fun G H vx vy Q _ hx hy q => ⟨i, j, hx.int_inv, hy.int_inv, h, q⟩) fun _ => .int _
theorem od_fdivC {K : PySem.W.Frag} {i j : Int} (h : 0 < j ∧ j < 1073741824 := by decide) : OpD K B (rI CDiv fun i j => .int (i / j)) (.int i) (.int j) (.ok ()) (fun _ => .val (.int (i / j))) :=
  od_val0 (fun G H vx vy Q _ hx hy q => ⟨i, j, hx.int_inv, hy.int_inv, h, q⟩) fun _ => .int _
theorem od_powC {K : PySem.W.Frag} {i j : Int} (h : CPow i j := by decide) : OpD K B (rI CPow fun i j => .int (i ^ j.toNat)) (.int i) (.int j) (.ok ()) (fun _ => .val (.int (i ^ j.toNat))) :=
  od_val0 (fun G H vx vy Q _ hx hy q => ⟨i, j, hx.int_inv, hy.int_inv, h, q⟩) fun _ => .int _
section
variable {CX : CXT} {k : Nat} {f : Addr} {fd : FuncData} {ps : List Str} {EE : XK} {x : Str} {p : Pos}
theorem je_callV {α β : Type} {ins : α → List Slot} {mf : α → R β} {sl : β → Slot} {outs : β → List Slot} (F : FnG X.prog X.w X.K X.mg X.base CX k f fd ps (spM X.K ins mf sl outs)) (hr : RoomG k X.A) (hg : Gl X x) (hm : X.mg x = some (.ref f)) (hk : PySem.W.keepIn X.K (.ref f) = true)
    (hb : Binds X.K fd ps []) (hx : Passes CX X EE) {as : List Ar} (arg : α) (ha : JA X B ρ (e :: es) (.ok ()) (fun _ => as) (fun _ => ρ)) (hne : ∀ e, ¬ B.rs e) (hi : goodIn ρ as = true := by rfl) (hins : insAt 0 ρ as = ins arg := by rfl)
    (ho : ∀ b, goodOut 0 as (outs b) = true := by intro _; rfl) (hal : aliOk ρ as = true := by rfl) (hres : ∀ b, resOk (sl b) = true := by intro _; rfl) (hns : noSlots as = true := by rfl)
    (hdb : (x == ("__debug__" : Str)) = false := by decide) (he : starEach (e :: es) X.env = (false, eval e X.env) :: starEach es X.env := by rfl) (hpl : (backTo pos (starEach es X.env)).any (·.1) = false := by rfl) :
    JE X B ρ (.Call (.Name x p) (e :: es) [] pos) (mf arg) sl (fun _ => ρ) := by
  have := je_callP (pos := pos) (p := p) F hr hg hm hk hb hx arg ha hne hi hins ho hal hres hdb he hpl
  simp only [backAt_noSlots hns, movedAt_noSlots hns] at this
  exact this
theorem je_callVE {α β γ : Type} {ins : α → List Slot} {mf : α → R β} {sl : β → Slot} {outs : β → List Slot} (F : FnG X.prog X.w X.K X.mg X.base CX k f fd ps (spM X.K ins mf sl outs)) (hr : RoomG k X.A) (hg : Gl X x) (hm : X.mg x = some (.ref f)) (hk : PySem.W.keepIn X.K (.ref f) = true)
    (hb : Binds X.K fd ps []) (hx : Passes CX X EE) {ma : R γ} {as : γ → List Ar} {ρa : γ → List Slot} (arg : γ → α) (ha : JA X B ρ (e :: es) ma as ρa) (hne : ∀ e, ¬ B.rs e) (hi : ∀ c, goodIn (ρa c) (as c) = true := by intro _; rfl) (hins : ∀ c, insAt 0 (ρa c) (as c) = ins (arg c) := by intro _; rfl)
    (ho : ∀ c b, goodOut 0 (as c) (outs b) = true := by intro _ _; rfl) (hal : ∀ c, aliOk (ρa c) (as c) = true := by intro _; rfl) (hres : ∀ b, resOk (sl b) = true := by intro _; rfl) (hns : ∀ c, noSlots (as c) = true := by intro _; rfl)
    (hdb : (x == ("__debug__" : Str)) = false := by decide) (he : starEach (e :: es) X.env = (false, eval e X.env) :: starEach es X.env := by rfl) (hpl : (backTo pos (starEach es X.env)).any (·.1) = false := by rfl) :
    JE X B ρ (.Call (.Name x p) (e :: es) [] pos) (ma.bind fun c => (mf (arg c)).bind fun b => .ok (c, b)) (fun y => sl y.2) (fun y => ρa y.1) := by
  have := je_call (pos := pos) (p := p) F hr hg hm hk hb hx arg ha hne hi hins ho hal hres hdb he hpl
  simp only [backAt_noSlots (hns _), movedAt_noSlots (hns _)] at this
  exact this
end
end
theorem law_sp {K : PySem.W.Frag} {H : Hp} {a : Addr} {ns : List Int} {E : XK} (hS : SqL K H a (ns.map V.int)) {ins : List Int → List Slot} {m : List Int → R Bool} {sl : Bool → Slot} {outs : Bool → List Slot} (hm : m ns = .ok true) (hi : ins ns = [.val (.scr ns)] := by rfl) (hs : sl true = .val (.bool true) := by rfl) :
    spM K ins m sl outs [.ref a] H (fun v _ => v = .bl true) E := by
  refine ⟨ns, H, [], ⟨⟨fun x o _ e => e, fun x l m => ?_, Ex.refl H, fun x _ e => .inl e, Ex.refl H⟩, ⟨[], ?_, List.nodup_nil, fun _ m => nomatch m⟩, ?_, fun i j p e => ?_⟩, ?_⟩
  · cases l with
    | zero => exact nomatch m
    | succ l => exact nomatch m
  · rw [hi]
    exact .cons (A := []) (.val (.scr hS)) .nil
  · rw [hi]
    rfl
  · rw [hi] at e
    cases i with
    | zero => cases e
    | succ i => cases e
  · rw [hm]
    intro v G' H' E'
    rw [hs] at E'
    exact E'.top.bl_inv
end DL
namespace DL
open PySem PySem.Spec L2
def tJN (K : PySem.W.Frag) (B : Base) (ρ : List Slot) (d : D) (ts : List Nat) (ρ' : List Slot) : TG := fun v σ H Q =>
  ∃ G, En K B G H σ ρ [] ∧ Rp K G v d ∧ ∀ σ', (∀ i, i ∉ ts → σ'[i]? = σ[i]?) → σ'.length = σ.length → En K B G H σ' ρ' [] → Q σ' H
def JN (X : Cx) (B : Base) (ρ : List Slot) (tg : Expr) (d : D) (ts : List Nat) (ρ' : List Slot) : Prop := PG X tg (tJN X.K B ρ d ts ρ')
def tJNs (K : PySem.W.Frag) (B : Base) (ρ : List Slot) (ds : List D) (ts : List Nat) (ρ' : List Slot) : TGs := fun vs σ H Q =>
  ∃ G, En K B G H σ ρ [] ∧ RpAll K G vs ds ∧ ∀ σ', (∀ i, i ∉ ts → σ'[i]? = σ[i]?) → σ'.length = σ.length → En K B G H σ' ρ' [] → Q σ' H
def JNs (X : Cx) (B : Base) (ρ : List Slot) (es : List Expr) (ds : List D) (ts : List Nat) (ρ' : List Slot) : Prop := PGs X es (tJNs X.K B ρ ds ts ρ')
section
variable {X : Cx} {B : Base} {ρ : List Slot} {pos : Pos} {e : Expr}
theorem jn_name (i : Nat) {x : Str} {d : D} (hN : X.N.Nodup) (hi : X.N[i]? = some x := by rfl) (hx : Loc X.env.scope x := by first | exact Or.inl rfl | exact Or.inr rfl) (hf : X.fn x = true ∨ X.env.scope.names.lookup x = some .local := by first | exact .inl rfl | exact .inr rfl)
    (hlt : i < ρ.length := by exact of_decide_eq_true rfl) (hal : noAli i ρ = true := by rfl) : JN X B ρ (.Name x pos) d [i] (ρ.set i (.val d)) :=
  PG_imp (pg_name (i := i) hN hi hx hf) fun v σ H Q ⟨G, E, r, q⟩ => q (σ.set i (some v)) (fun j hj => by
    rw [List.getElem?_set_ne (fun z => hj (by rw [z]; exact List.mem_singleton.mpr rfl))]) (by rw [List.length_set]) ((E.push r).set hlt (fun _ _ z => nomatch z) hal)
theorem jns_nil : JNs X B ρ [] [] [] ρ := PGs_imp pgs_nil fun vs σ H Q ⟨G, E, r, q⟩ => by
  cases r
  exact ⟨rfl, q σ (fun _ _ => rfl) rfl E⟩
theorem jns_cons {es : List Expr} {d : D} {ds : List D} {ts ts2 : List Nat} {ρ1 ρ2 : List Slot} (h : JN X B ρ e d ts ρ1) (t : JNs X B ρ1 es ds ts2 ρ2)
    (hs : (assignEach (e :: es) X.env).map (·.2) = assign e X.env :: (assignEach es X.env).map (·.2) := by rfl) : JNs X B ρ (e :: es) (d :: ds) (ts ++ ts2) ρ2 := by
  refine PGs_imp (pgs_cons h t hs) fun vs σ H Q ⟨G, E, r, q⟩ => ?_
  cases r with
  | cons r rr => exact ⟨_, _, rfl, G, E, r, fun σ' h1 l1 E' => ⟨G, E', rr, fun σ2 h2 l2 E2 => q σ2 (fun i hi => by
      have hi' : i ∉ ts ∧ i ∉ ts2 := by
        constructor
        · exact fun z => hi (List.mem_append_left _ z)
        · exact fun z => hi (List.mem_append_right _ z)
      rw [h2 i hi'.2, h1 i hi'.1]) (l2.trans l1) E2⟩⟩
theorem jn_tup {es : List Expr} {k : Nat} {ds : List D} {ts : List Nat} {ρ' : List Slot} (hc : X.calm = true) (h : JNs X B ρ es ds ts ρ') (hn : (assignEach es X.env).length = ds.length := by rfl) (hst : (assignEach es X.env).findIdx? (·.1) = none := by rfl) : JN X B ρ (.Tuple es k pos) (.tuple ds) ts ρ' :=
  PG_imp (pg_tup (n := ds.length) hc h hn hst) fun v σ H Q ⟨G, E, r, q⟩ => by
    obtain ⟨a, xs, rfl, hS, hr⟩ := r.tup_inv
    exact ⟨a, xs, rfl, E.sub.t hS, hr.len, G, E, hr, q⟩
end
def blot : Nat → List Nat → List Slot → List Slot
  | _, _, [] => []
  | n, vs, s :: ρ => (if vs.contains n then .non else s) :: blot (n + 1) vs ρ
def unblot : Nat → List Nat → List Slot → List Slot → List Slot
  | n, vs, s :: ρ, t :: ρ2 => (if vs.contains n then s else t) :: unblot (n + 1) vs ρ ρ2
  | _, _, _, _ => []
def isPlain : Slot → Bool
  | .non => true
  | .val _ => true
  | .own _ _ => false
  | .ali _ _ => false
def plainAt : Nat → List Nat → List Slot → Bool
  | _, _, [] => true
  | n, vs, s :: ρ => (if vs.contains n then isPlain s else true) && plainAt (n + 1) vs ρ
section
variable {K : PySem.W.Frag} {B : Base} {G G' H H' : Hp}
theorem Cells.blot : ∀ {σ σ2 : L2.St} {ρ : List Slot} {A : List Addr} (n : Nat) (vs : List Nat), Cells K B G H σ ρ A → plainAt n vs ρ = true → σ2.length = σ.length → (∀ i, (n + i) ∉ vs → σ2[i]? = σ[i]?) → Cells K B G H σ2 (blot n vs ρ) A
  | _, σ2, _, _, n, vs, .nil, _, hl, _ => by
    cases σ2 with
    | nil => exact .nil
    | cons a b => cases hl
  | _, σ2, _, _, n, vs, .cons (s := s) (A := A1) c r, hp, hl, hk => by
    cases σ2 with
    | nil => cases hl
    | cons y σ2 =>
      rw [plainAt, Bool.and_eq_true] at hp
      have r' := Cells.blot (n + 1) vs r hp.2 (by simpa using hl) (σ2 := σ2) (fun i hi => by
        have := hk (i + 1) (by rw [show n + (i + 1) = n + 1 + i by omega]; exact hi)
        simpa using this)
      rw [DL.blot]
      by_cases hc : vs.contains n = true
      · rw [if_pos hc]
        have h1 := hp.1
        rw [if_pos hc] at h1
        have e : A1 = [] := by
          cases c with
          | non => rfl
          | val _ => rfl
          | own _ _ _ => simp [isPlain] at h1
          | ali => rfl
        subst e
        exact .cons .non r'
      · rw [if_neg hc]
        have := hk 0 (by
          intro z
          exact hc (List.contains_iff_mem.mpr (by simpa using z)))
        simp at this
        rw [this]
        exact .cons c r'
theorem Cells.unblot {B0 : Base} : ∀ {σ σ2 : L2.St} {ρ ρ2 : List Slot} {A A0 : List Addr} (n : Nat) (vs : List Nat), Cells K B0 G H σ ρ A0 → Ex G G' → Cells K B G' H' σ2 ρ2 A → plainAt n vs ρ = true → plainAt n vs ρ2 = true → (∀ i, (n + i) ∉ vs → σ2[i]? = σ[i]?) → σ2.length = σ.length → Cells K B G' H' σ (unblot n vs ρ ρ2) A
  | _, σ2, _, _, A, _, n, vs, .nil, _, c2, _, _, _, hl => by
    cases c2 with
    | nil => exact .nil
    | cons _ _ => cases hl
  | _, σ2, _, _, A, _, n, vs, .cons (s := s) (A := A1) c r, e, c2, hp, hp2, hk, hl => by
    cases c2 with
    | nil => cases hl
    | @cons y t B1 σ2 ρ2 B2 d r2 =>
      rw [plainAt, Bool.and_eq_true] at hp hp2
      have r' := Cells.unblot (n + 1) vs r e r2 hp.2 hp2.2 (fun i hi => by
        have := hk (i + 1) (by rw [show n + (i + 1) = n + 1 + i by omega]; exact hi)
        simpa using this) (by simpa using hl)
      rw [DL.unblot]
      by_cases hc : vs.contains n = true
      · rw [if_pos hc]
        have h1 := hp.1
        have h2 := hp2.1
        rw [if_pos hc] at h1 h2
        have e2 : B1 = [] := by
          cases d with
          | non => rfl
          | val _ => rfl
          | own _ _ _ => simp [isPlain] at h2
          | ali => rfl
        subst e2
        cases c with
        | non => exact .cons .non r'
        | val h => exact .cons (.val (h.ex e)) r'
        | own _ _ _ => simp [isPlain] at h1
        | ali => simp [isPlain] at h1
      · rw [if_neg hc]
        have := hk 0 (by
          intro z
          exact hc (List.contains_iff_mem.mpr (by simpa using z)))
        simp at this
        rw [← this]
        exact .cons d r'
theorem blot_len : ∀ (n : Nat) (vs : List Nat) (ρ : List Slot), (blot n vs ρ).length = ρ.length
  | _, _, [] => rfl
  | n, vs, s :: ρ => by rw [blot, List.length_cons, List.length_cons, blot_len]
theorem unblot_len : ∀ (n : Nat) (vs : List Nat) (ρ ρ2 : List Slot), ρ2.length = ρ.length → (unblot n vs ρ ρ2).length = ρ.length
  | _, _, [], [], _ => rfl
  | n, vs, s :: ρ, t :: ρ2, h => by rw [unblot, List.length_cons, List.length_cons, unblot_len _ _ _ _ (by simpa using h)]
theorem blot_noAli : ∀ {ρ : List Slot} (n : Nat) (vs : List Nat), noAlis ρ = true → noAlis (blot n vs ρ) = true
  | [], _, _, _ => rfl
  | s :: ρ, n, vs, h => by
    rw [blot]
    have h' : noAlis ρ = true := by
      cases s <;> simp [noAlis] at h <;> exact h
    by_cases hc : vs.contains n = true
    · rw [if_pos hc]
      exact blot_noAli (n + 1) vs h'
    · rw [if_neg hc]
      cases s with
      | non => exact blot_noAli (n + 1) vs h'
      | val _ => exact blot_noAli (n + 1) vs h'
      | own _ _ => exact blot_noAli (n + 1) vs h'
      | ali _ _ => simp [noAlis] at h
theorem unblot_noAli : ∀ {ρ ρ2 : List Slot} (n : Nat) (vs : List Nat), noAlis ρ = true → noAlis ρ2 = true → noAlis (unblot n vs ρ ρ2) = true
  | [], [], _, _, _, _ => rfl
  | [], _ :: _, _, _, _, _ => rfl
  | _ :: _, [], _, _, _, _ => rfl
  | s :: ρ, t :: ρ2, n, vs, h, h2 => by
    rw [unblot]
    have h' : noAlis ρ = true := by
      cases s <;> simp [noAlis] at h <;> exact h
    have h2' : noAlis ρ2 = true := by
      cases t <;> simp [noAlis] at h2 <;> exact h2
    by_cases hc : vs.contains n = true
    · rw [if_pos hc]
      cases s with
      | non => exact unblot_noAli (n + 1) vs h' h2'
      | val _ => exact unblot_noAli (n + 1) vs h' h2'
      | own _ _ => exact unblot_noAli (n + 1) vs h' h2'
      | ali _ _ => simp [noAlis] at h
    · rw [if_neg hc]
      cases t with
      | non => exact unblot_noAli (n + 1) vs h' h2'
      | val _ => exact unblot_noAli (n + 1) vs h' h2'
      | own _ _ => exact unblot_noAli (n + 1) vs h' h2'
      | ali _ _ => simp [noAlis] at h2
theorem En.inB {σ σ2 : L2.St} {ρ : List Slot} (E : En K B G H σ ρ []) (vs : List Nat) (hp : plainAt 0 vs ρ = true) (ha : noAlis ρ = true) (hl : σ2.length = σ.length) (hk : ∀ i, i ∉ vs → σ2[i]? = σ[i]?) : En K B G H σ2 (blot 0 vs ρ) [] := by
  obtain ⟨A, c, n, f⟩ := E.own
  exact ⟨E.anc, ⟨A, Cells.blot 0 vs (show Cells K B G H σ ρ A from c) hp hl (fun i hi => hk i (by simpa using hi)), n, f⟩, by rw [blot_len, hl, E.len], fun i j p e => absurd e (noAlis_get (blot_noAli 0 vs ha))⟩
theorem En.outB {B0 : Base} {σ σ2 : L2.St} {ρ ρ2 : List Slot} (E : En K B0 G H σ ρ []) (E2 : En K B G' H' σ2 ρ2 []) (e : Ex G G') (vs : List Nat) (hp : plainAt 0 vs ρ = true) (hp2 : plainAt 0 vs ρ2 = true) (ha : noAlis ρ = true) (ha2 : noAlis ρ2 = true) (hk : ∀ i, i ∉ vs → σ2[i]? = σ[i]?) (hl : σ2.length = σ.length) : En K B G' H' σ (unblot 0 vs ρ ρ2) [] := by
  obtain ⟨A0, c0, _, _⟩ := E.own
  obtain ⟨A, c, n, f⟩ := E2.own
  refine ⟨E2.anc, ⟨A, Cells.unblot 0 vs (show Cells K B0 G H σ ρ A0 from c0) e (show Cells K B G' H' σ2 ρ2 A from c) hp hp2 (fun i hi => hk i (by simpa using hi)) hl, n, f⟩, ?_, fun i j p e => absurd e (noAlis_get (unblot_noAli 0 vs ha ha2))⟩
  rw [unblot_len _ _ _ _ (by rw [← E2.len, hl, E.len])]
  exact E.len
def Base.hide (B : Base) (p : Addr) (o : HO) : Base := { B with H0 := fun a => if a = p then some o else B.H0 a }
theorem En.noMo {σ : L2.St} {ρ : List Slot} {ex : List (V × Slot)} {p : Addr} (E : En K B G H σ ρ ex) (hp : H p = none) : (∀ l, p ∉ B.Mo l) ∧ B.H0 p = none := ⟨fun l m => E.anc.there p l m hp, E.fresh hp⟩
theorem En.hideIn {σ : L2.St} {ρ : List Slot} {p : Addr} {ds : List D} (E : En K B G H σ ρ [(.ref p, .own 0 (.lst (ds.map OT.dat)))]) (hm : ∀ l, p ∉ B.Mo l) (h0 : B.H0 p = none) : ∃ vs, H p = some (.lst vs) ∧ RpAll K G vs ds ∧ En K (B.hide p (.lst vs)) G H σ ρ [] := by
  obtain ⟨A, c, n, f⟩ := E.own
  cases c with
  | @cons _ _ A1 _ _ A2 c1 cr =>
    cases c1 with
    | own hO hr hv =>
      cases hO with
      | @lst _ ws _ A3 hH hall =>
        obtain ⟨e3, r⟩ := own_dats_inv hall
        subst e3
        have hG : G p = none := f p (by simp)
        have hn : p ∉ A2 := (List.nodup_cons.mp n).1
        refine ⟨ws, hH, r, ⟨⟨fun a o ha e => ?_, E.anc.there, E.anc.gsub, fun a e1 e2 => ?_, E.anc.sub⟩, ⟨A2, ?_, (List.nodup_cons.mp n).2, fun a m => f a (List.mem_cons_of_mem _ m)⟩, E.len, E.ali⟩⟩
        · have e : (if a = p then some (HO.lst ws) else B.H0 a) = some o := e
          by_cases hap : a = p
          · rw [if_pos hap] at e
            rw [hap, hH]
            exact e
          · rw [if_neg hap] at e
            exact E.anc.keep a o ha e
        · by_cases hap : a = p
          · rw [hap]
            exact .inl hG
          · have e1 : (if a = p then some (HO.lst ws) else B.H0 a) ≠ none := e1
            rw [if_neg hap] at e1
            exact E.anc.gnew a e1 e2
        · have gen : ∀ {σ : L2.St} {ρ : List Slot} {A : List Addr}, Cells K B G H σ ρ A → p ∉ A → Cells K (B.hide p (.lst ws)) G H σ ρ A := by
            intro σ ρ A h
            induction h with
            | nil => exact fun _ => .nil
            | cons c r ih =>
              intro hn
              refine .cons ?_ (ih fun z => hn (List.mem_append_right _ z))
              cases c with
              | non => exact .non
              | val h => exact .val h
              | ali => exact .ali
              | own h l v =>
                refine .own h (fun a m => (l a m).imp id fun z => ?_) v
                show (if a = p then _ else B.H0 a) = none
                rw [if_neg fun e => hn (List.mem_append_left _ (by rw [← e]; exact m))]
                exact z
          exact gen (show Cells K B G H σ ρ A2 from cr) hn
theorem En.hideOut {σ : L2.St} {ρ : List Slot} {p : Addr} {vs : List V} {ds : List D} (E : En K (B.hide p (.lst vs)) G H σ ρ []) (hm : ∀ l, p ∉ B.Mo l) (h0 : B.H0 p = none) (hG0 : B.G0 p = none) (r : RpAll K G vs ds) (ha : noAlis ρ = true) : H p = some (.lst vs) ∧ G p = none ∧
    ∀ (vs' : List V) (ds' : List D), RpAll K G vs' ds' → En K B G (upd H p (.lst vs')) σ ρ [(.ref p, .own 0 (.lst (ds'.map OT.dat)))] := by
  have hH : H p = some (.lst vs) := E.anc.keep p _ hm (by
    show (if p = p then some (HO.lst vs) else B.H0 p) = _
    rw [if_pos rfl])
  have hG : G p = none := E.anc.gnone (by
    show (if p = p then some (HO.lst vs) else B.H0 p) ≠ none
    rw [if_pos rfl]
    exact fun z => nomatch z) hG0 (fun xs z => by rw [hH] at z; cases z)
  refine ⟨hH, hG, fun vs' ds' r' => ?_⟩
  obtain ⟨A, c, n, f⟩ := E.own
  have hn : p ∉ A := by
    intro m
    rcases Cells.region (show Cells K _ G H σ ρ A from c) p m with ⟨l, z⟩ | z
    · exact hm l z
    · have z : (if p = p then some (HO.lst vs) else B.H0 p) = none := z
      rw [if_pos rfl] at z
      cases z
  have gen : ∀ {σ : L2.St} {ρ : List Slot} {A : List Addr}, Cells K (B.hide p (.lst vs)) G H σ ρ A → p ∉ A → Cells K B G (upd H p (.lst vs')) σ ρ A := by
    intro σ ρ A h
    induction h with
    | nil => exact fun _ => .nil
    | cons c r ih =>
      intro hn
      refine .cons ?_ (ih fun z => hn (List.mem_append_right _ z))
      cases c with
      | non => exact .non
      | val h => exact .val h
      | ali => exact .ali
      | own h l v =>
        have hA := fun z => hn (List.mem_append_left _ z)
        refine .own (h.ex (Ex.refl _) fun a m u e => ?_) (fun a m => (l a m).imp id fun z => ?_) v
        · rw [upd_ne (fun z => hA (by rw [← z]; exact m))]
          exact e
        · have z : (if a = p then some (HO.lst vs) else B.H0 a) = none := z
          by_cases hap : a = p
          · rw [if_pos hap] at z
            cases z
          · rw [if_neg hap] at z
            exact z
  refine ⟨⟨fun a o ha e => ?_, fun a l m => ?_, E.anc.gsub, fun a e1 e2 => ?_, fun a o e => ?_⟩, ⟨p :: A, .cons (A := [p]) (.own (.lst upd_same (own_dats r')) (fun a m => .inr ?_) (.inl rfl)) (gen (show Cells K _ G H σ ρ A from c) hn), List.nodup_cons.mpr ⟨hn, n⟩, fun a m => ?_⟩, E.len, fun i j q e => ?_⟩
  · have hap : a ≠ p := fun z => by
      rw [z, h0] at e
      cases e
    rw [upd_ne hap]
    refine E.anc.keep a o ha ?_
    show (if a = p then some (HO.lst vs) else B.H0 a) = _
    rw [if_neg hap]
    exact e
  · have hap : a ≠ p := fun z => hm l (by rw [← z]; exact m)
    rw [upd_ne hap]
    exact E.anc.there a l m
  · by_cases hap : a = p
    · exact .inl (by rw [hap]; exact hG)
    · rw [upd_ne hap]
      refine E.anc.gnew a ?_ e2
      show (if a = p then some (HO.lst vs) else B.H0 a) ≠ none
      rw [if_neg hap]
      exact e1
  · rw [upd_ne (ne_of_none e hG)]
    exact E.anc.sub a o e
  · rw [List.mem_singleton.mp m]
    exact h0
  · rcases List.mem_cons.mp m with rfl | m
    · exact hG
    · exact f a m
  · exact absurd e (noAlis_get ha)
end
theorem upd_id {H : Hp} {p : Addr} {o : HO} (h : H p = some o) : upd H p o = H := by
  funext a
  by_cases ha : a = p
  · subst ha
    rw [upd_same, h]
  · rw [upd_ne ha]
def compR {α S γ : Type} (f : α → S → R (Option γ × S)) : List α → List γ → S → R (List γ × S)
  | [], acc, s => .ok (acc, s)
  | x :: xs, acc, s => (f x s).bind fun p => compR f xs (match p.1 with | some v => acc ++ [v] | none => acc) p.2
def compF {α S δ ε γ : Type} (c : α → S → R δ) (bn : δ → Bool) (me : α → S → R ε) (v : ε → γ) (st : ε → S) (x : α) (s : S) : R (Option γ × S) :=
  (c x s).bind fun d => if bn d = true then (me x s).bind fun y => .ok (some (v y), st y) else .ok (none, s)
def JTs (X : Cx) (B : Base) (ρ : List Slot) (es : List Expr) {β : Type} (m : R β) (bn : β → Bool) : Prop := PTs X es (tJT X.K B ρ m bn fun _ => ρ)
section
variable {X : Cx} {B : Base} {ρ : List Slot} {pos : Pos} {e a b tg it elt : Expr}
theorem jts_nil : JTs X B ρ [] (.ok ()) (fun _ => true) := ⟨fun pins s σ H Q I ⟨G, E, q⟩ => pts_nil.run pins s σ H Q I (q G H (Ex.refl G) E)⟩
theorem jts_one {β : Type} {m : R β} {bn : β → Bool} (h : JT X B ρ e m bn (fun _ => ρ)) : JTs X B ρ [e] m bn := pts_one h
abbrev Blk (X : Cx) (sc : Scope) (P : Cx → Prop) : Prop := ∀ (s : Shared) (H : Hp) (C : Addr) (cl : List (Str × Addr)) (fp : List Addr), P (X.blk s H sc (compEnvC sc cl C X.env) fp)
theorem wipe_eq {σ σ2 : L2.St} : ∀ {vs : List Nat}, σ2.length = σ.length → (∀ i, i ∉ vs → σ2[i]? = σ[i]?) → wipe σ2 vs = wipe σ vs := by
  have key : ∀ (σ : L2.St) (vs : List Nat) (i : Nat), (wipe σ vs)[i]? = if i ∈ vs ∧ i < σ.length then some none else σ[i]? := by
    intro σ vs
    induction vs with
    | nil => intro i; simp [wipe]
    | cons v vs ih =>
      intro i
      rw [wipe]
      by_cases hv : v = i
      · subst hv
        by_cases hl : v < σ.length
        · rw [List.getElem?_set_self (by rw [wipe_length]; exact hl), if_pos ⟨List.mem_cons_self, hl⟩]
        · rw [List.getElem?_eq_none (by rw [List.length_set, wipe_length]; omega), if_neg (fun z => hl z.2), List.getElem?_eq_none (by omega)]
      · rw [List.getElem?_set_ne hv, ih]
        have : (i ∈ v :: vs) ↔ i ∈ vs := by
          constructor
          · intro z
            rcases List.mem_cons.mp z with z | z
            · exact absurd z.symm hv
            · exact z
          · exact List.mem_cons_of_mem _
        simp only [this]
  intro vs hl hk
  apply List.ext_getElem?
  intro i
  rw [key, key, hl]
  by_cases hi : i ∈ vs
  · by_cases hlt : i < σ.length
    · rw [if_pos ⟨hi, hlt⟩, if_pos ⟨hi, hlt⟩]
    · rw [if_neg (fun z => hlt z.2), if_neg (fun z => hlt z.2), List.getElem?_eq_none (by omega), List.getElem?_eq_none (by omega)]
  · rw [if_neg (fun z => hi z.1), if_neg (fun z => hi z.1), hk i hi]
theorem tlc_of {K : PySem.W.Frag} {α S γ δ ε β0 : Type} {m : R β0} {xs : β0 → List α} {ea : α → D} {en : γ → D} {ρ1 : β0 → List Slot} {vs ts : List Nat} {ρS : S → List Slot} {s0 : β0 → S} {ρB : α → S → List Slot} {c : α → S → R δ} {bn : δ → Bool} {me : α → S → R ε} {v : ε → γ} {st : ε → S}
    (hw : ∀ b, ρ1 b = ρS (s0 b)) (hpl : ∀ s, plainAt 0 vs (ρS s) = true) (hna : ∀ s, noAlis (ρS s) = true) (hts : ∀ i ∈ ts, i ∈ vs) (hplB : ∀ x s, plainAt 0 vs (ρB x s) = true) (hnaB : ∀ x s, noAlis (ρB x s) = true) (hun : ∀ x s s', unblot 0 vs (ρS s) (ρB x s') = ρS s')
    {σ : L2.St} {H : Hp} {Q : VK}
    (q : tJ K B ρ (m.bind fun b => (R.guard ((xs b).length ≤ sizeLine)).bind fun _ => compR (compF c bn me v st) (xs b) [] (s0 b)) (fun p => .own 0 (oL en p.1)) (fun p => ρS p.2) σ H Q) :
    tLc (tJI K B ρ m (fun b => (xs b).map ea) ρ1) (fun w σ H Q => ∃ B' x s, B'.rs = B.rs ∧ tJN K B' (blot 0 vs (ρS s)) (ea x) ts (ρB x s) w σ H Q) (fun σ H Q => ∃ B' x s, B'.rs = B.rs ∧ tJT K B' (ρB x s) (c x s) bn (fun _ => ρB x s) σ H Q)
      (fun σ H Q => ∃ B' x s, B'.rs = B.rs ∧ tJ K B' (ρB x s) (me x s) (fun y => .val (en (v y))) (fun y => ρB x (st y)) σ H Q) vs σ H Q := by
  obtain ⟨G, E, q⟩ := q
  refine ⟨G, E, R.post_mono (R.post_bind.mp q) fun b q1 J G' H' xG E' Y p hp => ?_⟩
  obtain ⟨hsz, q2⟩ := R.post_guard (R.post_bind.mp q1)
  have hlen : ((xs b).map ea).length = (xs b).length := List.length_map _
  obtain ⟨hMo, hH0⟩ := E'.noMo hp
  have hG0 : B.G0 p = none := (E'.anc.gsub.trans E'.sub).back hp
  let W : Nat → Hp → Prop := fun i H1 => ∃ G1 s acc, Ex G' G1 ∧ En K B G1 H1 σ (ρS s) [(.ref p, .own 0 (oL en acc))] ∧ acc.length ≤ i ∧
    (compR (compF c bn me v st) ((xs b).drop i) acc s).post (fun r => ∀ w G2 H2, Ex G1 G2 → En K B G2 H2 σ (ρS r.2) [(w, .own 0 (oL en r.1))] → Q w H2) B.rs
  refine ⟨fun i mm H1 => mm = (xs b).length - i ∧ i ≤ (xs b).length ∧ W i H1, ⟨_, rfl, Nat.zero_le _, G', s0 b, [], Ex.refl _, ?_, Nat.le_refl _, R.post_mono q2 fun r h w G2 H2 x2 E2 => h w G2 H2 (xG.trans x2) E2⟩, ?_⟩
  · rw [hw b] at E'
    exact E'.newL (ds := []) hp .nil
  · rintro i mm H1 ⟨rfl, hi1, G1, s, acc, x1, E1, hacc, q3⟩
    by_cases hlt : i < (xs b).length
    · refine .inr ⟨Y.go i H1 (by rw [hlen]; exact hlt) (x1.trans E1.sub), fun H' => W (i + 1) H', fun H' w => ⟨_, ?_, rfl, hlt, w⟩, fun w H2 hy => ?_⟩
      · omega
      · obtain ⟨us, hus, rus, Eh⟩ := E1.hideIn hMo hH0
        have hd : ((xs b).map ea)[i]? = some (ea (xs b)[i]) := by rw [List.getElem?_map, List.getElem?_eq_getElem hlt]; rfl
        obtain ⟨G2, x2, E2, r2⟩ := Y.yld _ i G1 H1 σ (ρS s) w H2 x1 Eh hy _ hd
        rw [List.drop_eq_getElem_cons hlt, compR] at q3
        generalize hx : (xs b)[i] = x at q3 r2
        have Eb : En K _ G2 H2 (wipe σ vs) (blot 0 vs (ρS s)) [] := E2.inB vs (hpl s) (hna s) (wipe_length σ vs) fun j hj => wipe_out hj
        refine ⟨B.hide p (.lst us), x, s, rfl, G2, Eb, r2, fun σ2 h2 l2 E3 => ?_⟩
        have l2' : σ2.length = σ.length := l2.trans (wipe_length σ vs)
        have k2 : ∀ j, j ∉ vs → σ2[j]? = σ[j]? := fun j hj => by
          rw [h2 j fun z => hj (hts j z), wipe_out hj]
        refine ⟨wipe_eq l2' k2, B.hide p (.lst us), x, s, rfl, G2, E3, ?_⟩
        unfold compF at q3
        have q4 := R.post_bind.mp (R.post_bind.mp q3)
        refine R.post_mono q4 fun d q5 G3 H3 x3 E3' => ?_
        cases hbn : bn d with
        | false =>
          rw [if_neg (by decide)]
          rw [hbn, if_neg (by decide)] at q5
          have Eo := E2.outB E3' x3 vs (hpl s) (hplB x s) (hna s) (hnaB x s) k2 l2'
          rw [hun x s s] at Eo
          have x13 := x2.trans x3
          obtain ⟨g1, g2, g3⟩ := Eo.hideOut hMo hH0 hG0 (RpAll.ex x13 rus) (hna s)
          have Ef := g3 us (acc.map en) (RpAll.ex x13 rus)
          rw [upd_id g1] at Ef
          exact ⟨G3, s, acc, x1.trans x13, Ef, by omega, R.post_mono q5 fun r h w G4 H4 x4 E4 => h w G4 H4 (x13.trans x4) E4⟩
        | true =>
          rw [if_pos rfl]
          rw [hbn, if_pos rfl] at q5
          refine ⟨B.hide p (.lst us), x, s, rfl, G3, E3', R.post_mono (R.post_bind.mp q5) fun y q6 w2 G4 H4 x4 E4 => ?_⟩
          have Eo := E2.outB E4.pop (x3.trans x4) vs (hpl s) (hplB x _) (hna s) (hnaB x _) k2 l2'
          rw [hun x s (st y)] at Eo
          have x14 := x2.trans (x3.trans x4)
          obtain ⟨g1, g2, g3⟩ := Eo.hideOut hMo hH0 hG0 (RpAll.ex x14 rus) (hna _)
          have Ef := g3 (us ++ [w2]) (acc.map en ++ [en (v y)]) ((RpAll.ex x14 rus).append (.cons E4.top .nil))
          have hl : us.length = acc.length := by rw [rus.len, List.length_map]
          refine ⟨us, g1, by omega, G4, st y, acc ++ [v y], x1.trans x14, ?_, by rw [List.length_append]; simp; omega, R.post_mono q6 fun r h w G5 H5 x5 E5 => h w G5 H5 (x14.trans x5) E5⟩
          show En K B G4 _ σ _ [(_, .own 0 (.lst (((acc ++ [v y]).map en).map OT.dat)))]
          rw [List.map_append (f := en)]
          exact Ef
    · refine .inl ⟨Y.stop i H1 (by rw [hlen]; omega) (x1.trans E1.sub), ?_⟩
      rw [List.drop_eq_nil_of_le (by omega)] at q3
      exact q3 _ G1 H1 (Ex.refl _) E1
theorem je_lc {α S γ δ ε β0 : Type} {ifs : List Expr} {sc : Scope} {m : R β0} {xs : β0 → List α} {ea : α → D} {ρ1 : β0 → List Slot} (own : List (Str × Nat)) {ts : List Nat} (en : γ → D) (ρS : S → List Slot) (s0 : β0 → S) (ρB : α → S → List Slot) {c : α → S → R δ} {bn : δ → Bool} {me : α → S → R ε} (v : ε → γ) (st : ε → S)
    (hc : X.calm = true) (hN : X.N.Nodup) (hi : JI X B ρ tg it m (fun b => (xs b).map ea) ρ1) (ok : BlkOk X.N X.env.scope sc own) (hw : ∀ b, ρ1 b = ρS (s0 b))
    (hg : Blk X sc fun X' => ∀ B' : Base, B'.rs = B.rs → ∀ x s, JN X' B' (blot 0 (own.map (·.2)) (ρS s)) tg (ea x) ts (ρB x s))
    (ht : Blk X sc fun X' => ∀ B' : Base, B'.rs = B.rs → ∀ x s, JTs X' B' (ρB x s) ifs (c x s) bn)
    (he : Blk X sc fun X' => ∀ B' : Base, B'.rs = B.rs → ∀ x s, JE X' B' (ρB x s) elt (me x s) (fun y => .val (en (v y))) (fun y => ρB x (st y)))
    (hpl : ∀ s, plainAt 0 (own.map (·.2)) (ρS s) = true := by intro _; rfl) (hna : ∀ s, noAlis (ρS s) = true := by intro _; rfl) (hts : ∀ i ∈ ts, i ∈ own.map (·.2) := by decide) (hplB : ∀ x s, plainAt 0 (own.map (·.2)) (ρB x s) = true := by intro _ _; rfl)
    (hnaB : ∀ x s, noAlis (ρB x s) = true := by intro _ _; rfl) (hun : ∀ x s s', unblot 0 (own.map (·.2)) (ρS s) (ρB x s') = ρS s' := by intro _ _ _; rfl) (hs : ∀ x, foldedSetIterable it X.env x = pure x := by intro _; rfl) :
    JE X B ρ (.ListComp elt [⟨tg, it, ifs, 0⟩] sc pos) (m.bind fun b => (R.guard ((xs b).length ≤ sizeLine)).bind fun _ => compR (compF c bn me v st) (xs b) [] (s0 b)) (fun p => .own 0 (oL en p.1)) (fun p => ρS p.2) := by
  refine PE_imp (pe_lc (own := own) hc hN hi ok (fun s H C cl fp => ?_) (fun s H C cl fp => ?_) (fun s H C cl fp => ?_) hs) fun σ H Q q => tlc_of (ts := ts) (ρB := ρB) (c := c) (bn := bn) (me := me) (v := v) (st := st) hw hpl hna hts hplB hnaB hun q
  · exact ⟨fun pins s σ H v u Q I r ⟨B', x, s', h, q⟩ => (hg _ _ _ _ _ B' h x s').run pins s σ H v u Q I r q⟩
  · exact ⟨fun pins s σ H Q I ⟨B', x, s', h, q⟩ => (ht _ _ _ _ _ B' h x s').run pins s σ H Q I q⟩
  · exact ⟨fun pins s σ H Q I ⟨B', x, s', h, q⟩ => (he _ _ _ _ _ B' h x s').run pins s σ H Q I q⟩
end
end DL
namespace DL
open PySem PySem.Spec L2
theorem compR_pure {α S γ : Type} (t : α → Bool) (f : α → γ) : ∀ (xs : List α) (acc : List γ) (s : S), compR (compF (fun x (_ : S) => R.ok (t x)) (fun b => b) (fun x s => R.ok (f x, s)) Prod.fst Prod.snd) xs acc s = .ok (acc ++ (xs.filter t).map f, s)
  | [], acc, s => by rw [compR, List.filter_nil, List.map_nil, List.append_nil]
  | x :: xs, acc, s => by
    have e : compF (fun x (_ : S) => R.ok (t x)) (fun b => b) (fun x s => R.ok (f x, s)) Prod.fst Prod.snd x s = .ok (if t x = true then (some (f x), s) else (none, s)) := by
      cases h : t x <;> simp [compF, R.bind, h]
    rw [compR, e]
    cases h : t x with
    | true =>
      rw [if_pos rfl, List.filter_cons_of_pos h, List.map_cons]
      have := compR_pure t f xs (acc ++ [f x]) s
      rw [List.append_assoc] at this
      exact this
    | false =>
      rw [if_neg (by decide), List.filter_cons_of_neg (by rw [h]; decide)]
      exact compR_pure t f xs acc s
section
variable {X : Cx} {B : Base} {ρ : List Slot} {pos : Pos} {e a b tg it elt : Expr} {es : List Expr}
theorem je_mapS {α β S : Type} {m : R β} {en : α → D} {v : β → α} {st : β → S} {ρ' : S → List Slot} (h : JE X B ρ e m (fun b => .val (en (v b))) (fun b => ρ' (st b))) : JE X B ρ e (m.bind fun b => .ok (v b, st b)) (fun p => .val (en p.1)) (fun p => ρ' p.2) :=
  PE_imp h fun σ H Q ⟨G, E, q⟩ => ⟨G, E, R.post_mono (R.post_bind.mp q) fun b k => k⟩
theorem je_lcP {α γ β0 : Type} {ifs : List Expr} {sc : Scope} {m : R β0} {xs : β0 → List α} {ea : α → D} (own : List (Str × Nat)) {ts : List Nat} (en : γ → D) (ρB : α → List Slot) (t : α → Bool) (f : α → γ)
    (hc : X.calm = true) (hN : X.N.Nodup) (hi : JI X B ρ tg it m (fun b => (xs b).map ea) (fun _ => ρ)) (ok : BlkOk X.N X.env.scope sc own)
    (hg : Blk X sc fun X' => ∀ B' : Base, B'.rs = B.rs → ∀ x, JN X' B' (blot 0 (own.map (·.2)) ρ) tg (ea x) ts (ρB x))
    (ht : Blk X sc fun X' => ∀ B' : Base, B'.rs = B.rs → ∀ x, JTs X' B' (ρB x) ifs (.ok (t x)) (fun b => b))
    (he : Blk X sc fun X' => ∀ B' : Base, B'.rs = B.rs → ∀ x, JP X' B' (ρB x) elt (en (f x)))
    (hpl : plainAt 0 (own.map (·.2)) ρ = true := by rfl) (hna : noAlis ρ = true := by rfl) (hts : ∀ i ∈ ts, i ∈ own.map (·.2) := by decide) (hplB : ∀ x, plainAt 0 (own.map (·.2)) (ρB x) = true := by intro _; rfl)
    (hnaB : ∀ x, noAlis (ρB x) = true := by intro _; rfl) (hun : ∀ x, unblot 0 (own.map (·.2)) ρ (ρB x) = ρ := by intro _; rfl) (hs : ∀ x, foldedSetIterable it X.env x = pure x := by intro _; rfl) :
    JE X B ρ (.ListComp elt [⟨tg, it, ifs, 0⟩] sc pos) (m.bind fun b => (R.guard ((xs b).length ≤ sizeLine)).bind fun _ => .ok b) (fun b => .own 0 (oL en (((xs b).filter t).map f))) (fun _ => ρ) := by
  have h := je_lc (X := X) (B := B) (ρ := ρ) (pos := pos) (S := Unit) (xs := xs) (ea := ea) (ts := ts) own en (fun _ => ρ) (fun _ => ()) (fun x _ => ρB x) (c := fun x _ => R.ok (t x)) (bn := fun b => b) (me := fun x s => R.ok (f x, s)) Prod.fst Prod.snd hc hN hi ok (fun _ => rfl)
    (fun s H C cl fp B' h x _ => hg s H C cl fp B' h x) (fun s H C cl fp B' h x _ => ht s H C cl fp B' h x) (fun s H C cl fp B' h x _ => he s H C cl fp B' h x) (fun _ => hpl) (fun _ => hna) hts (fun x _ => hplB x) (fun x _ => hnaB x) (fun x _ _ => hun x) hs
  refine PE_imp h fun σ H Q ⟨G, E, q⟩ => ⟨G, E, ?_⟩
  refine R.post_bind.mpr (R.post_mono (R.post_bind.mp q) fun b q1 => R.post_bind.mpr (R.post_mono (R.post_bind.mp q1) fun u q2 => ?_))
  rw [compR_pure]
  rw [List.nil_append]
  exact q2
variable {rest : List Expr}
end
def toPy : D → PyData
  | .none => .none
  | .bool b => .bool b
  | .int i => .int i
  | .str s => .str s
  | .list xs => .list (toPys xs)
  | .tuple xs => .tuple (toPys xs)
  | .row xs => .tuple (toPys xs)
  | .dict _ => .dict []
  | .scr ns => .list (ns.map PyData.int)
  | .key ns => .tuple (ns.map PyData.int)
  | .exn _ _ _ => .dict []
  | .ddk _ => .dict []
where toPys : List D → List PyData
  | [] => []
  | x :: xs => toPy x :: toPys xs
theorem dp_ints {K : PySem.W.Frag} {G : Hp} : ∀ ns : List Int, DpAll K G (ns.map V.int) (ns.map PyData.int)
  | [] => .nil
  | n :: ns => .cons (.int n) (dp_ints ns)
mutual
theorem Rp.dp {K : PySem.W.Frag} {G H : Hp} (e : Ex G H) : ∀ {v : V} {d : D}, Rp K G v d → (toPy d).canLay0 = true → Dp K H v (toPy d)
  | _, _, .non, _ => by
    rw [toPy]
    exact .non
  | _, _, .bl b, _ => by
    rw [toPy]
    exact .bl b
  | _, _, .int i, _ => by
    rw [toPy]
    exact .int i
  | _, _, .str x, _ => by
    rw [toPy]
    exact .str x
  | _, _, .lst h r, c => by
    rw [toPy] at c ⊢
    exact .lst (.inl (e.rd h)) (RpAll.dp e r (by simpa [PyData.canLay0] using c))
  | _, _, .tup h r, c => by
    rw [toPy] at c ⊢
    exact .tup (e.t h) (RpAll.dp e r (by simpa [PyData.canLay0] using c))
  | _, _, .row h d r, c => by
    rw [toPy] at c ⊢
    exact .tup (.inl (.inr ⟨_, e _ _ h⟩)) (RpAll.dp e r (by simpa [PyData.canLay0] using c))
  | _, _, .scr h, _ => by
    rw [toPy]
    exact .lst (e.l h) (dp_ints _)
  | _, _, .key h, _ => by
    rw [toPy]
    exact .tup (.inl (.inl (e _ _ h))) (dp_ints _)
  | _, _, .dK _ _, c => by
    rw [toPy] at c
    simp [PyData.canLay0] at c
  | _, _, .dT _ _, c => by
    rw [toPy] at c
    simp [PyData.canLay0] at c
  | _, _, .ddk _ _, c => by
    rw [toPy] at c
    simp [PyData.canLay0] at c
  | _, _, .ddt _ _, c => by
    rw [toPy] at c
    simp [PyData.canLay0] at c
  | _, _, .exn0 _ _, c => by
    rw [toPy] at c
    simp [PyData.canLay0] at c
  | _, _, .exn1 _ _ _ _, c => by
    rw [toPy] at c
    simp [PyData.canLay0] at c
  | _, _, .any _, c => by
    rw [toPy] at c
    simp [PyData.canLay0] at c
theorem RpAll.dp {K : PySem.W.Frag} {G H : Hp} (e : Ex G H) : ∀ {v : List V} {d : List D}, RpAll K G v d → PyData.canLayAll0 (toPy.toPys d) = true → DpAll K H v (toPy.toPys d)
  | _, _, .nil, _ => by
    rw [toPy.toPys]
    exact .nil
  | _, _, .cons h r, c => by
    rw [toPy.toPys] at c ⊢
    rw [PyData.canLayAll0, Bool.and_eq_true] at c
    exact .cons (Rp.dp e h c.1) (RpAll.dp e r c.2)
end
structure EqE {α : Type} [DecidableEq α] (n : Nat) (f : α → D) : Prop where
  lay : ∀ x, (toPy (f x)).canLay0 = true
  dep : ∀ x, (toPy (f x)).depth ≤ n
  eqv : ∀ x y, PyData.eqv (toPy (f x)) (toPy (f y)) = decide (x = y)
theorem EqE.shaped {α : Type} [DecidableEq α] {n : Nat} {f : α → D} (h : EqE n f) (hn : n ≤ 64) (x : α) : SeqAt.shaped (toPy (f x)) = true := by
  unfold SeqAt.shaped
  rw [h.lay x, Bool.true_and]
  exact decide_eq_true (Nat.le_trans (h.dep x) hn)
theorem ee_int : EqE 0 D.int := ⟨fun _ => by simp [toPy, PyData.canLay0], fun _ => by simp [toPy, PyData.depth], fun x y => by
  simp only [toPy, PyData.eqv]
  exact Bool.beq_eq_decide_eq ..⟩
theorem ee_p2 {α β : Type} [DecidableEq α] [DecidableEq β] {n : Nat} {f : α → D} {g : β → D} (hf : EqE n f) (hg : EqE n g) : EqE (n + 1) (eP2 f g) := by
  refine ⟨fun x => ?_, fun x => ?_, fun x y => ?_⟩
  · simp [toPy, toPy.toPys, PyData.canLay0, PyData.canLayAll0, hf.lay, hg.lay]
  · have h1 := hf.dep x.1
    have h2 := hg.dep x.2
    simp [toPy, toPy.toPys, PyData.depth, PyData.depthAll]
    omega
  · obtain ⟨a, b⟩ := x
    obtain ⟨c, d⟩ := y
    simp only [toPy, toPy.toPys, PyData.eqv, PyData.eqvAll, hf.eqv, hg.eqv, Bool.and_true]
    rw [← Bool.decide_and]
    exact decide_eq_decide.mpr ⟨fun h => by rw [h.1, h.2], fun h => by
      injection h with h1 h2
      exact ⟨h1, h2⟩⟩
section
variable {α : Type} [DecidableEq α] {n : Nat} {f : α → D}
theorem ee_lay (h : EqE n f) : ∀ l : List α, PyData.canLayAll0 (toPy.toPys (l.map f)) = true
  | [] => by simp [toPy.toPys, PyData.canLayAll0]
  | x :: l => by
    rw [List.map_cons, toPy.toPys, PyData.canLayAll0, h.lay, ee_lay h l]
    rfl
theorem ee_dep (h : EqE n f) : ∀ l : List α, PyData.depthAll (toPy.toPys (l.map f)) ≤ n
  | [] => by simp [toPy.toPys, PyData.depthAll]
  | x :: l => by
    have h1 := h.dep x
    have h2 := ee_dep h l
    rw [List.map_cons, toPy.toPys, PyData.depthAll]
    omega
theorem ee_eqv (h : EqE n f) : ∀ l m : List α, PyData.eqvAll (toPy.toPys (l.map f)) (toPy.toPys (m.map f)) = decide (l = m)
  | [], [] => by simp [toPy.toPys, PyData.eqvAll]
  | [], _ :: _ => by simp [toPy.toPys, PyData.eqvAll]
  | _ :: _, [] => by simp [toPy.toPys, PyData.eqvAll]
  | x :: l, y :: m => by
    rw [List.map_cons, List.map_cons, toPy.toPys, toPy.toPys, PyData.eqvAll, h.eqv, ee_eqv h l m, ← Bool.decide_and]
    exact decide_eq_decide.mpr ⟨fun h => by rw [h.1, h.2], fun h => by
      injection h with h1 h2
      exact ⟨h1, h2⟩⟩
theorem ee_T (h : EqE n f) : EqE (n + 1) (eT f) := ⟨fun l => by
  rw [toPy, PyData.canLay0]
  exact ee_lay h l, fun l => by
  rw [toPy, PyData.depth]
  exact Nat.succ_le_succ (ee_dep h l), fun l m => by
  rw [toPy, toPy, PyData.eqv]
  exact ee_eqv h l m⟩
theorem ee_L (h : EqE n f) : EqE (n + 1) (eL f) := ⟨fun l => by
  rw [toPy, PyData.canLay0]
  exact ee_lay h l, fun l => by
  rw [toPy, PyData.depth]
  exact Nat.succ_le_succ (ee_dep h l), fun l m => by
  rw [toPy, toPy, PyData.eqv]
  exact ee_eqv h l m⟩
variable {K : PySem.W.Frag} {B : Base}
theorem od_neD (h : EqE n f) (hn : n ≤ 64 := by decide) {x y : α} : OpD K B (rNeD K) (f x) (f y) (.ok ()) (fun _ => .val (.bool (!decide (x = y)))) :=
  od_val0 (w := .bl (!decide (x = y))) (fun G H vx vy Q e hx hy q => ⟨_, _, hx.dp e (h.lay x), hy.dp e (h.lay y), h.shaped hn x, h.shaped hn y, by rw [h.eqv]; exact q⟩) fun _ => .bl _
theorem any_eqv (h : EqE n f) (x : α) : ∀ l : List α, ((toPy.toPys (l.map f)).any fun z => PyData.eqv z (toPy (f x))) = decide (x ∈ l)
  | [] => by simp [toPy.toPys]
  | y :: l => by
    rw [List.map_cons, toPy.toPys, List.any_cons, h.eqv, any_eqv h x l, ← Bool.decide_or]
    exact decide_eq_decide.mpr ⟨fun h => by
      rcases h with h | h
      · rw [h]
        exact List.mem_cons_self
      · exact List.mem_cons_of_mem _ h, fun h => by
      rcases List.mem_cons.mp h with h | h
      · exact .inl h.symm
      · exact .inr h⟩
theorem od_inD (h : EqE n f) (hn : n + 1 ≤ 64 := by decide) {x : α} {l : List α} : OpD K B (rInD K) (f x) (eL f l) (.ok ()) (fun _ => .val (.bool (decide (x ∈ l)))) :=
  od_val0 (w := .bl (decide (x ∈ l))) (fun G H vx vy Q e hx hy q => by
    have hL := ee_L h
    have d2 := hy.dp e (hL.lay l)
    have s2 := hL.shaped hn l
    rw [toPy] at d2 s2
    exact ⟨_, _, hx.dp e (h.lay x), d2, h.shaped (by omega) x, s2, by rw [any_eqv h]; exact q⟩) fun _ => .bl _
end
section
variable {K : PySem.W.Frag} {B : Base} {ρ : List Slot}
def maxL (ns : List Int) : Int := ns.foldl max (ns.headD 0)
def minL (ns : List Int) : Int := ns.foldl min (ns.headD 0)
theorem foldl_max (ns : List Int) : ∀ a : Int, a ≤ ns.foldl max a ∧ (∀ y ∈ ns, y ≤ ns.foldl max a) ∧ (ns.foldl max a = a ∨ ns.foldl max a ∈ ns) := by
  induction ns with
  | nil => exact fun a => ⟨Int.le_refl _, (fun _ m => nomatch m), .inl rfl⟩
  | cons x r ih =>
    intro a
    obtain ⟨h1, h2, h3⟩ := ih (max a x)
    rw [List.foldl_cons]
    refine ⟨by omega, fun y m => ?_, ?_⟩
    · rcases List.mem_cons.mp m with rfl | m
      · omega
      · exact h2 y m
    · rcases h3 with h | h
      · rw [h]
        rcases Int.le_total a x with l | l
        · right
          rw [show max a x = x by omega]
          exact List.mem_cons_self
        · left
          omega
      · exact .inr (List.mem_cons_of_mem _ h)
theorem foldl_min (ns : List Int) : ∀ a : Int, ns.foldl min a ≤ a ∧ (∀ y ∈ ns, ns.foldl min a ≤ y) ∧ (ns.foldl min a = a ∨ ns.foldl min a ∈ ns) := by
  induction ns with
  | nil => exact fun a => ⟨Int.le_refl _, (fun _ m => nomatch m), .inl rfl⟩
  | cons x r ih =>
    intro a
    obtain ⟨h1, h2, h3⟩ := ih (min a x)
    rw [List.foldl_cons]
    refine ⟨by omega, fun y m => ?_, ?_⟩
    · rcases List.mem_cons.mp m with rfl | m
      · omega
      · exact h2 y m
    · rcases h3 with h | h
      · rw [h]
        rcases Int.le_total a x with l | l
        · left
          omega
        · right
          rw [show min a x = x by omega]
          exact List.mem_cons_self
      · exact .inr (List.mem_cons_of_mem _ h)
theorem maxL_is {ns : List Int} (h : ns ≠ []) : maxL ns ∈ ns ∧ ∀ y ∈ ns, y ≤ maxL ns := by
  cases ns with
  | nil => exact absurd rfl h
  | cons a r =>
    obtain ⟨h1, h2, h3⟩ := foldl_max r (max a a)
    show List.foldl max (max a a) r ∈ _ ∧ _
    refine ⟨?_, fun y m => ?_⟩
    · rcases h3 with h | h
      · rw [h, show max a a = a by omega]
        exact List.mem_cons_self
      · exact List.mem_cons_of_mem _ h
    · show y ≤ List.foldl max (max a a) r
      rcases List.mem_cons.mp m with rfl | m
      · omega
      · exact h2 y m
theorem minL_is {ns : List Int} (h : ns ≠ []) : minL ns ∈ ns ∧ ∀ y ∈ ns, minL ns ≤ y := by
  cases ns with
  | nil => exact absurd rfl h
  | cons a r =>
    obtain ⟨h1, h2, h3⟩ := foldl_min r (min a a)
    show List.foldl min (min a a) r ∈ _ ∧ _
    refine ⟨?_, fun y m => ?_⟩
    · rcases h3 with h | h
      · rw [h, show min a a = a by omega]
        exact List.mem_cons_self
      · exact List.mem_cons_of_mem _ h
    · show List.foldl min (min a a) r ≤ y
      rcases List.mem_cons.mp m with rfl | m
      · omega
      · exact h2 y m
theorem cb_maxL {ns : List Int} : CbD K B ρ (rMax K) [.val (eL D.int ns)] (R.guard (ns ≠ [])) (fun _ => .val (.int (maxL ns))) :=
  cb_val (w := .int (maxL ns)) (fun hc G H σ vs Q e ok q => by
    obtain ⟨v, rfl, r⟩ := ok.one
    obtain ⟨a, xs, rfl, hS, hr⟩ := r.lst_inv
    have hx := hr.ints
    subst hx
    refine ⟨a, ns, rfl, .inl (e.rd hS), List.length_pos_iff.mpr hc, fun m hm hle => ?_⟩
    obtain ⟨h1, h2⟩ := maxL_is hc
    rw [show m = maxL ns from Int.le_antisymm (h2 m hm) (hle _ h1)]
    exact q) fun _ => .int _
theorem cb_minL {ns : List Int} : CbD K B ρ (rMin K) [.val (eL D.int ns)] (R.guard (ns ≠ [])) (fun _ => .val (.int (minL ns))) :=
  cb_val (w := .int (minL ns)) (fun hc G H σ vs Q e ok q => by
    obtain ⟨v, rfl, r⟩ := ok.one
    obtain ⟨a, xs, rfl, hS, hr⟩ := r.lst_inv
    have hx := hr.ints
    subst hx
    refine ⟨a, ns, rfl, .inl (e.rd hS), List.length_pos_iff.mpr hc, fun m hm hle => ?_⟩
    obtain ⟨h1, h2⟩ := minL_is hc
    rw [show m = minL ns from Int.le_antisymm (hle _ h1) (h2 m hm)]
    exact q) fun _ => .int _
end
section
variable {X : Cx} {B : Base} {ρ : List Slot} {pos : Pos} {e : Expr}
theorem je_app (i : Nat) {x : Str} {px ap : Pos} {l l0 : Nat} {os0 : List OT} {α β : Type} {f : α → D} (xs : β → List α) {m : R β} {y : β → α} {ρ' : β → List Slot} (he : JE X B ρ e m (fun b => .val (f (y b))) ρ') (h : ∀ b, (ρ' b)[i]? = some (.own l (oL f (xs b))) := by intro _; rfl) (hal : ∀ b, noAlis (ρ' b) = true := by intro _; rfl)
    (h0 : ρ[i]? = some (.own l0 (.lst os0)) := by rfl) (hN : X.N[i]? = some x := by rfl) (hv : Vis X.env.scope x := by first | exact Or.inl rfl | exact Or.inr (Or.inl rfl) | exact Or.inr (Or.inr rfl))
    (hd : (x == ("__debug__" : Str)) = false := by decide) (hcd : (x == ("__classdict__" : Str)) = false := by decide) (hst : starEach [e] X.env = (false, eval e X.env) :: starEach [] X.env := by rfl)
    (hbase : attributeBase (.Name x px) "append" X.env (eval (.Name x px) X.env) = eval (.Name x px) X.env := by rfl)
    (hone : ((backTo pos (starEach [e] X.env)).all (fun x => !x.1) && (backToKw pos (keywordEach [] X.env)).all (fun x => x.1.isSome) && decide ([e].length + ([] : List Keyword).length + (if ([] : List Keyword).isEmpty then 0 else 1) < 30)) = true := by rfl)
    (hline : (ap.endLine == pos.line) = true := by rfl) (hnil : (backTo pos (starEach [] X.env)).any (·.1) = false := by rfl) :
    JE X B ρ (.Call (.Attribute (.Name x px) "append" ap) [e] [] pos) (m.bind fun b => (R.guard ((xs b).length < sizeLine)).bind fun _ => .ok b) (fun _ => .val .none) (fun b => (ρ' b).set i (.own l (oL f (xs b ++ [y b])))) :=
  PE_imp (pe_bm PySem.F.plainAttrs_list PySem.F.slot_list_append PySem.F.type_list_append mt_append (pv (X := X) (pos := px) i hN hv hd hcd) (pa_cons he pa_nil hst) hbase hone hline hst hnil) fun σ H Q ⟨G, E, q⟩ => by
    obtain ⟨A, c, n, g⟩ := E.own
    obtain ⟨w, A1, A2, e1, hO, hl, c2, pm⟩ := Cells.take1 (show Cells X.K B G H σ ρ A from c) h0
    cases hO with
    | @lst a vs _ A3 ha hall =>
      refine ⟨.ref a, e1, .inl ⟨rfl, _, .inl (.inl ha)⟩, G, E, R.post_mono (R.post_bind.mp q) (fun b hb => ?_)⟩
      intro v G1 H1 x1 E1
      obtain ⟨p, vs1, g1, g2, g3, g4⟩ := E1.pop.ownD (h b) (hal b)
      have ep : p = a := by
        have z := g1.symm.trans e1
        injection z with z
        injection z with z
        injection z
      subst ep
      have hlen : vs1.length = (xs b).length := by
        rw [g3.len, List.length_map]
      obtain ⟨hz, q⟩ := R.post_guard (R.post_bind.mp hb)
      refine ⟨p, vs1, v, rfl, rfl, g2, by omega, q _ G1 _ x1 ?_⟩
      have hr : RpAll X.K G1 (vs1 ++ [v]) ((xs b).map f ++ [f (y b)]) := g3.append (.cons (E1.top) .nil)
      have z := g4 G1 H1 [] (vs1 ++ [v]) ((xs b).map f ++ [f (y b)]) E1.pop (Ex.refl _) g2 hr
      have ez : (oL f (xs b ++ [y b])) = .lst (((xs b).map f ++ [f (y b)]).map OT.dat) := by rw [oL, List.map_append]; rfl
      show En X.K B G1 (upd H1 p (.lst (vs1 ++ [v]))) σ ((ρ' b).set i (.own l (oL f (xs b ++ [y b])))) [(.non, .val .none)]
      rw [ez]
      exact z.push .non
end
end DL
namespace DL
open PySem PySem.Spec L2
mutual
def Flat : D → Prop
  | .none => True
  | .bool _ => True
  | .int _ => True
  | .str _ => True
  | .tuple ds => FlatL ds
  | .row ds => FlatL ds
  | .key _ => True
  | _ => False
def FlatL : List D → Prop
  | [] => True
  | d :: ds => Flat d ∧ FlatL ds
end
mutual
def FlatO : OT → Prop
  | .dat d => Flat d
  | .lst os => FlatOL os
  | .dk kvs => ∀ p ∈ kvs, Flat p.2
  | .dt kvs => ∀ p ∈ kvs, Flat p.2
  | .tp os => FlatOL os
  | .dko _ os => FlatOL os
  | .obj _ _ os => FlatOL os
def FlatOL : List OT → Prop
  | [] => True
  | o :: os => FlatO o ∧ FlatOL os
end
theorem fl_lst {ds : List OT} (h : FlatOL ds) : FlatO (.lst ds) := by
  rw [FlatO]
  exact h
theorem fl_nil : FlatL [] := by
  rw [FlatL]
  trivial
theorem fl_cons {d : D} {ds : List D} (h : Flat d) (r : FlatL ds) : FlatL (d :: ds) := by
  rw [FlatL]
  exact ⟨h, r⟩
theorem fl_int (i : Int) : Flat (.int i) := by
  rw [Flat]
  trivial
theorem fl_str (i : Str) : Flat (.str i) := by
  rw [Flat]
  trivial
theorem FlatL.of {α : Type} {f : α → D} (h : ∀ x, Flat (f x)) : ∀ xs : List α, FlatL (xs.map f)
  | [] => fl_nil
  | x :: xs => fl_cons (h x) (FlatL.of h xs)
theorem FlatOL.of {α : Type} {f : α → D} (h : ∀ x, Flat (f x)) : ∀ xs : List α, FlatOL ((xs.map f).map OT.dat)
  | [] => by
    rw [List.map_nil, List.map_nil, FlatOL]
    trivial
  | x :: xs => by
    rw [List.map_cons, List.map_cons, FlatOL, FlatO]
    exact ⟨h x, FlatOL.of h xs⟩
theorem fl_oL {α : Type} {f : α → D} (h : ∀ x, Flat (f x)) (xs : List α) : FlatO (oL f xs) := fl_lst (FlatOL.of h xs)
def mutO : HO → Bool
  | .lst _ => true
  | .dK _ => true
  | .dT _ => true
  | .ins _ _ _ => true
  | .own _ => true
  | _ => false
section
variable {K : PySem.W.Frag} {G1 G2 H1 : Hp} {A : List Addr}
theorem SqT.less (k : ∀ a u, G1 a = some u → mutO u = false → G2 a = some u) {a : Addr} {xs : List V} (h : SqT K G1 a xs) : SqT K G2 a xs := by
  rcases h with h | h
  · rcases h with h | ⟨o, h⟩
    · exact .inl (.inl (k _ _ h rfl))
    · exact .inl (.inr ⟨o, k _ _ h rfl⟩)
  · exact .inr h
mutual
theorem Rp.less (k : ∀ a u, G1 a = some u → mutO u = false → G2 a = some u) : ∀ {v : V} {d : D}, Rp K G1 v d → Flat d → Rp K G2 v d
  | _, _, .non, _ => .non
  | _, _, .bl b, _ => .bl b
  | _, _, .int i, _ => .int i
  | _, _, .str x, _ => .str x
  | _, _, .tup h r, f => .tup (SqT.less k h) (RpAll.less k r (by rw [Flat] at f; exact f))
  | _, _, .row h d r, f => .row (k _ _ h rfl) d (RpAll.less k r (by rw [Flat] at f; exact f))
  | _, _, .key h, _ => .key (k _ _ h rfl)
  | _, _, .lst h r, f => by
    rw [Flat] at f <;> first | exact f.elim | (intros; exact D.noConfusion)
  | _, _, .scr h, f => by
    rw [Flat] at f <;> first | exact f.elim | (intros; exact D.noConfusion)
  | _, _, .dK h r, f => by
    rw [Flat] at f <;> first | exact f.elim | (intros; exact D.noConfusion)
  | _, _, .dT h r, f => by
    rw [Flat] at f <;> first | exact f.elim | (intros; exact D.noConfusion)
  | _, _, .ddk h r, f => by
    rw [Flat] at f <;> first | exact f.elim | (intros; exact D.noConfusion)
  | _, _, .ddt h r, f => by
    rw [Flat] at f <;> first | exact f.elim | (intros; exact D.noConfusion)
  | _, _, .any z, _ => .any z
theorem RpAll.less (k : ∀ a u, G1 a = some u → mutO u = false → G2 a = some u) : ∀ {v : List V} {d : List D}, RpAll K G1 v d → FlatL d → RpAll K G2 v d
  | _, _, .nil, _ => .nil
  | _, _, .cons h r, f => .cons (Rp.less k h (by rw [FlatL] at f; exact f.1)) (RpAll.less k r (by rw [FlatL] at f; exact f.2))
end
theorem RpE.less {κ : Type} (k : ∀ a u, G1 a = some u → mutO u = false → G2 a = some u) {kvs : List (κ × V)} {ds : List (κ × D)} (h : RpE K G1 kvs ds) : (∀ p ∈ ds, Flat p.2) → RpE K G2 kvs ds := by
  induction h with
  | nil => exact fun _ => .nil
  | cons h _ ih => exact fun f => .cons (h.less k (f _ List.mem_cons_self)) (ih fun p m => f p (List.mem_cons_of_mem _ m))
mutual
theorem Own.less (k : ∀ a u, G1 a = some u → mutO u = false → G2 a = some u) : ∀ {v : V} {o : OT} {A : List Addr}, Own K G1 H1 v o A → FlatO o → Own K G2 H1 v o A
  | _, _, _, .dat h, f => .dat (h.less k (by rw [FlatO] at f; exact f))
  | _, _, _, .lst h r, f => .lst h (OwnAll.less k r (by rw [FlatO] at f; exact f))
  | _, _, _, .dk h r, f => .dk h (r.less k (by rw [FlatO] at f; exact f))
  | _, _, _, .dt h r, f => .dt h (r.less k (by rw [FlatO] at f; exact f))
  | _, _, _, .tp h r, f => .tp (SqT.less k h) (OwnAll.less k r (by rw [FlatO] at f; exact f))
  | _, _, _, .dko h hk r, f => .dko h hk (OwnAll.less k r (by rw [FlatO] at f; exact f))
  | _, _, _, .obj h g n hk r, f => .obj h g n hk (OwnAll.less k r (by rw [FlatO] at f; exact f))
theorem OwnAll.less (k : ∀ a u, G1 a = some u → mutO u = false → G2 a = some u) : ∀ {v : List V} {o : List OT} {A : List Addr}, OwnAll K G1 H1 v o A → FlatOL o → OwnAll K G2 H1 v o A
  | _, _, _, .nil, _ => .nil
  | _, _, _, .cons h r, f => .cons (Own.less k h (by rw [FlatOL] at f; exact f.1)) (OwnAll.less k r (by rw [FlatOL] at f; exact f.2))
end
end
inductive BorS : Slot → Slot → Slot → Prop
  | f {s0 s1 : Slot} : BorS s0 s1 .non
  | k {d : D} : BorS (.val d) (.val d) (.val d)
  | v {s0 : Slot} {d : D} : Flat d → BorS s0 (.val d) (.val d)
  | o {s0 : Slot} {l : Nat} {o : OT} : FlatO o → BorS s0 (.own l o) (.own l o)
inductive Bor : List Slot → List Slot → List Slot → Prop
  | nil : Bor [] [] []
  | cons {s0 s1 s2 : Slot} {r0 r1 r2 : List Slot} : BorS s0 s1 s2 → Bor r0 r1 r2 → Bor (s0 :: r0) (s1 :: r1) (s2 :: r2)
def Base.lend (B : Base) (A : List Addr) : Base := { B with H0 := fun a => if a ∈ A then none else B.H0 a, Mo := fun l => (B.Mo l).filter (fun a => decide (a ∉ A)), m0 := by rw [B.m0]; rfl }
section
variable {K : PySem.W.Frag} {B B' : Base} {G G' H H' G1 G2 H1 : Hp}
theorem Cells.reb : ∀ {σ : L2.St} {ρ : List Slot} {A : List Addr}, Cells K B G H σ ρ A → (∀ l a, a ∈ A → (a ∈ B.Mo l ∨ B.H0 a = none) → (a ∈ B'.Mo l ∨ B'.H0 a = none)) → B'.pv = B.pv → Cells K B' G H σ ρ A
  | _, _, _, .nil, _, _ => .nil
  | _, _, _, .cons c r, k, e => .cons (match c with
    | .non => .non
    | .val h => .val h
    | .own h m p => .own h (fun a q => k _ a (List.mem_append_left _ q) (m a q)) (by rw [e]; exact p)
    | .ali => .ali) (Cells.reb r (fun l a q => k l a (List.mem_append_right _ q)) e)
theorem Cells.putV : ∀ {σ : L2.St} {ρ : List Slot} {A : List Addr}, Cells K B G H σ ρ A → ∀ {i : Nat} {v : V} {d : D}, ρ[i]? = some .non → σ[i]? = some (some v) → Rp K G v d → Cells K B G H σ (ρ.set i (.val d)) A
  | _, _, _, .nil, _, _, _, e, _, _ => by simp at e
  | _, _, _, .cons (A := A) c r, 0, v, d, e, e2, h => by
    simp at e e2
    subst e
    subst e2
    cases c
    exact .cons (A := []) (.val h) r
  | _, _, _, .cons c r, i + 1, v, d, e, e2, h => .cons c (Cells.putV r (by simpa using e) (by simpa using e2) h)
theorem Cells.bor (k : ∀ a u, G1 a = some u → mutO u = false → G2 a = some u) (x : Ex G G2) : ∀ {σ : L2.St} {ρ0 ρ1 ρ2 : List Slot} {A0 A : List Addr}, Cells K B G H σ ρ0 A0 → Cells K B' G1 H1 σ ρ1 A → Bor ρ0 ρ1 ρ2 → ∃ A', Cells K B' G2 H1 σ ρ2 A' ∧ A'.Sublist A
  | _, _, _, _, _, _, _, .nil, .nil => ⟨[], .nil, .refl _⟩
  | _, _, _, _, _, _, .cons c0 r0, .cons (A := A1) c1 r1, .cons s r => by
    obtain ⟨A', h1, h2⟩ := Cells.bor k x r0 r1 r
    cases s with
    | f => exact ⟨[] ++ A', .cons .non h1, h2.trans (List.sublist_append_right _ _)⟩
    | k =>
      cases c0 with
      | val h => exact ⟨[] ++ A', .cons (.val (h.ex x)) h1, h2.trans (List.sublist_append_right _ _)⟩
    | v f =>
      cases c1 with
      | val h => exact ⟨[] ++ A', .cons (.val (h.less k f)) h1, h2⟩
    | o f =>
      cases c1 with
      | own h m p => exact ⟨A1 ++ A', .cons (.own (h.less k f) m p) h1, h2.append_left _⟩
theorem Bor.len {ρ0 ρ1 ρ2 : List Slot} (h : Bor ρ0 ρ1 ρ2) : ρ2.length = ρ1.length := by
  induction h with
  | nil => rfl
  | cons s r ih => rw [List.length_cons, List.length_cons, ih]
mutual
theorem Own.thereL : ∀ {v : V} {o : OT} {A : List Addr}, Own K G H v o A → ∀ a ∈ A, ∃ u, H a = some u ∧ mutO u = true
  | _, _, _, .dat _, _, m => nomatch m
  | _, _, _, .lst h r, a, m => by
    rcases List.mem_cons.mp m with rfl | m
    · exact ⟨_, h, rfl⟩
    · exact OwnAll.thereL r a m
  | _, _, _, .dk h r, a, m => by
    rw [List.mem_singleton.mp m]
    exact ⟨_, h, rfl⟩
  | _, _, _, .dt h r, a, m => by
    rw [List.mem_singleton.mp m]
    exact ⟨_, h, rfl⟩
  | _, _, _, .tp _ r, a, m => OwnAll.thereL r a m
  | _, _, _, .dko h _ r, a, m => by
    rcases List.mem_cons.mp m with rfl | m
    · exact ⟨_, h, rfl⟩
    · exact OwnAll.thereL r a m
  | _, _, _, .obj h g _ _ r, a, m => by
    rcases List.mem_cons.mp m with rfl | m
    · exact ⟨_, h, rfl⟩
    · rcases List.mem_cons.mp m with rfl | m
      · exact ⟨_, g, rfl⟩
      · exact OwnAll.thereL r a m
theorem OwnAll.thereL : ∀ {v : List V} {o : List OT} {A : List Addr}, OwnAll K G H v o A → ∀ a ∈ A, ∃ u, H a = some u ∧ mutO u = true
  | _, _, _, .nil, _, m => nomatch m
  | _, _, _, .cons h r, a, m => by
    rcases List.mem_append.mp m with m | m
    · exact Own.thereL h a m
    · exact OwnAll.thereL r a m
end
def FlatS : Slot → Prop
  | .non => True
  | .val d => Flat d
  | .own _ o => FlatO o
  | .ali _ _ => False
theorem BorS.of : ∀ {s : Slot}, FlatS s → BorS .non s s
  | .non, _ => .f
  | .val _, h => .v h
  | .own _ _, h => .o h
  | .ali _ _, h => h.elim
def FlatX : List (V × Slot) → Prop
  | [] => True
  | p :: ps => FlatS p.2 ∧ FlatX ps
theorem Bor.ex : ∀ {ex : List (V × Slot)} {r0 r1 r2 : List Slot}, FlatX ex → Bor r0 r1 r2 → Bor (ex.map (fun _ => Slot.non) ++ r0) (ex.map (·.2) ++ r1) (ex.map (·.2) ++ r2)
  | [], _, _, _, _, h => h
  | _ :: _, _, _, _, f, h => .cons (BorS.of f.1) (Bor.ex f.2 h)
theorem Cells.nons {σ : L2.St} {ρ : List Slot} {A : List Addr} (h : Cells K B G H σ ρ A) : ∀ (ex : List (V × Slot)), Cells K B G H (ex.map (fun p => some p.1) ++ σ) (ex.map (fun _ => Slot.non) ++ ρ) A
  | [] => h
  | _ :: ex => .cons (A := []) .non (Cells.nons h ex)
theorem Anc.lend {B : Base} {G H : Hp} (h : Anc B G H) {A : List Addr} (hA : ∀ a ∈ A, G a = none) : Anc (B.lend A) (fun a => if a ∈ A then H a else G a) H := by
  have eG : Ex G fun a => if a ∈ A then H a else G a := fun a u e => by
    show (if a ∈ A then H a else G a) = _
    by_cases ha : a ∈ A
    · rw [hA a ha] at e
      cases e
    · rw [if_neg ha]
      exact e
  refine ⟨fun a o hm e => ?_, fun a l hm => h.there a l (List.mem_filter.mp hm).1, h.gsub.trans eG, fun a e1 e2 => ?_, fun a u e => ?_⟩
  · have e : (if a ∈ A then none else B.H0 a) = some o := e
    by_cases ha : a ∈ A
    · rw [if_pos ha] at e
      cases e
    · rw [if_neg ha] at e
      exact h.keep a o (fun l m => hm l (List.mem_filter.mpr ⟨m, decide_eq_true ha⟩)) e
  · have e1 : (if a ∈ A then none else B.H0 a) ≠ none := e1
    by_cases ha : a ∈ A
    · rw [if_pos ha] at e1
      exact absurd rfl e1
    · rw [if_neg ha] at e1
      show (if a ∈ A then H a else G a) = none ∨ _
      rw [if_neg ha]
      exact h.gnew a e1 e2
  · have e : (if a ∈ A then H a else G a) = some u := e
    by_cases ha : a ∈ A
    · rw [if_pos ha] at e
      exact e
    · rw [if_neg ha] at e
      exact h.sub a u e
theorem Anc.back {B : Base} {G H G1 H1 : Hp} (h0 : Anc B G H) {A : List Addr} (hA : ∀ a ∈ A, G a = none) (hM : ∃ l, ∀ a ∈ A, a ∈ B.Mo l ∨ B.H0 a = none) (hT : ∀ a ∈ A, H a ≠ none) (x : Ex (fun a => if a ∈ A then H a else G a) G1) (h : Anc (B.lend A) G1 H1) : Anc B (fun a => if a ∈ A then none else G1 a) H1 := by
  have hG1 : ∀ a ∈ A, G1 a = H a := fun a ha => by
    cases e : H a with
    | none => exact absurd e (hT a ha)
    | some u => exact x a u (by
        show (if a ∈ A then H a else G a) = _
        rw [if_pos ha, e])
  refine ⟨fun a o hm e => ?_, fun a l hm => ?_, fun a u e => ?_, fun a e1 e2 => ?_, fun a u e => ?_⟩
  · have ha : a ∉ A := fun ha => by
      obtain ⟨l, k⟩ := hM
      rcases k a ha with k | k
      · exact hm l k
      · rw [k] at e
        cases e
    exact h.keep a o (fun l m => hm l (List.mem_filter.mp m).1) (by
      show (if a ∈ A then none else B.H0 a) = _
      rw [if_neg ha, e])
  · by_cases ha : a ∈ A
    · intro z
      have z1 := hG1 a ha
      cases e : H a with
      | none => exact hT a ha e
      | some u =>
        rw [e] at z1
        rw [h.sub a u z1] at z
        cases z
    · exact h.there a l (List.mem_filter.mpr ⟨hm, decide_eq_true ha⟩)
  · have e' := h0.gsub a u e
    have ha : a ∉ A := fun ha => by
      rw [hA a ha] at e'
      cases e'
    show (if a ∈ A then none else G1 a) = _
    rw [if_neg ha]
    exact x a u (by
      show (if a ∈ A then H a else G a) = _
      rw [if_neg ha]
      exact e')
  · show (if a ∈ A then none else G1 a) = none ∨ _
    by_cases ha : a ∈ A
    · rw [if_pos ha]
      exact .inl rfl
    · rw [if_neg ha]
      exact h.gnew a (by
        show (if a ∈ A then none else B.H0 a) ≠ none
        rw [if_neg ha]
        exact e1) e2
  · have e : (if a ∈ A then none else G1 a) = some u := e
    by_cases ha : a ∈ A
    · rw [if_pos ha] at e
      cases e
    · rw [if_neg ha] at e
      exact h.sub a u e
theorem En.lend {σ : L2.St} {ρ : List Slot} (E : En K B G H σ ρ []) {i l : Nat} {o : OT} (h : ρ[i]? = some (.own l o)) (hal : noAlis ρ = true) : ∃ B' : Base, B'.rs = B.rs ∧ ∃ G', Ex G G' ∧ En K B' G' H σ (ρ.set i (.val o.toD)) [] ∧
    ∀ G1 H1 ρ1 ρ2 ex, Ex G' G1 → En K B' G1 H1 σ ρ1 ex → Bor (ρ.set i .non) ρ1 ρ2 → ρ2[i]? = some .non → FlatX ex → noAlis ρ2 = true → ∃ G2, Ex G G2 ∧ En K B G2 H1 σ (ρ2.set i (.own l o)) ex := by
  obtain ⟨A0, c, n, g⟩ := E.own
  obtain ⟨v, A, A2, e1, hO, ⟨hl, hp⟩, c2, pm⟩ := Cells.take1 (show Cells K B G H σ ρ A0 from c) h
  have nn := pm.nodup_iff.mp n
  have n1 := List.nodup_append.mp nn
  have hA : ∀ a ∈ A, G a = none := fun a m => g a (pm.mem_iff.mpr (List.mem_append_left _ m))
  have hA2 : ∀ a ∈ A2, G a = none := fun a m => g a (pm.mem_iff.mpr (List.mem_append_right _ m))
  have hT : ∀ a ∈ A, H a ≠ none := fun a m z => by
    obtain ⟨vs, e, _⟩ := hO.thereL a m
    rw [e] at z
    cases z
  have eG : Ex G fun a => if a ∈ A then H a else G a := fun a u e => by
    show (if a ∈ A then H a else G a) = _
    by_cases ha : a ∈ A
    · rw [hA a ha] at e
      cases e
    · rw [if_neg ha]
      exact e
  have c3 : Cells K (B.lend A) (fun a => if a ∈ A then H a else G a) H σ (ρ.set i .non) A2 := by
    refine Cells.reb (B := B) (c2.ex eG fun _ _ _ e => e) (fun l a m k => ?_) rfl
    have ha : a ∉ A := fun z => n1.2.2 a z a m rfl
    rcases k with k | k
    · exact .inl (List.mem_filter.mpr ⟨k, decide_eq_true ha⟩)
    · refine .inr ?_
      show (if a ∈ A then none else B.H0 a) = _
      rw [if_neg ha, k]
  have hi : i < ρ.length := (List.getElem?_eq_some_iff.mp h).1
  have c4 := c3.putV (i := i) (v := v) (d := o.toD) (by rw [List.getElem?_set_self hi]) e1 (hO.rp eG fun a m u e => by
    show (if a ∈ A then H a else G a) = _
    rw [if_pos m, e])
  rw [List.set_set] at c4
  refine ⟨B.lend A, rfl, _, eG, ⟨E.anc.lend hA, ⟨A2, c4, n1.2.1, fun a m => ?_⟩, by rw [List.length_set]; exact E.len, fun k j p e => ?_⟩, fun G1 H1 ρ1 ρ2 ex x E1 bo h2 fl ha2 => ?_⟩
  · have ha : a ∉ A := fun z => n1.2.2 a z a m rfl
    show (if a ∈ A then H a else G a) = _
    rw [if_neg ha]
    exact hA2 a m
  · by_cases hk : i = k
    · subst hk
      rw [List.getElem?_set_self hi] at e
      cases e
    · rw [List.getElem?_set_ne hk] at e
      exact absurd e (noAlis_get hal)
  · obtain ⟨A5, c5, n5, g5⟩ := E1.own
    have hG1 : ∀ a ∈ A, G1 a = H a := fun a ha => by
      cases e : H a with
      | none => exact absurd e (hT a ha)
      | some u => exact x a u (by
          show (if a ∈ A then H a else G a) = _
          rw [if_pos ha, e])
    have x2 : Ex G fun a => if a ∈ A then none else G1 a := fun a u e => by
      have ha : a ∉ A := fun ha => by
        rw [hA a ha] at e
        cases e
      show (if a ∈ A then none else G1 a) = _
      rw [if_neg ha]
      exact x a u (eG a u e)
    have k : ∀ a u, G1 a = some u → mutO u = false → (if a ∈ A then none else G1 a) = some u := fun a u e ne => by
      by_cases ha : a ∈ A
      · obtain ⟨vs, e3, em⟩ := hO.thereL a ha
        rw [hG1 a ha, e3] at e
        injection e with e
        subst e
        rw [em] at ne
        cases ne
      · rw [if_neg ha]
        exact e
    have disj : ∀ a ∈ A5, a ∉ A := fun a m ha => by
      have z := g5 a m
      rw [hG1 a ha] at z
      exact hT a ha z
    obtain ⟨A6, c6, s6⟩ := Cells.bor (G := G) (H := H) (G2 := fun a => if a ∈ A then none else G1 a) k x2 (c2.nons ex) c5 (Bor.ex fl bo)
    have c7 : Cells K B (fun a => if a ∈ A then none else G1 a) H1 (ex.map (fun p => some p.1) ++ σ) (ex.map (·.2) ++ ρ2) A6 := by
      refine Cells.reb (B := B.lend A) c6 (fun l a m k => ?_) rfl
      have ha := disj a (s6.subset m)
      rcases k with k | k
      · exact .inl (List.mem_filter.mp k).1
      · refine .inr ?_
        have k : (if a ∈ A then none else B.H0 a) = none := k
        rw [if_neg ha] at k
        exact k
    have hO1 : Own K (fun a => if a ∈ A then none else G1 a) H1 v o A := hO.ex x2 fun a m u e => E1.anc.sub a u (by rw [hG1 a m, e])
    obtain ⟨A8, c8, p8⟩ := c7.put1 (i := ex.length + i) (l := l) (o := o) (v := v) (A1 := A) (by
      rw [List.getElem?_append_right (by simp), List.length_map]
      simpa using h2) (by
      rw [List.getElem?_append_right (by simp), List.length_map]
      simpa using e1) hO1 ⟨hl, hp⟩
    rw [List.set_append_right _ _ (by simp), List.length_map, Nat.add_sub_cancel_left] at c8
    have hi2 : i < ρ2.length := (List.getElem?_eq_some_iff.mp h2).1
    refine ⟨_, x2, ⟨Anc.back E.anc hA ⟨l, hl⟩ hT x E1.anc, ⟨A8, c8, p8.nodup_iff.mpr (List.nodup_append.mpr ⟨n1.1, s6.nodup n5, fun a m b m2 e => ?_⟩), fun a m => ?_⟩, ?_, fun k j p e => ?_⟩⟩
    · subst e
      exact disj a (s6.subset m2) m
    · show (if a ∈ A then none else G1 a) = _
      by_cases ha : a ∈ A
      · rw [if_pos ha]
      · rw [if_neg ha]
        rcases List.mem_append.mp (p8.mem_iff.mp m) with m | m
        · exact absurd m ha
        · exact g5 a (s6.subset m)
    · rw [List.length_set, bo.len]
      exact E1.len
    · by_cases hk : i = k
      · subst hk
        rw [List.getElem?_set_self hi2] at e
        cases e
      · rw [List.getElem?_set_ne hk] at e
        exact absurd e (noAlis_get ha2)
end
section
variable {X : Cx} {B : Base} {ρ : List Slot} {pos : Pos} {e : Expr}
theorem je_bor (i : Nat) {β : Type} {m : R β} {sl : β → Slot} {l : Nat} {o : OT} {d : D} {ρ1 ρ2 ρ' : β → List Slot} (h : ρ[i]? = some (.own l o) := by rfl) (hd : o.toD = d) (he : ∀ B' : Base, B'.rs = B.rs → JE X B' (ρ.set i (.val d)) e m sl ρ1) (hb : ∀ b, Bor (ρ.set i .non) (ρ1 b) (ρ2 b)) (hf : ∀ b, FlatS (sl b)) (hr : ∀ b, (ρ2 b).set i (.own l o) = ρ' b)
    (hal : noAlis ρ = true := by rfl) (h2 : ∀ b, (ρ2 b)[i]? = some .non := by intro _; rfl) (ha2 : ∀ b, noAlis (ρ2 b) = true := by intro _; rfl) : JE X B ρ e m sl ρ' := by
  refine ⟨fun pins s σ H Q I ⟨G, E, q⟩ => ?_⟩
  obtain ⟨B', hB, G', x, E', k⟩ := E.lend h hal
  rw [hd] at E'
  refine (he B' hB).run pins s σ H Q I ⟨G', E', ?_⟩
  rw [hB]
  refine R.post_mono q fun b q1 v G1 H1 x1 E1 => ?_
  obtain ⟨G2, x2, E2⟩ := k G1 H1 (ρ1 b) (ρ2 b) _ x1 E1 (hb b) (h2 b) ⟨hf b, trivial⟩ (ha2 b)
  rw [hr b] at E2
  exact q1 v G2 H1 x2 E2
theorem jt_bor (i : Nat) {β : Type} {m : R β} {bn : β → Bool} {l : Nat} {o : OT} {d : D} {ρ1 ρ2 ρ' : β → List Slot} (h : ρ[i]? = some (.own l o) := by rfl) (hd : o.toD = d) (he : ∀ B' : Base, B'.rs = B.rs → JT X B' (ρ.set i (.val d)) e m bn ρ1) (hb : ∀ b, Bor (ρ.set i .non) (ρ1 b) (ρ2 b)) (hr : ∀ b, (ρ2 b).set i (.own l o) = ρ' b)
    (hal : noAlis ρ = true := by rfl) (h2 : ∀ b, (ρ2 b)[i]? = some .non := by intro _; rfl) (ha2 : ∀ b, noAlis (ρ2 b) = true := by intro _; rfl) : JT X B ρ e m bn ρ' := by
  refine ⟨fun pins s σ H Q I ⟨G, E, q⟩ => ?_⟩
  obtain ⟨B', hB, G', x, E', k⟩ := E.lend h hal
  rw [hd] at E'
  refine (he B' hB).run pins s σ H Q I ⟨G', E', ?_⟩
  rw [hB]
  refine R.post_mono q fun b q1 G1 H1 x1 E1 => ?_
  obtain ⟨G2, x2, E2⟩ := k G1 H1 (ρ1 b) (ρ2 b) _ x1 E1 (hb b) (h2 b) trivial (ha2 b)
  rw [hr b] at E2
  exact q1 G2 H1 x2 E2
theorem toD_map {α : Type} {f : α → D} : ∀ xs : List α, OT.toDs ((xs.map f).map OT.dat) = xs.map f
  | [] => by rw [List.map_nil, List.map_nil, OT.toDs]
  | x :: xs => by rw [List.map_cons, List.map_cons, OT.toDs, OT.toD, toD_map xs]
theorem toD_oL {α : Type} (f : α → D) (xs : List α) : (oL f xs).toD = eL f xs := by
  rw [oL, OT.toD, toD_map]
def un2 {α : Type} : List α → Option (α × α)
  | [a, b] => some (a, b)
  | _ => none
def un3 {α : Type} : List α → Option (α × α × α)
  | [a, b, c] => some (a, b, c)
  | _ => none
def un4 {α : Type} : List α → Option (α × α × α × α)
  | [a, b, c, d] => some (a, b, c, d)
  | _ => none
theorem jts_t : JTs X B ρ [] (.ok true) (fun b => b) := ⟨fun pins s σ H Q I ⟨G, E, q⟩ => pts_nil.run pins s σ H Q I (q G H (Ex.refl G) E)⟩
theorem noRs {B B' : Base} (h : B'.rs = B.rs) (k : ∀ e, ¬ B.rs e) : ∀ e, ¬ B'.rs e := fun e => by
  rw [h]
  exact k e
theorem un65 {k : Nat} {A : Around} (r : RoomG k A) : A.units + 65 < cLine := by
  have := r.r.un
  omega
theorem un64 {k : Nat} {A : Around} (r : RoomG k A) : A.units + 64 < cLine := by
  have := r.r.un
  omega
end
def hasL {α : Type} [DecidableEq α] (x : α) (l : List α) : Bool := decide (x ∈ l)
theorem hasL_iff {α : Type} [DecidableEq α] {x : α} {l : List α} : hasL x l = true ↔ x ∈ l := by
  rw [hasL, decide_eq_true_eq]
theorem od_inL {K : PySem.W.Frag} {B : Base} {α : Type} [DecidableEq α] {n : Nat} {f : α → D} (h : EqE n f) (hn : n + 1 ≤ 64 := by decide) {x : α} {l : List α} : OpD K B (rInD K) (f x) (eL f l) (.ok ()) (fun _ => .val (.bool (hasL x l))) := od_inD h hn
end DL
namespace DL
open PySem PySem.Spec L2
def OT.subL : OT → List Nat → Option OT
  | o, [] => some o
  | .lst os, k :: ks => (os[k]?).bind fun o => o.subL ks
  | _, _ :: _ => none
def OT.putL : OT → List Nat → OT → OT
  | _, [], n => n
  | .lst os, k :: ks, n => .lst (match os[k]? with
    | some o => os.set k (o.putL ks n)
    | none => os)
  | o, _ :: _, _ => o
section
variable {K : PySem.W.Frag} {G H : Hp}
theorem OwnAll.at : ∀ {vs : List V} {os : List OT} {A : List Addr} {k : Nat} {o : OT}, OwnAll K G H vs os A → os[k]? = some o →
    ∃ v A0 A1 A2, vs[k]? = some v ∧ Own K G H v o A1 ∧ A = A0 ++ (A1 ++ A2) ∧ ∀ (H' : Hp) (o' : OT), Own K G H' v o' A1 → (∀ a ∈ A0 ++ A2, H' a = H a) → OwnAll K G H' vs (os.set k o') A
  | _, _, _, _, _, .nil, e => by simp at e
  | _, _, _, 0, o, .cons (A := A) (A' := A') h r, e => by
    simp at e
    subst e
    exact ⟨_, [], A, A', rfl, h, rfl, fun H' o' h' k => .cons h' (OwnAll.ex (Ex.refl G) r fun a m u e => by rw [k a (by simpa using m), e])⟩
  | _, _, _, k + 1, o, .cons (A := A) (A' := A') h r, e => by
    obtain ⟨v, A0, A1, A2, h1, h2, h3, h4⟩ := OwnAll.at (k := k) r (by simpa using e)
    subst h3
    refine ⟨v, A ++ A0, A1, A2, by simpa using h1, h2, by simp, fun H' o' h' k => .cons (h.ex (Ex.refl G) fun a m u e => by rw [k a (by simp [m]), e]) (h4 H' o' h' fun a m => k a (by
      rcases List.mem_append.mp m with m | m <;> simp [m]))⟩
theorem Own.put : ∀ {p : List Nat} {v : V} {o : OT} {A : List Addr} {ds : List D}, Own K G H v o A → o.subL p = some (.lst (ds.map OT.dat)) →
    ∃ a vs, At H v p (.ref a) ∧ a ∈ A ∧ H a = some (.lst vs) ∧ RpAll K G vs ds ∧ (A.Nodup → ∀ vs' ds', RpAll K G vs' ds' → Own K G (upd H a (.lst vs')) v (o.putL p (.lst (ds'.map OT.dat))) A)
  | [], v, o, A, ds, h, e => by
    rw [OT.subL] at e
    injection e with e
    subst e
    cases h with
    | @lst a vs _ A3 ha hall =>
      obtain ⟨e3, r⟩ := own_dats_inv hall
      subst e3
      refine ⟨a, vs, rfl, List.mem_cons_self, ha, r, fun _ vs' ds' r' => ?_⟩
      rw [OT.putL]
      exact .lst upd_same (own_dats r')
  | k :: ks, v, .dat d, A, ds, h, e => by
    simp [OT.subL] at e
  | k :: ks, v, .dk d, A, ds, h, e => by
    simp [OT.subL] at e
  | k :: ks, v, .dt d, A, ds, h, e => by
    simp [OT.subL] at e
  | k :: ks, v, .tp d, A, ds, h, e => by
    simp [OT.subL] at e
  | k :: ks, v, .dko _ d, A, ds, h, e => by
    simp [OT.subL] at e
  | k :: ks, v, .obj _ _ d, A, ds, h, e => by
    simp [OT.subL] at e
  | k :: ks, v, .lst os, A, ds, h, e => by
    rw [OT.subL] at e
    obtain ⟨o1, e1, e2⟩ := Option.bind_eq_some_iff.mp e
    cases h with
    | @lst b ws _ A3 hb hall =>
      obtain ⟨u, A0, A1, A2, h1, h2, h3, h4⟩ := hall.at e1
      obtain ⟨a, vs, g1, g2, g3, g4, g5⟩ := Own.put (p := ks) h2 e2
      have m : a ∈ A3 := by
        rw [h3]
        simp [g2]
      refine ⟨a, vs, ⟨b, ws, u, rfl, hb, h1, g1⟩, List.mem_cons_of_mem _ m, g3, g4, fun nd vs' ds' r' => ?_⟩
      have n1 := List.nodup_cons.mp nd
      rw [OT.putL, e1]
      have n2 := n1.2
      rw [h3] at n2
      have n3 := List.nodup_append.mp n2
      have n4 := List.nodup_append.mp n3.2.1
      refine .lst ?_ (h4 _ _ (g5 n4.1 vs' ds' r') fun c mc => upd_ne fun z => ?_)
      · rw [upd_ne (fun z => n1.1 (by rw [z]; exact m))]
        exact hb
      · subst z
        rcases List.mem_append.mp mc with mc | mc
        · exact n3.2.2 c mc c (List.mem_append_left _ g2) rfl
        · exact n4.2.2 c g2 c mc rfl
theorem toDs_at : ∀ {os : List OT} {k : Nat}, (OT.toDs os)[k]? = (os[k]?).map OT.toD
  | [], k => by simp [OT.toDs]
  | o :: os, 0 => by simp [OT.toDs]
  | o :: os, k + 1 => by
    rw [OT.toDs]
    simpa using toDs_at (os := os) (k := k)
theorem Rp.at {G' : Hp} (x : Ex G' H) : ∀ {p : List Nat} {v w : V} {o o' : OT}, Rp K G' v o.toD → o.subL p = some o' → At H v p w → At G' v p w
  | [], _, _, _, _, _, _, h => h
  | k :: ks, v, w, .dat d, o', h, e, _ => by
    simp [OT.subL] at e
  | k :: ks, v, w, .dk d, o', h, e, _ => by
    simp [OT.subL] at e
  | k :: ks, v, w, .dt d, o', h, e, _ => by
    simp [OT.subL] at e
  | k :: ks, v, w, .tp d, o', h, e, _ => by
    simp [OT.subL] at e
  | k :: ks, v, w, .dko _ d, o', h, e, _ => by
    simp [OT.subL] at e
  | k :: ks, v, w, .obj _ _ d, o', h, e, _ => by
    simp [OT.subL] at e
  | k :: ks, v, w, .lst os, o', h, e, ⟨a, vs, u, h1, h2, h3, h4⟩ => by
    rw [OT.subL] at e
    obtain ⟨o1, e1, e2⟩ := Option.bind_eq_some_iff.mp e
    rw [OT.toD] at h
    obtain ⟨b, xs, e3, hS, hr⟩ := h.lst_inv
    subst h1
    injection e3 with e3
    subst e3
    have hx : G' a = some (.lst xs) := by
      rcases hS with hS | ⟨o, hS⟩
      · exact hS
      · have := x _ _ hS
        rw [h2] at this
        cases this
    have hxs : xs = vs := by
      have := x _ _ hx
      rw [h2] at this
      injection this with this
      injection this with this
      exact this.symm
    subst hxs
    obtain ⟨d, hd, hrd⟩ := hr.getV h3
    rw [toDs_at, e1] at hd
    injection hd with hd
    subst hd
    exact ⟨a, xs, u, rfl, hx, h3, Rp.at x hrd e2 h4⟩
end
section
variable {K : PySem.W.Frag} {B : Base} {G H : Hp} {σ : L2.St} {ρ : List Slot}
end
def tJL (K : PySem.W.Frag) (B : Base) (ρ : List Slot) (i : Nat) {ι : Type} (m : R ι) (path : ι → List Nat) : TE := fun σ H Q =>
  ∃ G, En K B G H σ ρ [] ∧ m.post (fun j => ∀ G' H', Ex G G' → En K B G' H' σ ρ [] → ∀ v a, σ[i]? = some (some v) → At H' v (path j) (.ref a) → Q (.ref a) H') B.rs
def JL (X : Cx) (B : Base) (ρ : List Slot) (e : Expr) (i : Nat) {ι : Type} (m : R ι) (path : ι → List Nat) : Prop := PE X e (tJL X.K B ρ i m path)
def MtD (K : PySem.W.Frag) (r : V → List V → Hp → VK → Prop) (ds : List D) (as : List D) {γ : Type} (m : R γ) (res : γ → D) (ds' : γ → List D) : Prop :=
  ∀ (G H : Hp) (a : Addr) (vs args : List V) (Q : VK) (rs : Exn → Prop), Ex G H → H a = some (.lst vs) → RpAll K G vs ds → RpAll K G args as → m.post (fun c => ∀ v vs', Rp K G v (res c) → RpAll K G vs' (ds' c) → Q v (upd H a (.lst vs'))) rs → r (.ref a) args H Q
section
variable {X : Cx} {B : Base} {ρ : List Slot} {pos : Pos} {obj e : Expr} {es : List Expr}
@[reducible] def oLL {α : Type} (f : α → D) (rows : List (List α)) : OT := .lst (rows.map (oL f))
def rowAt {α : Type} (rows : List (List α)) (k : Int) : Option (Nat × List α) := (ixN rows.length k).bind fun j => (rows[j]?).map fun r => (j, r)
theorem OwnAll.len {K : PySem.W.Frag} {G H : Hp} : ∀ {vs : List V} {os : List OT} {A : List Addr}, OwnAll K G H vs os A → vs.length = os.length
  | _, _, _, .nil => rfl
  | _, _, _, .cons _ r => by rw [List.length_cons, List.length_cons, r.len]
theorem ArOk.rp {K : PySem.W.Frag} {G : Hp} {σ : L2.St} : ∀ {vs : List V} {ds : List D}, ArOk K G σ vs (ds.map Ar.val) → RpAll K G vs ds
  | [], [], _ => .nil
  | [], _ :: _, h => by cases h
  | _ :: _, [], h => by cases h
  | v :: vs, d :: ds, h => by
    cases h with
    | val h r => exact .cons h (ArOk.rp r)
end
end DL
namespace DL
open PySem PySem.Spec L2
def ixOf {α : Type} [DecidableEq α] (x : α) : List α → Option Nat
  | [] => none
  | y :: ys => if y = x then some 0 else (ixOf x ys).map (· + 1)
theorem ixOf_some {α : Type} [DecidableEq α] {x : α} : ∀ {l : List α} {j : Nat}, ixOf x l = some j → l[j]? = some x ∧ ∀ m, m < j → l[m]? ≠ some x
  | y :: ys, j, h => by
    rw [ixOf] at h
    by_cases e : y = x
    · rw [if_pos e] at h
      injection h with h
      subst h
      exact ⟨by simp [e], fun m z => absurd z (Nat.not_lt_zero _)⟩
    · rw [if_neg e] at h
      obtain ⟨k, h1, h2⟩ := Option.map_eq_some_iff.mp h
      subst h2
      obtain ⟨g1, g2⟩ := ixOf_some h1
      refine ⟨by simpa using g1, fun m z => ?_⟩
      cases m with
      | zero =>
        intro q
        simp at q
        exact e q
      | succ m =>
        intro q
        exact g2 m (by omega) (by simpa using q)
theorem RpAll.eraseIdx {K : PySem.W.Frag} {G : Hp} : ∀ {vs : List V} {ds : List D} (n : Nat), RpAll K G vs ds → RpAll K G (vs.eraseIdx n) (ds.eraseIdx n)
  | _, _, _, .nil => .nil
  | _, _, 0, .cons _ r => r
  | _, _, n + 1, .cons h r => .cons h (RpAll.eraseIdx n r)
section
variable {K : PySem.W.Frag}
theorem toDs_LL {α : Type} {f : α → D} : ∀ rows : List (List α), OT.toDs (rows.map (oL f)) = rows.map (eL f)
  | [] => by rw [List.map_nil, List.map_nil, OT.toDs]
  | r :: rows => by rw [List.map_cons, List.map_cons, OT.toDs, toD_oL, toDs_LL rows]
end
def rTix (K : PySem.W.Frag) : V → List V → Hp → VK → Prop := fun x args H Q => ∃ (p : Addr) (ns : List Int) (k : Int) (j : Nat), x = .ref p ∧ args = [.int k] ∧ SqT K H p (ns.map V.int) ∧ ns[j]? = some k ∧ (∀ m, m < j → ns[m]? ≠ some k) ∧ Q (.int (j : Nat)) H
end DL
namespace DL
open PySem PySem.Spec L2
section
variable {K : PySem.W.Frag} {B B' : Base} {G G' H H' G1 G2 H1 : Hp} {σ σ1 : L2.St} {ρ ρ1 : List Slot}
def Base.aside (B : Base) (H : Hp) (A : List Addr) : Base := { B with H0 := fun a => if a ∈ A then H a else B.H0 a, Mo := fun l => (B.Mo l).filter (fun a => decide (a ∉ A)), m0 := by rw [B.m0]; rfl }
theorem En.aside {v : V} {o : OT} {ex : List (V × Slot)} (E : En K B G H σ ρ ((v, .own 0 o) :: ex)) : ∃ B' : Base, B'.rs = B.rs ∧ En K B' G H σ ρ ex ∧
    ∀ G1 H1 σ1 ρ1 ex1, Ex G G1 → En K B' G1 H1 σ1 ρ1 ex1 → noAlis ρ1 = true → En K B G1 H1 σ1 ρ1 ((v, .own 0 o) :: ex1) := by
  obtain ⟨A0, c, n, g⟩ := E.own
  cases c with
  | @cons _ _ A _ _ A2 c1 cr =>
    cases c1 with
    | own hO hl hp =>
      have n1 := List.nodup_append.mp n
      have hA : ∀ a ∈ A, G a = none := fun a m => g a (List.mem_append_left _ m)
      have h0 : ∀ a ∈ A, B.H0 a = none := fun a m => (hl a m).resolve_left (by rw [B.m0]; exact fun z => nomatch z)
      have hT : ∀ a ∈ A, ∃ vs, H a = some vs := hO.there
      have disj : ∀ a ∈ A2, a ∉ A := fun a m z => n1.2.2 a z a m rfl
      refine ⟨B.aside H A, rfl, ⟨⟨fun a o hm e => ?_, fun a l hm => E.anc.there a l (List.mem_filter.mp hm).1, E.anc.gsub, fun a e1 e2 => ?_, E.anc.sub⟩, ⟨A2, ?_, n1.2.1, fun a m => g a (List.mem_append_right _ m)⟩, E.len, E.ali⟩, fun G1 H1 σ1 ρ1 ex1 x E1 ha => ?_⟩
      · have e : (if a ∈ A then H a else B.H0 a) = some o := e
        by_cases ha : a ∈ A
        · rw [if_pos ha] at e
          exact e
        · rw [if_neg ha] at e
          exact E.anc.keep a o (fun l m => hm l (List.mem_filter.mpr ⟨m, decide_eq_true ha⟩)) e
      · by_cases ha : a ∈ A
        · exact .inl (hA a ha)
        · have e1 : (if a ∈ A then H a else B.H0 a) ≠ none := e1
          rw [if_neg ha] at e1
          exact E.anc.gnew a e1 e2
      · refine Cells.reb (B := B) cr (fun l a m k => ?_) rfl
        have ha := disj a m
        rcases k with k | k
        · exact .inl (List.mem_filter.mpr ⟨k, decide_eq_true ha⟩)
        · refine .inr ?_
          show (if a ∈ A then H a else B.H0 a) = _
          rw [if_neg ha, k]
      · obtain ⟨A5, c5, n5, g5⟩ := E1.own
        have hH1 : ∀ a ∈ A, H1 a = H a := fun a m => by
          obtain ⟨vs, e⟩ := hT a m
          rw [e]
          refine E1.anc.keep a _ (fun l z => of_decide_eq_true (List.mem_filter.mp z).2 m) ?_
          show (if a ∈ A then H a else B.H0 a) = _
          rw [if_pos m, e]
        have hG1 : ∀ a ∈ A, G1 a = none := fun a m => E1.anc.gnone (by
          show (if a ∈ A then H a else B.H0 a) ≠ none
          rw [if_pos m]
          obtain ⟨vs, e⟩ := hT a m
          rw [e]
          exact fun z => nomatch z) (by
          show B.G0 a = none
          exact E.anc.gsub.back (hA a m)) (fun xs z => hO.nt a m xs (by rw [← hH1 a m]; exact z))
        have disj5 : ∀ a ∈ A5, a ∉ A := fun a m ha => by
          rcases Cells.region c5 a m with ⟨l, z⟩ | z
          · exact of_decide_eq_true (List.mem_filter.mp z).2 ha
          · have z : (if a ∈ A then H a else B.H0 a) = none := z
            rw [if_pos ha] at z
            obtain ⟨vs, e⟩ := hT a ha
            rw [e] at z
            cases z
        refine ⟨⟨fun a o hm e => ?_, fun a l hm => ?_, E1.anc.gsub, fun a e1 e2 => ?_, E1.anc.sub⟩, ⟨A ++ A5, .cons (.own (hO.ex x fun a m u e => by rw [hH1 a m, e]) hl hp) ?_, List.nodup_append.mpr ⟨n1.1, n5, fun a m b mb e => ?_⟩, fun a m => ?_⟩, E1.len, fun i j q e => absurd e (noAlis_get ha)⟩
        · have ha : a ∉ A := fun z => by
            rw [h0 a z] at e
            cases e
          refine E1.anc.keep a o (fun l m => hm l (List.mem_filter.mp m).1) ?_
          show (if a ∈ A then H a else B.H0 a) = _
          rw [if_neg ha]
          exact e
        · by_cases ha : a ∈ A
          · rw [hH1 a ha]
            obtain ⟨vs, e⟩ := hT a ha
            rw [e]
            exact fun z => nomatch z
          · exact E1.anc.there a l (List.mem_filter.mpr ⟨hm, decide_eq_true ha⟩)
        · have ha : a ∉ A := fun z => e1 (h0 a z)
          refine E1.anc.gnew a ?_ e2
          show (if a ∈ A then H a else B.H0 a) ≠ none
          rw [if_neg ha]
          exact e1
        · refine Cells.reb (B := B.aside H A) c5 (fun l a m k => ?_) rfl
          have ha := disj5 a m
          rcases k with k | k
          · exact .inl (List.mem_filter.mp k).1
          · refine .inr ?_
            have k : (if a ∈ A then H a else B.H0 a) = none := k
            rw [if_neg ha] at k
            exact k
        · subst e
          exact disj5 a mb m
        · rcases List.mem_append.mp m with m | m
          · exact hG1 a m
          · exact g5 a m
theorem OwnAll.append {A A' : List Addr} : ∀ {vs ws : List V} {os us : List OT}, OwnAll K G H vs os A → OwnAll K G H ws us A' → OwnAll K G H (vs ++ ws) (os ++ us) (A ++ A')
  | _, _, _, _, .nil, s => s
  | _, _, _, _, .cons h r, s => by
    rw [List.append_assoc]
    exact .cons h (OwnAll.append r s)
end
section
variable {X : Cx} {B : Base} {ρ : List Slot} {pos : Pos} {e a b tg it elt : Expr}
end
section
variable {K : PySem.W.Frag} {B B' : Base} {G G' H H' G1 G2 H1 : Hp} {σ σ1 : L2.St} {ρ ρ1 : List Slot}
end
section
variable {X : Cx} {B : Base} {ρ : List Slot} {pos : Pos} {e : Expr} {es : List Expr}
def tJAo (K : PySem.W.Frag) (B : Base) (ρ : List Slot) {β : Type} (m : R β) (os : β → List OT) (ρ' : β → List Slot) : TA := fun σ H Q =>
  ∃ G, En K B G H σ ρ [] ∧ m.post (fun b => ∀ vs G' H', Ex G G' → vs.length = (os b).length → En K B G' H' σ (ρ' b) (vs.zip ((os b).map (Slot.own 0))) → Q vs H') B.rs
def JAo (X : Cx) (B : Base) (ρ : List Slot) (es : List Expr) {β : Type} (m : R β) (os : β → List OT) (ρ' : β → List Slot) : Prop := PA X es (tJAo X.K B ρ m os ρ')
end
end DL
namespace DL
open PySem PySem.Spec L2
def enumL {α : Type} (xs : List α) : List (Int × α) := xs.zipIdx.map fun p => ((p.2 : Int), p.1)
theorem enumL_len {α : Type} (xs : List α) : (enumL xs).length = xs.length := by
  rw [enumL, List.length_map, List.length_zipIdx]
theorem enumL_get {α : Type} {xs : List α} {i : Nat} : (enumL xs)[i]? = (xs[i]?).map fun x => ((i : Int), x) := by
  rw [enumL, List.getElem?_map, List.getElem?_zipIdx]
  cases xs[i]? with
  | none => rfl
  | some x => simp
section
variable {X : Cx} {B : Base} {ρ : List Slot} {pos : Pos} {e tg it : Expr}
theorem ji_enum {α β : Type} {m : R β} {xs : β → List α} {f : α → D} {ρ' : β → List Slot} {p tpos : Pos} {elts : List Expr} {kk : Nat} (hg : Gl X "enumerate") (hm : X.mg "enumerate" = none) (h : JE X B ρ e m (fun b => .val (eL f (xs b))) ρ') (hst : starEach [e] X.env = (false, eval e X.env) :: starEach [] X.env := by rfl) (hs : starEach [e] X.env = [(false, eval e X.env)] := by rfl) :
    JI X B ρ (.Tuple elts kk tpos) (.Call (.Name "enumerate" p) [e] [] pos) m (fun b => (enumL (xs b)).map (eP2 D.int f)) ρ' :=
  PI_imp (pi_enum hg hm (pa_cons h pa_nil hst) hs) fun σ H Q ⟨G, E, q⟩ => ⟨G, E, R.post_mono q fun b q1 v G' H' x E' => by
    obtain ⟨a, vs, rfl, hS, hr⟩ := E'.top.lst_inv
    have hS' : SqL X.K G' a vs := .inl hS
    have hl : vs.length = (xs b).length := by rw [hr.len, List.length_map]
    have hl2 : ((enumL (xs b)).map (eP2 D.int f)).length = vs.length := by rw [List.length_map, enumL_len, hl]
    refine ⟨a, vs, rfl, E'.sub.l hS', q1 _ G' H' x E'.pop ⟨fun i H hi e => ⟨vs, vs[i]'(by rw [← hl2]; exact hi), e.l hS', List.getElem?_eq_getElem _⟩, fun i H hi e => ⟨vs, e.l hS', by rw [← hl2]; exact hi⟩, fun B i G1 H1 σ ρ w H' e E hy d hd => ?_⟩⟩
    obtain ⟨T, y, rfl, hT, rfl, hy⟩ := hy
    have hyi := hy vs ((e.trans E.sub).l hS')
    obtain ⟨d2, h1, h2⟩ := hr.getV hyi
    rw [List.getElem?_map, enumL_get] at hd
    rw [List.getElem?_map] at h1
    cases hx : (xs b)[i]? with
    | none =>
      rw [hx] at h1
      cases h1
    | some z =>
      rw [hx] at h1 hd
      injection h1 with h1
      injection hd with hd
      subst h1
      subst hd
      have e1 := Ex.new (o := HO.tup [.int (i : Nat), y]) (E.sub.back hT)
      exact ⟨_, e1, E.new hT _, .tup (.inl (.inl upd_same)) (.cons (.int _) (.cons (h2.ex (e.trans e1)) .nil))⟩⟩
end
end DL
namespace DL
open PySem PySem.Spec L2
open Sem (wp)
section
variable {prog : Program} {w : World} {A : Around} {E : Value → Shared → Prop} {s : Shared}
theorem nextOf_tup_item {it t : Addr} {i : Nat} {items : Array Value} {x : Value} {Q : Value → Shared → Prop} (ti : s.heap.IsTupleIter it t i) (tt : s.heap.IsTuple t items) (tx : items[i]? = some x)
    (k : ∀ h', h'.IsTupleIter it t (i + 1) → Heap.SameBut it s.heap h' → Q x { s with heap := h' }) : wpAny (model prog w) A (Builtin.SmallTypes.nextOf (.ref it)) Q E s := by
  obtain ⟨o, go, gc, gd⟩ := id ti
  obtain ⟨ol, gl, _, nl, gdl⟩ := tt
  unfold Builtin.SmallTypes.nextOf
  refine wpAny_bind (wpAny_callSpecial?_slot (name := Str.ofString "__next__") ti.typeIs F.slot_tuple_iterator_next (wpAny_call_entry F.slot_tuple_iterator_next ti.typeIs F.entry_tuple_iterator_next ?_ (F.args_tuple_iterator_next_1 _)))
  show wpAny _ _ (field (.ref it) 0 >>= _) _ _ _
  refine wpAny_bind (wpAny_field go gd (x := .ref t) rfl ?_)
  show wpAny _ _ (if (Value.ref t == Value.none) = true then _ else _) _ E _
  rw [if_neg (show ¬ ((Value.ref t == Value.none) = true) by exact Bool.false_ne_true)]
  show wpAny _ _ (field (.ref it) 1 >>= _) _ _ _
  refine wpAny_bind (wpAny_field go gd (x := .int i 0) rfl ?_)
  show wpAny _ _ (seqItems? (.ref t) >>= _) _ E _
  refine wpAny_bind (wpAny_seqItems gl gdl ?_)
  simp only [Int.toNat_natCast, tx]
  refine wpAny_bind (wpAny_setField go gd (by simp) (wpAny_pure ⟨x, rfl, wpAny_pure (k _ ?_ (Heap.SameBut.update ..))⟩))
  exact ⟨_, Heap.get?_update_self _ go (Obj.isFreed_of_fields (Obj.data_mapFields gd _)), (Obj.cls_mapFields ..).trans gc, by rw [Obj.data_mapFields gd]; simp [rawInt]⟩
theorem nextOf_tup_end {it t : Addr} {i : Nat} {items : Array Value} {Q : Value → Shared → Prop} (hh : A.handled = none) (ti : s.heap.IsTupleIter it t i) (tt : s.heap.IsTuple t items) (tx : items[i]? = none)
    (k : ∀ h' e, Heap.ExtBut it s.heap h' → (∃ o, h'.get? e = some o ∧ o.cls = .type "StopIteration") → E (.ref e) { s with heap := h' }) : wpAny (model prog w) A (Builtin.SmallTypes.nextOf (.ref it)) Q E s := by
  obtain ⟨o, go, gc, gd⟩ := id ti
  obtain ⟨ol, gl, _, nl, gdl⟩ := tt
  unfold Builtin.SmallTypes.nextOf
  refine wpAny_bind (wpAny_callSpecial?_slot (name := Str.ofString "__next__") ti.typeIs F.slot_tuple_iterator_next (wpAny_call_entry F.slot_tuple_iterator_next ti.typeIs F.entry_tuple_iterator_next ?_ (F.args_tuple_iterator_next_1 _)))
  show wpAny _ _ (field (.ref it) 0 >>= _) _ _ _
  refine wpAny_bind (wpAny_field go gd (x := .ref t) rfl ?_)
  show wpAny _ _ (if (Value.ref t == Value.none) = true then _ else _) _ E _
  rw [if_neg (show ¬ ((Value.ref t == Value.none) = true) by exact Bool.false_ne_true)]
  show wpAny _ _ (field (.ref it) 1 >>= _) _ _ _
  refine wpAny_bind (wpAny_field go gd (x := .int i 0) rfl ?_)
  show wpAny _ _ (seqItems? (.ref t) >>= _) _ E _
  refine wpAny_bind (wpAny_seqItems gl gdl ?_)
  simp only [Int.toNat_natCast, tx]
  refine wpAny_bind (wpAny_rule (wpAny_bind (wpAny_setField go gd (by simp) ?_)))
  show wpAny _ _ (newExc (.type "StopIteration") [] >>= _) _ E _
  refine wpAny_bind ?_
  simp only [newExc, newTuple]
  refine wpAny_bind (wpAny_newObj_type ?_ (by size_fits))
  refine wpAny_bind (m := firstArgMember _ _) (wpAny_of_eq (a := Value.none) (by first | exact rfl | (simp only [firstArgMember]; rfl)) ?_)
  refine wpAny_newObj_type ?_ (by size_fits)
  simp only [raiseNew]
  refine wpAny_bind (wpAny_handled ?_)
  first | rw [show A.in1.handled = none by exact hh] | rw [hh]
  refine wpAny_bind (wpAny_pure (wpAny_throw ?_))
  exact k _ _ (((Heap.SameBut.update ..).extBut.push _).push _) ⟨_, by exact Heap.get?_push_size _ rfl, rfl⟩
end
theorem drawsT {prog : Program} {w : World} {A : Around} (hh : A.handled = none) (it t : Addr) (hne : t ≠ it) (items : Array Value) :
    Draws prog w A it [it, t] items.size (fun i v => items[i]? = some v) (fun i h => h.IsTupleIter it t i ∧ h.IsTuple t items) where
  live := fun _ _ st => let ⟨o, go, _⟩ := st.1; ⟨o, go⟩
  frame := fun _ _ _ st hk => ⟨let ⟨o, go, r⟩ := st.1; ⟨o, hk it (by simp) o go, r⟩, let ⟨o, go, r⟩ := st.2; ⟨o, hk t (by simp) o go, r⟩⟩
  item := fun i s Q E hi st hQ => nextOf_tup_item st.1 st.2 (x := items[i]) (by simp [hi]) fun h' ti hs => hQ _ h' s.toks (by simp [hi]) ⟨ti, st.2.extBut hs.extBut hne⟩ hs
  done := fun s Q E st hE => nextOf_tup_end hh st.1 st.2 (by simp) hE
theorem meets_enumT (l : Addr) (items : Array Value) (n : Nat) (dct : Option Addr) (sl : Array (Option Value)) : Meets (Builtin.«enumerate.__new__» ⟨[.type "enumerate", .ref l], []⟩)
    (fun _ R s => s.heap.get? l = some { cls := .type "tuple", dict := dct, data := .seq items n, slots := sl } ∧
      R (.ok (.ret (.ref (s.heap.push { cls := .type "tuple_iterator", data := .fields #[.ref l, .int 0 0] }).objs.size))) { s with heap := (s.heap.push { cls := .type "tuple_iterator", data := .fields #[.ref l, .int 0 0] }).push { cls := .type "enumerate", data := .fields #[.none, .bool false, .ref s.heap.objs.size, rawInt 0, .none, .none] } }) :=
  .of_wp fun prog w A R s h => by
    obtain ⟨hp, g, d, tk, os⟩ := s
    obtain ⟨gl, h⟩ := h
    have subE := sub_enumerate
    have tup : Heap.IsTuple (Shared.heap ⟨hp, g, d, tk, os⟩) l items := ⟨_, gl, rfl, n, rfl⟩
    wp_walk using AutoSeq1.wpAny_loadPart' gl
    refine wpAny_stack_any fun st => wpAny_pure ?_
    split
    · rename_i c _ _ _ _ _
      cases (c == Value.type "enumerate")
      · wp_walk using AutoSeq1.wpAny_loadPart' gl, wpAny_pyIter_tuple tup
        exact ⟨_, rfl, h⟩
      · wp_walk using AutoSeq1.wpAny_loadPart' gl, wpAny_pyIter_tuple tup
        exact ⟨_, rfl, h⟩
    · wp_walk using AutoSeq1.wpAny_loadPart' gl, wpAny_pyIter_tuple tup
      exact ⟨_, rfl, h⟩
section
variable {prog : Program} {w : World} {A : Around} {E : Value → Shared → Prop} {s : Shared}
theorem call_enumT {l : Addr} {items : Array Value} {Q : Value → Shared → Prop} (tt : s.heap.IsTuple l items)
    (k : ∀ h', IsEnum h' (s.heap.objs.size + 1) s.heap.objs.size 0 .none → h'.IsTupleIter s.heap.objs.size l 0 → (∀ b o, s.heap.get? b = some o → h'.get? b = some o) → Q (.ref (s.heap.objs.size + 1)) { s with heap := h' }) :
    wpAny (model prog w) A (call (.type "enumerate") [.ref l]) Q E s := by
  obtain ⟨⟨c, dct, dt, sl⟩, gl, gc, n, gd⟩ := tt
  replace gc : c = .type "tuple" := gc
  replace gd : dt = .seq items n := gd
  subst gc gd
  refine callType_new F.called_enumerate (by decide) (F.typeCall_enumerate_1 _) (F.newCall_enumerate_1 _) (fun obj => F.args_object_init_2 obj _) F.entry_enumerate_new (meets_enumT l items n dct sl) ⟨gl, ?_⟩
  have sz : (s.heap.push { cls := .type "tuple_iterator", data := .fields #[.ref l, .int 0 0] }).objs.size = s.heap.objs.size + 1 := Heap.size_push ..
  show _ ∧ _
  rw [sz]
  have ge : IsEnum ((s.heap.push { cls := .type "tuple_iterator", data := .fields #[.ref l, .int 0 0] }).push { cls := .type "enumerate", data := .fields #[.none, .bool false, .ref s.heap.objs.size, rawInt 0, .none, .none] }) (s.heap.objs.size + 1) s.heap.objs.size 0 .none := by
    have q := Heap.get?_push_size (s.heap.push { cls := .type "tuple_iterator", data := .fields #[.ref l, .int 0 0] }) (o := { cls := .type "enumerate", data := .fields #[.none, .bool false, .ref s.heap.objs.size, rawInt 0, .none, .none] }) rfl
    rw [sz] at q
    exact q
  exact ⟨⟨_, ge, rfl⟩, k _ ge ⟨_, Heap.get?_push_of_some _ (Heap.get?_push_size _ rfl), rfl, rfl⟩ fun b o x => Heap.get?_push_of_some _ (Heap.get?_push_of_some _ x)⟩
end
def IteT (K : PySem.W.Frag) (a : Addr) (n : Nat) : It :=
  ⟨fun i H => ∃ (xs : List V) (x : V), SqT K H a xs ∧ xs.length = n ∧ xs[i]? = some x, fun i H v H' => ∃ T x, v = .ref T ∧ H T = none ∧ H' = upd H T (.tup [.int (i : Nat), x]) ∧ ∀ xs, SqT K H a xs → xs[i]? = some x, fun i H => ∃ xs : List V, SqT K H a xs ∧ xs.length = n ∧ n ≤ i⟩
theorem turn_enumT {P : Program} {w : World} {K : PySem.W.Frag} {elts : List Expr} {kk : Nat} {tpos : Pos} (a e it : Addr) (n : Nat) :
    Turn P w K (.Tuple elts kk tpos) (IteT K a n) [e, it] e (fun i h => (∃ old, IsEnum h e it ((i : Nat) : Int) old) ∧ h.IsTupleIter it a i ∧ e ≠ it ∧ i ≤ n) where
  mem := by simp
  obj := fun i h st b hb => by
    obtain ⟨⟨old, ge⟩, ⟨o, go, gc, gd⟩, _⟩ := st
    rcases (show b = e ∨ b = it by simpa using hb) with z | z
    · subst z
      exact ⟨_, ge, fun v q => nomatch q⟩
    · subst z
      exact ⟨o, go, fun v q => by
        rw [gd] at q
        cases q⟩
  keep := fun i h h' st k => by
    obtain ⟨⟨old, ge⟩, ⟨o, go, gr⟩, hne, hi⟩ := st
    exact ⟨⟨old, k e (by simp) _ ge⟩, ⟨o, k it (by simp) o go, gr⟩, hne, hi⟩
  item := by
    intro X hP hw hK hc i pins s σ H E I hf st hg
    subst hP hw hK
    obtain ⟨⟨old, ge⟩, ti, hne, _⟩ := st
    obtain ⟨xs, x, hq, hn, hx⟩ := hg
    obtain ⟨its, rv, tt, _⟩ := I.tuple hq
    have tt : s.heap.IsTuple a its.toArray := tt
    obtain ⟨u, hu, ru⟩ := rv.get hx
    have hel : e < s.heap.objs.size := Heap.lt_size ge
    have hil : it < s.heap.objs.size := by
      obtain ⟨_, q, _⟩ := ti
      exact Heap.lt_size q
    have ait : a ≠ it := fun z => by
      obtain ⟨o, go, gc, _⟩ := tt
      obtain ⟨o2, go2, gc2, _⟩ := ti
      subst z
      rw [go] at go2
      injection go2 with go2
      subst go2
      rw [gc] at gc2
      injection gc2 with q
      exact absurd q (by decide)
    have ae : e ≠ a := fun z => by
      obtain ⟨o, go, gc, _⟩ := tt
      subst z
      rw [show s.heap.get? e = _ from ge] at go
      injection go with go
      subst go
      injection gc with q
      exact absurd q (by decide)
    have hlen : xs.length = its.length := rv.length
    have hi : i < its.toArray.size := by
      have := (List.getElem?_eq_some_iff.mp hx).1
      simpa [← hlen] using this
    refine wpAny_pyNext_enum_itemD (drawsT (A := X.A.in1) (by exact I.ok.hd hc) it a ait its.toArray) ge ⟨ti, tt⟩ hi hne (by simp [hne, ae]) fun y h' tk hy ho hst' hT hsz hk => ?_
    have ey : y = u := by
      have h1 : its.toArray[i]? = some y := hy
      have h2 : its[i]? = some y := by simpa using h1
      rw [hu] at h2
      injection h2 with h2
      exact h2.symm
    subst ey
    refine ⟨_, rfl, wpAny_letOwnedTupleGo_enum (s := { s with heap := h', toks := tk + 1 }) ho fun h'' he' sb => ?_⟩
    have hT2 : h''.get? s.heap.objs.size = some { cls := .type "tuple", data := .seq #[.int i tk, y] } := (sb.2 _ (Nat.ne_of_gt hel)).trans hT
    have fresh : ObjOk X.prog X.w (upd H s.heap.objs.size (.tup [.int (i : Nat), x])) h'' s.heap.objs.size (.tup [.int (i : Nat), x]) := ⟨show 2 ≤ sizeLine by decide, [.int i tk, y], .cons ⟨_, rfl⟩ (.cons ru .nil), ⟨_, hT2, rfl, _, rfl⟩⟩
    have J : Inv X pins σ (upd H s.heap.objs.size (.tup [.int (i : Nat), x])) { s with heap := h'', toks := tk + 1 } :=
      I.turnedNew (ch := [e, it]) (fun b ob hb q => (sb.2 b fun z => hb (by simp [z])).trans (hk b ob (fun z => hb (by simp [z])) (fun z => hb (by simp [z])) q)) hf (Nat.le_refl _) fresh
    refine ⟨.ref s.heap.objs.size, _, J, rfl, ⟨_, x, rfl, I.hok.fresh (Nat.le_refl _), rfl, fun ys hy => by rw [I.tuple_inj hy hq]; exact hx⟩, ⟨⟨y, ?_⟩, ?_, hne, ?_⟩, fun b hb => ?_⟩
    · rw [show ((i + 1 : Nat) : Int) = (i : Int) + 1 by omega]
      exact he'
    · obtain ⟨o, go, gr⟩ := hst'.1
      exact ⟨o, (sb.2 it (Ne.symm hne)).trans go, gr⟩
    · have := (List.getElem?_eq_some_iff.mp hx).1
      omega
    · have hb' : b < s.heap.objs.size := by
        rcases (show b = e ∨ b = it by simpa using hb) with z | z <;> (rw [z]; assumption)
      rw [upd_ne (Nat.ne_of_lt hb')]
      exact (hf b hb).1
  done := by
    intro X hP hw hK hc i pins s σ H E I hf st hg
    subst hP hw hK
    obtain ⟨⟨old, ge⟩, ti, hne, hin⟩ := st
    obtain ⟨xs, hq, hn, hx⟩ := hg
    obtain ⟨its, rv, tt, _⟩ := I.tuple hq
    have tt : s.heap.IsTuple a its.toArray := tt
    have ait : a ≠ it := fun z => by
      obtain ⟨o, go, gc, _⟩ := tt
      obtain ⟨o2, go2, gc2, _⟩ := ti
      subst z
      rw [go] at go2
      injection go2 with go2
      subst go2
      rw [gc] at gc2
      injection gc2 with q
      exact absurd q (by decide)
    have hlen : xs.length = its.length := rv.length
    have ei : i = its.toArray.size := by
      rw [List.size_toArray]
      omega
    subst ei
    obtain ⟨f0, f1, f2, f3, f4, f5⟩ := hf it (by simp)
    exact wpAny_pyNext_enum_endD (drawsT (A := X.A.in1) (by exact I.ok.hd hc) it a ait its.toArray) ge ⟨ti, tt⟩ fun h' eb => ⟨rfl, I.turned (t' := s.toks) (fun b o hb q => eb b o hb q) f0 f1 f3 f4 f5⟩
  self := fun A i s Q E st h => by
    obtain ⟨⟨_, ge⟩, _⟩ := st
    exact wpAny_pyIter_enum ge h
end DL
namespace DL
open PySem PySem.Spec PyProof.Rows L2
def iEnumT (K : PySem.W.Frag) (ta : TA) : TI := fun σ H R => ta σ H fun vs H1 => ∃ a xs, vs = [.ref a] ∧ SqT K H1 a xs ∧ R (IteT K a xs.length) H1
theorem pi_enumT {X : Cx} {e : Expr} {ta : TA} {p pos tpos : Pos} {elts : List Expr} {kk : Nat} (gl : Gl X "enumerate") (nm : X.mg "enumerate" = none) (ha : PA X [e] ta) (hs : starEach [e] X.env = [(false, eval e X.env)] := by rfl) :
    PI X (.Tuple elts kk tpos) (.Call (.Name "enumerate" p) [e] [] pos) (iEnumT X.K ta) := by
  refine ⟨fun pins s σ H R I h => Call_ (ld_blt I gl nm boot_enumerate (PyProof.Rows.callWith_type1 (thn (ha.run pos pins s σ H _ I h) fun us s1 ⟨vs, H1, I1, r1, q1⟩ => ?_) hs rfl))⟩
  obtain ⟨a, xs, rfl, hq, q⟩ := q1
  cases r1 with
  | cons r rr =>
    cases rr
    cases r
    obtain ⟨its, rv, tt, _⟩ := I1.tuple hq
    refine call_enumT (show s1.heap.IsTuple a its.toArray from tt) fun h' ge ti hk => wpAny_pyIter_enum ge ?_
    have I2 : Inv X pins σ H1 { s1 with heap := h' } := I1.kept (t' := s1.toks) hk
    refine ⟨s1.heap.objs.size + 1, [s1.heap.objs.size + 1, s1.heap.objs.size], _, _, H1, rfl, I2, turn_enumT a (s1.heap.objs.size + 1) s1.heap.objs.size xs.length, ⟨⟨.none, ge⟩, ti, Nat.succ_ne_self _, Nat.zero_le _⟩, fun b hb => ?_, q⟩
    have le : s1.heap.objs.size ≤ b := by
      rcases (show b = s1.heap.objs.size + 1 ∨ b = s1.heap.objs.size by simpa using hb) with z | z
      · exact z ▸ Nat.le_succ _
      · exact z ▸ Nat.le_refl _
    exact I1.fpOk le (I1.hok.fresh le)
section
variable {X : Cx} {B : Base} {ρ : List Slot} {pos : Pos} {e tg it : Expr}
theorem ji_enumT {α β : Type} {m : R β} {xs : β → List α} {f : α → D} {ρ' : β → List Slot} {p tpos : Pos} {elts : List Expr} {kk : Nat} (hg : Gl X "enumerate") (hm : X.mg "enumerate" = none) (h : JE X B ρ e m (fun b => .val (eT f (xs b))) ρ') (hst : starEach [e] X.env = (false, eval e X.env) :: starEach [] X.env := by rfl) (hs : starEach [e] X.env = [(false, eval e X.env)] := by rfl) :
    JI X B ρ (.Tuple elts kk tpos) (.Call (.Name "enumerate" p) [e] [] pos) m (fun b => (enumL (xs b)).map (eP2 D.int f)) ρ' :=
  PI_imp (pi_enumT hg hm (pa_cons h pa_nil hst) hs) fun σ H Q ⟨G, E, q⟩ => ⟨G, E, R.post_mono q fun b q1 v G' H' x E' => by
    obtain ⟨a, vs, rfl, hS, hr⟩ := E'.top.tup_inv
    have hl : vs.length = (xs b).length := by rw [hr.len, List.length_map]
    have hl2 : ((enumL (xs b)).map (eP2 D.int f)).length = vs.length := by rw [List.length_map, enumL_len, hl]
    refine ⟨a, vs, rfl, E'.sub.t hS, q1 _ G' H' x E'.pop ⟨fun i H hi e => ⟨vs, vs[i]'(by rw [← hl2]; exact hi), e.t hS, rfl, List.getElem?_eq_getElem _⟩, fun i H hi e => ⟨vs, e.t hS, rfl, by rw [← hl2]; exact hi⟩, fun B i G1 H1 σ ρ w H' e E hy d hd => ?_⟩⟩
    obtain ⟨T, y, rfl, hT, rfl, hy⟩ := hy
    have hyi := hy vs ((e.trans E.sub).t hS)
    obtain ⟨d2, h1, h2⟩ := hr.getV hyi
    rw [List.getElem?_map, enumL_get] at hd
    rw [List.getElem?_map] at h1
    cases hx : (xs b)[i]? with
    | none =>
      rw [hx] at h1
      cases h1
    | some z =>
      rw [hx] at h1 hd
      injection h1 with h1
      injection hd with hd
      subst h1
      subst hd
      have e1 := Ex.new (o := HO.tup [.int (i : Nat), y]) (E.sub.back hT)
      exact ⟨_, e1, E.new hT _, .tup (.inl (.inl upd_same)) (.cons (.int _) (.cons (h2.ex (e.trans e1)) .nil))⟩⟩
end
end DL
namespace DL
open PySem PySem.Spec L2
def repL {α : Type} (xs : List α) (k : Int) : List α := (List.replicate k.toNat xs).flatten
theorem rp_rep {K : PySem.W.Frag} {G : Hp} {vs : List V} {ds : List D} (h : RpAll K G vs ds) : ∀ n : Nat, RpAll K G (List.replicate n vs).flatten (List.replicate n ds).flatten
  | 0 => .nil
  | n + 1 => by
    rw [List.replicate_succ, List.replicate_succ, List.flatten_cons, List.flatten_cons]
    exact h.append (rp_rep h n)
theorem map_rep {α β : Type} (f : α → β) (xs : List α) (k : Int) : (repL xs k).map f = repL (xs.map f) k := by
  unfold repL
  rw [List.map_flatten, List.map_replicate]
section
variable {X : Cx} {B : Base} {ρ : List Slot} {pos : Pos} {a b c : Expr}
theorem je_rep {α β γ : Type} {f : γ → D} {ma : R α} {xs : α → List γ} {ρa : α → List Slot} {mb : α → R β} {k : α → β → Int} {ρ' : α → β → List Slot} (ha : JE X B ρ a ma (fun x => .own 0 (oL f (xs x))) ρa) (hb : ∀ B' : Base, B'.rs = B.rs → ∀ x, JE X B' (ρa x) b (mb x) (fun y => .val (.int (k x y))) (ρ' x)) (hna : ∀ x y, noAlis (ρ' x y) = true := by intro _ _; rfl) :
    JE X B ρ (.BinOp a .Mult b pos) (ma.bind fun x => (mb x).bind fun y => (R.guard (-(2 ^ 63) ≤ k x y ∧ k x y < 2 ^ 63 ∧ (xs x).length * (k x y).toNat ≤ sizeLine)).bind fun _ => .ok (x, y)) (fun p => .own 0 (oL f (repL (xs p.1) (k p.1 p.2)))) (fun p => ρ' p.1 p.2) := by
  have hb' : PE X b (fun σ H Q => ∃ B' x, B'.rs = B.rs ∧ tJ X.K B' (ρa x) (mb x) (fun y => .val (.int (k x y))) (ρ' x) σ H Q) := ⟨fun pins s σ H Q I ⟨B', x, hB, q⟩ => (hb B' hB x).run pins s σ H Q I q⟩
  refine PE_imp (pe_op op_rep ha hb') fun σ H Q ⟨G, E, q⟩ => ⟨G, E, R.post_mono (R.post_bind.mp q) fun x q1 vx G1 H1 x1 E1 => ?_⟩
  obtain ⟨B', hB, E2, back⟩ := E1.aside
  refine ⟨B', x, hB, G1, E2, ?_⟩
  rw [hB]
  refine R.post_mono (R.post_bind.mp q1) fun y q2 vy G2 H2 x2 E3 => ?_
  have hv := E3.top.int_inv
  subst hv
  obtain ⟨⟨c1, c2, c3⟩, q3⟩ := R.post_guard (R.post_bind.mp q2)
  have E4 := back G2 H2 σ _ _ x2 E3 (hna x y)
  obtain ⟨A, cs, n, g⟩ := E4.own
  cases cs with
  | cons c0 cr =>
    cases c0 with
    | own hO hl hp =>
      cases hO with
      | @lst l vs _ A3 hH hall =>
        obtain ⟨e3, r⟩ := own_dats_inv hall
        have hlen : vs.length = (xs x).length := by rw [r.len, List.length_map]
        refine ⟨l, k x y, vs, rfl, rfl, hH, c1, c2, by rw [hlen]; exact c3, fun p hp => q3 _ G2 _ (x1.trans x2) ?_⟩
        have hr := rp_rep r (k x y).toNat
        have E5 := E4.pop.pop.newL hp hr
        have e : (List.replicate (k x y).toNat ((xs x).map f)).flatten = (repL (xs x) (k x y)).map f := by rw [map_rep]; rfl
        rw [e] at E5
        exact E5
end
def isNon : D → Bool
  | .none => true
  | _ => false
section
variable {K : PySem.W.Frag} {B : Base}
theorem Rp.isNon {G : Hp} {v : V} {d : D} (h : Rp K G v d) : decide (v = .non) = DL.isNon d := by
  cases h <;> first | rfl | (simp [DL.isNon]; done) | (rename_i z; simp [DL.isNon, z])
end
end DL
namespace DL
open PySem PySem.Spec PyProof.Rows L2
@[reducible] def eR {α : Type} (f : α → D) (l : List α) : D := .row (l.map f)
def Wk (d d' : D) : Prop := ∀ (K : PySem.W.Frag) (G : Hp) (v : V), Rp K G v d → Rp K G v d'
theorem wk_R {α : Type} (f : α → D) (xs : List α) : Wk (eR f xs) (eT f xs) := fun K G v h => by
  cases h with
  | row h d r => exact .tup (.inl (.inr ⟨_, h⟩)) r
theorem wkAll {α : Type} {f g : α → D} (h : ∀ x, Wk (f x) (g x)) : ∀ (xs : List α) {K : PySem.W.Frag} {G : Hp} {vs : List V}, RpAll K G vs (xs.map f) → RpAll K G vs (xs.map g)
  | [], _, _, _, .nil => .nil
  | x :: xs, _, _, _, .cons a r => .cons (h x _ _ _ a) (wkAll h xs r)
theorem wk_T {α : Type} {f g : α → D} (h : ∀ x, Wk (f x) (g x)) (xs : List α) : Wk (eT f xs) (eT g xs) := fun K G v a => by
  cases a with
  | tup s r => exact .tup s (wkAll h xs r)
theorem wk_L {α : Type} {f g : α → D} (h : ∀ x, Wk (f x) (g x)) (xs : List α) : Wk (eL f xs) (eL g xs) := fun K G v a => by
  cases a with
  | lst s r => exact .lst s (wkAll h xs r)
theorem Cells.wk {K : PySem.W.Frag} {B : Base} {G H : Hp} {v : V} {d d' : D} {σ : L2.St} {ρ : List Slot} {A : List Addr} (w : Wk d d') (h : Cells K B G H (some v :: σ) (.val d :: ρ) A) : Cells K B G H (some v :: σ) (.val d' :: ρ) A := by
  cases h with
  | cons c r =>
    cases c with
    | val h => exact .cons (.val (w _ _ _ h)) r
theorem En.wk {K : PySem.W.Frag} {B : Base} {G H : Hp} {v : V} {d d' : D} {σ : L2.St} {ρ : List Slot} {ex : List (V × Slot)} (w : Wk d d') (E : En K B G H σ ρ ((v, .val d) :: ex)) : En K B G H σ ρ ((v, .val d') :: ex) := by
  obtain ⟨A, c, n, g⟩ := E.own
  exact ⟨E.anc, ⟨A, Cells.wk w c, n, g⟩, E.len, E.ali⟩
section
variable {X : Cx} {B : Base} {ρ : List Slot} {pos : Pos} {e obj : Expr} {es : List Expr}
theorem je_wk {β : Type} {m : R β} {d d' : β → D} {ρ' : β → List Slot} (w : ∀ b, Wk (d b) (d' b)) (h : JE X B ρ e m (fun b => .val (d b)) ρ') : JE X B ρ e m (fun b => .val (d' b)) ρ' :=
  PE_imp h fun σ H Q ⟨G, E, q⟩ => ⟨G, E, R.post_mono q fun b k v G1 H1 x1 E1 => k v G1 H1 x1 (E1.wk (w b))⟩
def rTupF (K : PySem.W.Frag) : List V → Hp → VK → Prop := fun xs H Q => ∃ p ys, xs = [.ref p] ∧ SqL K H p ys ∧ ∀ l ob, H l = none → ob.dict = none → Q (.ref l) (upd H l (.frz ob (.tup ys)))
theorem cr_tupF : CallR X (.type "tuple") (rTupF X.K) := by
  intro pins s σ H xs us Q I r h
  obtain ⟨p, ys, rfl, hq, q⟩ := h
  obtain ⟨u, rfl, rx⟩ := vals1 r
  cases rx
  obtain ⟨its, rv, pl, hz⟩ := I.list hq
  have hlen := rv.length
  refine call_tuple_list pl.isList (fun h' kp => ?_) (by simp only [List.size_toArray] <;> omega)
  have J : Inv X pins σ H { s with heap := h' } := I.kept (t' := s.toks) kp
  have at' : (h'.push { cls := .type "tuple", data := .seq its.toArray }).get? h'.objs.size = some { cls := .type "tuple", data := .seq its.toArray } := Heap.get?_push_size _ rfl
  have J2 : Inv X pins σ (upd H h'.objs.size (.frz { cls := .type "tuple", data := .seq its.toArray } (.tup ys))) { s with heap := h'.push { cls := .type "tuple", data := .seq its.toArray } } :=
    J.laid (t' := s.toks) (fun b o e => Heap.get?_push_of_some _ e) (Nat.le_refl _) (show ObjOk X.prog X.w _ _ _ (.frz _ (.tup ys)) from ⟨at', hz, its, rv, IsTup.new _ _⟩)
  exact ⟨.ref h'.objs.size, _, J2, rfl, q _ _ (J.hok.fresh (Nat.le_refl _)) rfl⟩
theorem cb_tupF {K : PySem.W.Frag} {α : Type} {f : α → D} {xs : List α} : CbD K B ρ (rTupF K) [.val (eL f xs)] (.ok ()) (fun _ => .val (eR f xs)) := fun G H σ vs Q E ok q => by
  obtain ⟨v, rfl, r⟩ := ok.one
  obtain ⟨a, ys, rfl, hS, hr⟩ := r.lst_inv
  refine ⟨a, ys, rfl, .inl (E.sub.rd hS), fun p ob hp ho => ?_⟩
  have e := Ex.new (o := HO.frz ob (.tup ys)) (E.sub.back hp)
  exact q _ _ _ e ((E.new hp _).push (.row upd_same ho (RpAll.ex e hr)))
def tBMR (r : V → List V → Hp → VK → Prop) (to : TE) (t : TA) : TE := fun σ H Q => to σ H fun x H1 => (∃ a ob xs, x = .ref a ∧ H1 a = some (.frz ob (.tup xs)) ∧ ob.dict = none) ∧ t σ H1 fun xs H2 => r x xs H2 Q
end
end DL
namespace DL
open PySem PySem.Spec PyProof.Rows L2
section
variable {X : Cx} {B : Base} {ρ : List Slot} {pos : Pos} {e obj : Expr}
end
end DL
namespace DL
open PySem PySem.Spec L2
theorem fl_R {α : Type} {f : α → D} (h : ∀ x, Flat (f x)) (xs : List α) : Flat (eR f xs) := by
  rw [eR, Flat]
  exact FlatL.of h xs
end DL
namespace DL
open PySem PySem.Spec L2 PyProof.Rows
mutual
def pdOf : D → PyData
  | .none => .none
  | .bool b => .bool b
  | .int i => .int i
  | .str x => .str x
  | .list ds => .list (pdOfs ds)
  | .tuple ds => .tuple (pdOfs ds)
  | .row ds => .tuple (pdOfs ds)
  | .scr ns => .list (ns.map PyData.int)
  | .key ns => .tuple (ns.map PyData.int)
  | .dict _ => .none
  | .exn _ _ _ => .none
  | .ddk _ => .none
def pdOfs : List D → List PyData
  | [] => []
  | d :: ds => pdOf d :: pdOfs ds
end
mutual
def plainD : D → Bool
  | .dict _ => false
  | .exn _ _ _ => false
  | .ddk _ => false
  | .list ds => plainDs ds
  | .tuple ds => plainDs ds
  | .row ds => plainDs ds
  | .none => true
  | .bool _ => true
  | .int _ => true
  | .str _ => true
  | .scr _ => true
  | .key _ => true
def plainDs : List D → Bool
  | [] => true
  | d :: ds => plainD d && plainDs ds
end
def isRefD : D → Bool
  | .list _ => true
  | .tuple _ => true
  | .row _ => true
  | .key _ => true
  | _ => false
mutual
theorem plain_noDict : ∀ d : D, plainD d = true → (pdOf d).hasDict = false
  | .none, _ => by rw [pdOf, PyData.hasDict]
  | .bool _, _ => by rw [pdOf, PyData.hasDict]
  | .int _, _ => by rw [pdOf, PyData.hasDict]
  | .str _, _ => by rw [pdOf, PyData.hasDict]
  | .list ds, h => by
    rw [pdOf, PyData.hasDict]
    exact plains_noDict ds (by rw [plainD] at h; exact h)
  | .tuple ds, h => by
    rw [pdOf, PyData.hasDict]
    exact plains_noDict ds (by rw [plainD] at h; exact h)
  | .row ds, h => by
    rw [pdOf, PyData.hasDict]
    exact plains_noDict ds (by rw [plainD] at h; exact h)
  | .scr ns, _ => by
    rw [pdOf, PyData.hasDict]
    induction ns with
    | nil => rw [List.map_nil, PyData.hasDictAll]
    | cons n ns ih => rw [List.map_cons, PyData.hasDictAll, PyData.hasDict, ih (by rw [plainD])]; rfl
  | .key ns, _ => by
    rw [pdOf, PyData.hasDict]
    induction ns with
    | nil => rw [List.map_nil, PyData.hasDictAll]
    | cons n ns ih => rw [List.map_cons, PyData.hasDictAll, PyData.hasDict, ih (by rw [plainD])]; rfl
  | .dict _, h => by
    rw [plainD] at h
    cases h
theorem plains_noDict : ∀ ds : List D, plainDs ds = true → PyData.hasDictAll (pdOfs ds) = false
  | [], _ => by rw [pdOfs, PyData.hasDictAll]
  | d :: ds, h => by
    rw [plainDs, Bool.and_eq_true] at h
    rw [pdOfs, PyData.hasDictAll, plain_noDict d h.1, plains_noDict ds h.2]
    rfl
end
section
variable {X : Cx} {pins : List (Addr × Obj)} {σ : L2.St} {G H : Hp} {s : Shared}
theorem reads_ints (h : Heap) : ∀ (ns : List Int) (us : List Value), Vals (ns.map V.int) us → ∃ as, ReadsAll h us (ns.map PyData.int) as
  | [], _, .nil => ⟨[], .nil⟩
  | n :: ns, _, .cons r t => by
    obtain ⟨tk, rfl⟩ := r
    obtain ⟨as, q⟩ := reads_ints h ns _ t
    exact ⟨_, .cons (.int n tk) q⟩
mutual
theorem Rp.reads (I : Inv X pins σ H s) (e : Ex G H) : ∀ {v : V} {d : D}, Rp X.K G v d → ∀ {u : Value}, RelV v u → plainD d = true → ∃ as, Reads s.heap u (pdOf d) as
  | _, _, .non, u, r, _ => by
    cases r
    rw [pdOf]
    exact ⟨_, .none⟩
  | _, _, .bl b, u, r, _ => by
    cases r
    rw [pdOf]
    exact ⟨_, .bool b⟩
  | _, _, .int i, u, r, _ => by
    obtain ⟨t, rfl⟩ := r
    rw [pdOf]
    exact ⟨_, .int i t⟩
  | _, _, .str x, u, r, _ => by
    obtain ⟨t, rfl⟩ := r
    rw [pdOf]
    exact ⟨_, .str x t⟩
  | _, _, .lst h q, u, r, p => by
    cases r
    rw [pdOf]
    rw [plainD] at p
    obtain ⟨its, vs, pl, _⟩ := I.list (.inl (e.rd h))
    obtain ⟨o, n, g1, g2, g3, g4⟩ := pl
    obtain ⟨as, ra⟩ := RpAll.reads I e q vs p
    exact ⟨_, .list g1 g2 g4 (by simpa using ra)⟩
  | _, _, .tup h q, u, r, p => by
    cases r
    rw [pdOf]
    rw [plainD] at p
    obtain ⟨its, vs, ⟨o, g1, g2, n, g4⟩, _⟩ := I.tuple (e.t h)
    obtain ⟨as, ra⟩ := RpAll.reads I e q vs p
    exact ⟨_, .tuple g1 g2 g4 (by simpa using ra)⟩
  | _, _, .row h d q, u, r, p => by
    cases r
    rw [pdOf]
    rw [plainD] at p
    obtain ⟨its, vs, ⟨o, g1, g2, n, g4⟩, _⟩ := I.tuple (.inl (.inr ⟨_, e _ _ h⟩))
    obtain ⟨as, ra⟩ := RpAll.reads I e q vs p
    exact ⟨_, .tuple g1 g2 g4 (by simpa using ra)⟩
  | _, _, .scr h, u, r, _ => by
    cases r
    rw [pdOf]
    obtain ⟨its, vs, pl, _⟩ := I.list (e.l h)
    obtain ⟨o, n, g1, g2, g3, g4⟩ := pl
    obtain ⟨as, ra⟩ := reads_ints s.heap _ _ vs
    exact ⟨_, .list g1 g2 g4 (by simpa using ra)⟩
  | _, _, .key h, u, r, _ => by
    cases r
    rw [pdOf]
    obtain ⟨its, vs, ⟨o, g1, g2, n, g4⟩, _⟩ := I.tuple (.inl (.inl (e _ _ h)))
    obtain ⟨as, ra⟩ := reads_ints s.heap _ _ vs
    exact ⟨_, .tuple g1 g2 g4 (by simpa using ra)⟩
  | _, _, .dK h q, u, r, p => by
    rw [plainD] at p
    cases p
  | _, _, .dT h q, u, r, p => by
    rw [plainD] at p
    cases p
  | _, _, .ddk _ _, u, r, p => by
    rw [plainD] at p
    cases p
  | _, _, .ddt _ _, u, r, p => by
    rw [plainD] at p
    cases p
  | _, _, .exn0 _ _, u, r, p => by
    rw [plainD] at p
    cases p
  | _, _, .exn1 _ _ _ _, u, r, p => by
    rw [plainD] at p
    cases p
  | _, _, .any _, u, r, p => by
    rw [plainD] at p
    cases p
theorem RpAll.reads (I : Inv X pins σ H s) (e : Ex G H) : ∀ {vs : List V} {ds : List D}, RpAll X.K G vs ds → ∀ {us : List Value}, Vals vs us → plainDs ds = true → ∃ as, ReadsAll s.heap us (pdOfs ds) as
  | _, _, .nil, _, .nil, _ => by
    rw [pdOfs]
    exact ⟨_, .nil⟩
  | _, _, .cons h q, _, .cons r t, p => by
    rw [plainDs, Bool.and_eq_true] at p
    rw [pdOfs]
    obtain ⟨as, a⟩ := Rp.reads I e h r p.1
    obtain ⟨bs, b⟩ := RpAll.reads I e q t p.2
    exact ⟨_, .cons a b⟩
end
def repOk (d : D) : Prop := plainD d = true ∧ isRefD d = true ∧ (pdOf d).showable = true ∧ (pdOf d).shown.length ≤ sizeLine ∧ (pdOf d).depth ≤ 60
instance (d : D) : Decidable (repOk d) := by unfold repOk; exact inferInstance
def reprD (d : D) : Str := (pdOf d).shown
def rRep (K : PySem.W.Frag) : List V → Hp → VK → Prop := fun xs H Q => ∃ v G d, xs = [v] ∧ Ex G H ∧ Rp K G v d ∧ repOk d ∧ Q (.str (reprD d)) H
end
@[reducible] def eP1 {α : Type} (f : α → D) (p : α) : D := .tuple [f p]
theorem fl_P1 {α : Type} {f : α → D} (h : ∀ x, Flat (f x)) (p : α) : Flat (eP1 f p) := by
  rw [eP1, Flat, FlatL, FlatL]
  exact ⟨h p, trivial⟩
mutual
def shortD (B : Nat) : D → Prop
  | .none => True
  | .bool _ => True
  | .int i => i.natAbs < 10 ^ B
  | .list ds => shortDs B ds
  | .tuple ds => shortDs B ds
  | .row ds => shortDs B ds
  | .str _ => False
  | .scr _ => False
  | .key _ => False
  | .dict _ => False
  | .exn _ _ _ => False
  | .ddk _ => False
def shortDs (B : Nat) : List D → Prop
  | [] => True
  | d :: ds => shortD B d ∧ shortDs B ds
end
mutual
def wide (B : Nat) : D → Nat
  | .list ds => 3 + wides B ds
  | .tuple ds => 3 + wides B ds
  | .row ds => 3 + wides B ds
  | .none => B + 5
  | .bool _ => B + 5
  | .int _ => B + 5
  | .str _ => B + 5
  | .scr _ => B + 5
  | .key _ => B + 5
  | .dict _ => B + 5
  | .exn _ _ _ => B + 5
  | .ddk _ => B + 5
def wides (B : Nat) : List D → Nat
  | [] => 0
  | d :: ds => (wide B d + 2) + wides B ds
end
mutual
def deepD : D → Nat
  | .list ds => deepDs ds + 1
  | .tuple ds => deepDs ds + 1
  | .row ds => deepDs ds + 1
  | .none => 0
  | .bool _ => 0
  | .int _ => 0
  | .str _ => 0
  | .scr _ => 0
  | .key _ => 0
  | .dict _ => 0
  | .exn _ _ _ => 0
  | .ddk _ => 0
def deepDs : List D → Nat
  | [] => 0
  | d :: ds => max (deepD d) (deepDs ds)
end
theorem shown_int_len {B : Nat} (hB : 0 < B) {i : Int} (h : i.natAbs < 10 ^ B) : (PyData.shown (.int i)).length ≤ B + 1 := by
  rw [PyData.shown_int]
  show (Str.ofString (toString i)).length ≤ B + 1
  rw [PySem.ofString_length]
  exact int_text_length_le10 hB h
theorem log2_lt10 {B : Nat} (hB : B < 570) {i : Int} (h : i.natAbs < 10 ^ B) : i.natAbs.log2 < 1920 := by
  by_cases h0 : i.natAbs = 0
  · rw [h0]
    decide
  · refine (Nat.log2_lt h0).mpr (Nat.lt_of_lt_of_le h ?_)
    exact Nat.le_trans (Nat.pow_le_pow_right (by decide) (show B ≤ 570 by omega)) (by decide +kernel)
mutual
theorem shortD_ok {B : Nat} (h0 : 0 < B) (hB : B < 570) : ∀ d : D, shortD B d → plainD d = true ∧ (pdOf d).showable = true ∧ (pdOf d).depth = deepD d ∧ (pdOf d).shown.length ≤ wide B d
  | .none, h => by
    rw [plainD, pdOf, PyData.showable, PyData.depth, deepD, wide, PyData.shown_none]
    exact ⟨rfl, rfl, rfl, Nat.le_trans (show _ ≤ 5 by decide) (by omega)⟩
  | .bool b, h => by
    rw [plainD, pdOf, PyData.showable, PyData.depth, deepD, wide, PyData.shown_bool]
    refine ⟨rfl, rfl, rfl, Nat.le_trans (show _ ≤ 5 from ?_) (by omega)⟩
    cases b <;> decide
  | .int i, h => by
    rw [shortD] at h
    rw [plainD, pdOf, PyData.showable, PyData.depth, deepD, wide]
    exact ⟨rfl, decide_eq_true (log2_lt10 hB h), rfl, Nat.le_trans (shown_int_len h0 h) (by omega)⟩
  | .str _, h => by
    rw [shortD] at h
    exact h.elim
  | .scr _, h => by
    rw [shortD] at h
    exact h.elim
  | .key _, h => by
    rw [shortD] at h
    exact h.elim
  | .dict _, h => by
    rw [shortD] at h
    exact h.elim
  | .exn _ _ _, h => by
    rw [shortD] at h
    exact h.elim
  | .ddk _, h => by
    rw [shortD] at h
    exact h.elim
  | .list ds, h => by
    rw [shortD] at h
    obtain ⟨a, b, c, d⟩ := shortDs_ok h0 hB ds h
    rw [plainD, pdOf, PyData.showable, PyData.depth, deepD, wide, PyData.shown, a, b, c]
    refine ⟨rfl, rfl, rfl, Nat.le_trans (listText_len_le _) ?_⟩
    rw [PyData.shownAll_length]
    omega
  | .tuple ds, h => by
    rw [shortD] at h
    obtain ⟨a, b, c, d⟩ := shortDs_ok h0 hB ds h
    rw [plainD, pdOf, PyData.showable, PyData.depth, deepD, wide, PyData.shown, a, b, c]
    refine ⟨rfl, rfl, rfl, Nat.le_trans (tupleText_len_le _) ?_⟩
    rw [PyData.shownAll_length]
    omega
  | .row ds, h => by
    rw [shortD] at h
    obtain ⟨a, b, c, d⟩ := shortDs_ok h0 hB ds h
    rw [plainD, pdOf, PyData.showable, PyData.depth, deepD, wide, PyData.shown, a, b, c]
    refine ⟨rfl, rfl, rfl, Nat.le_trans (tupleText_len_le _) ?_⟩
    rw [PyData.shownAll_length]
    omega
theorem shortDs_ok {B : Nat} (h0 : 0 < B) (hB : B < 570) : ∀ ds : List D, shortDs B ds → plainDs ds = true ∧ PyData.showableAll (pdOfs ds) = true ∧ PyData.depthAll (pdOfs ds) = deepDs ds ∧ ((PyData.shownAll (pdOfs ds)).map (·.length)).sum + 2 * (pdOfs ds).length ≤ wides B ds
  | [], _ => by
    rw [plainDs, pdOfs, PyData.showableAll, PyData.depthAll, deepDs, wides, PyData.shownAll]
    exact ⟨rfl, rfl, rfl, Nat.le_refl _⟩
  | d :: ds, h => by
    rw [shortDs] at h
    obtain ⟨a, b, c, e⟩ := shortD_ok h0 hB d h.1
    obtain ⟨a2, b2, c2, e2⟩ := shortDs_ok h0 hB ds h.2
    rw [plainDs, pdOfs, PyData.showableAll, PyData.depthAll, deepDs, wides, PyData.shownAll, a, b, c, a2, b2, c2]
    refine ⟨rfl, rfl, rfl, ?_⟩
    rw [List.map_cons, List.sum_cons, List.length_cons]
    omega
end
end DL
namespace DL
open PySem PySem.Spec L2
theorem EqE.up {α : Type} [DecidableEq α] {n : Nat} {f : α → D} (h : EqE n f) : EqE (n + 1) f := ⟨h.lay, fun x => Nat.le_succ_of_le (h.dep x), h.eqv⟩
theorem od_neS {K : PySem.W.Frag} {B : Base} {i j : Str} : OpD K B rNe (.str i) (.str j) (.ok ()) (fun _ => .val (.bool (!decide (i = j)))) := od_val0 (w := .bl (!decide (i = j))) (fun G H vx vy Q _ hx hy q => by
  rw [hx.str_inv, hy.str_inv]
  refine ⟨rfl, ?_⟩
  have : decide (V.str i = V.str j) = decide (i = j) := decide_eq_decide.mpr ⟨fun h => by injection h, fun h => by rw [h]⟩
  rw [this]
  exact q) fun _ => .bl _
@[reducible] def eO {α : Type} (f : α → D) : Option α → D
  | .none => .none
  | .some x => f x
def NotN {α : Type} (f : α → D) : Prop := ∀ x, PyData.eqv .none (toPy (f x)) = false ∧ PyData.eqv (toPy (f x)) .none = false
end DL
namespace DL
open PySem PySem.Spec L2
section
variable {X : Cx} {B : Base} {ρ : List Slot} {e a b : Expr} {es : List Expr} {rest : List Stmt} {pos : Pos} {N L T α : Type} {F : Fin N L T}
variable {CX : CXT} {k : Nat} {f : Addr} {fd : FuncData} {ps : List Str} {EE : XK} {x : Str} {p : Pos}
theorem je_callQE {α β γ : Type} {ins : α → List Slot} {mf : α → R β} {sl : β → Slot} {outs : β → List Slot} (F : FnG X.prog X.w X.K X.mg X.base CX k f fd ps (spM X.K ins mf sl outs)) (hr : RoomG k X.A) (hg : Gl X x) (hm : X.mg x = some (.ref f)) (hk : PySem.W.keepIn X.K (.ref f) = true)
    (hb : Binds X.K fd ps []) (hx : Passes CX X EE) {ma : R γ} {as : γ → List Ar} {ρa : γ → List Slot} (arg : γ → α) (ρ' : γ × β → List Slot) (ha : JA X B ρ (e :: es) ma as ρa) (hne : ∀ e, ¬ B.rs e) (hi : ∀ c, goodIn (ρa c) (as c) = true := by intro _; rfl) (hins : ∀ c, insAt 0 (ρa c) (as c) = ins (arg c) := by intro _; rfl)
    (ho : ∀ c b, goodOut 0 (as c) (outs b) = true := by intro _ _; rfl) (hal : ∀ c, aliOk (ρa c) (as c) = true := by intro _; rfl) (hres : ∀ b, resOk (sl b) = true := by intro _; rfl) (hρ : ∀ c b, backAt (ρa c) (movedAt (ρa c) (as c)) (as c) (outs b) = ρ' (c, b) := by intro _ _; rfl)
    (hdb : (x == ("__debug__" : Str)) = false := by decide) (he : starEach (e :: es) X.env = (false, eval e X.env) :: starEach es X.env := by rfl) (hpl : (backTo pos (starEach es X.env)).any (·.1) = false := by rfl) :
    JE X B ρ (.Call (.Name x p) (e :: es) [] pos) (ma.bind fun c => (mf (arg c)).bind fun b => .ok (c, b)) (fun y => sl y.2) ρ' := by
  have h := je_call (pos := pos) (p := p) F hr hg hm hk hb hx arg ha hne hi hins ho hal hres hdb he hpl
  have e1 : (fun y : γ × β => backAt (ρa y.1) (movedAt (ρa y.1) (as y.1)) (as y.1) (outs y.2)) = ρ' := funext fun y => hρ y.1 y.2
  rw [e1] at h
  exact h
theorem je_callQ {α β : Type} {ins : α → List Slot} {mf : α → R β} {sl : β → Slot} {outs : β → List Slot} (F : FnG X.prog X.w X.K X.mg X.base CX k f fd ps (spM X.K ins mf sl outs)) (hr : RoomG k X.A) (hg : Gl X x) (hm : X.mg x = some (.ref f)) (hk : PySem.W.keepIn X.K (.ref f) = true)
    (hb : Binds X.K fd ps []) (hx : Passes CX X EE) {as : List Ar} (arg : α) (ρ' : β → List Slot) (ha : JA X B ρ (e :: es) (.ok ()) (fun _ => as) (fun _ => ρ)) (hne : ∀ e, ¬ B.rs e) (hi : goodIn ρ as = true := by rfl) (hins : insAt 0 ρ as = ins arg := by rfl)
    (ho : ∀ b, goodOut 0 as (outs b) = true := by intro _; rfl) (hal : aliOk ρ as = true := by rfl) (hres : ∀ b, resOk (sl b) = true := by intro _; rfl) (hρ : ∀ b, backAt ρ (movedAt ρ as) as (outs b) = ρ' b := by intro _; rfl)
    (hdb : (x == ("__debug__" : Str)) = false := by decide) (he : starEach (e :: es) X.env = (false, eval e X.env) :: starEach es X.env := by rfl) (hpl : (backTo pos (starEach es X.env)).any (·.1) = false := by rfl) :
    JE X B ρ (.Call (.Name x p) (e :: es) [] pos) (mf arg) sl ρ' := by
  have h := je_callP (pos := pos) (p := p) F hr hg hm hk hb hx arg ha hne hi hins ho hal hres hdb he hpl
  have e1 : (fun y => backAt ρ (movedAt ρ as) as (outs y)) = ρ' := funext hρ
  rw [e1] at h
  exact h
theorem js_setEQ (i : Nat) {x : Str} {pos' : Pos} (en : α → D) {β : Type} {m : R β} (v : β → α) {ρ' : β → List Slot} (ρ2 : β → α → List Slot) {k : β → α → R (Fl N L T)} (hN : X.N.Nodup) (h : JE X B ρ e m (fun b => .val (en (v b))) ρ') (r : ∀ b x, JSs X B (ρ2 b x) rest (k b x) F) (hq : ∀ b x, (ρ' b).set i (.val (en x)) = ρ2 b x := by intro _ _; rfl) (hi : X.N[i]? = some x := by rfl) (hx : Loc X.env.scope x := by first | exact Or.inl rfl | exact Or.inr rfl)
    (hlt : ∀ b, i < (ρ' b).length := by intro _; exact of_decide_eq_true rfl) (hal : ∀ b, noAli i (ρ' b) = true := by intro _; rfl) (hs : swapsWith e (some (.Name x pos')) pos.line X.env = pure false := by rfl) (hf : X.fn x = true ∨ X.env.scope.names.lookup x = some .local := by first | exact .inl rfl | exact .inr rfl) :
    JSs X B ρ (.Assign [.Name x pos'] e pos :: rest) (m.bind fun b => lt (v b) (k b)) F :=
  js_setE i en v hN h (fun b x => by rw [hq b x]; exact r b x) hi hx hlt hal hs hf
theorem js_setOQ (i : Nat) {x : Str} {pos' : Pos} (on : α → OT) {β : Type} {m : R β} (v : β → α) {ρ' : β → List Slot} (ρ2 : β → α → List Slot) {k : β → α → R (Fl N L T)} (hN : X.N.Nodup) (h : JE X B ρ e m (fun b => .own 0 (on (v b))) ρ') (r : ∀ b x, JSs X B (ρ2 b x) rest (k b x) F) (hq : ∀ b x, (ρ' b).set i (.own 0 (on x)) = ρ2 b x := by intro _ _; rfl) (hi : X.N[i]? = some x := by rfl) (hx : Loc X.env.scope x := by first | exact Or.inl rfl | exact Or.inr rfl)
    (hlt : ∀ b, i < (ρ' b).length := by intro _; exact of_decide_eq_true rfl) (hal : ∀ b, noAli i (ρ' b) = true := by intro _; rfl) (hs : swapsWith e (some (.Name x pos')) pos.line X.env = pure false := by rfl) (hf : X.fn x = true ∨ X.env.scope.names.lookup x = some .local := by first | exact .inl rfl | exact .inr rfl) :
    JSs X B ρ (.Assign [.Name x pos'] e pos :: rest) (m.bind fun b => lt (v b) (k b)) F :=
  js_setO i on v hN h (fun b x => by rw [hq b x]; exact r b x) hi hx hlt hal hs hf
theorem js_consQ1 {st : Stmt} {β : Type} {m : R β} {ρ' : β → List Slot} (ρ2 : β → List Slot) {k : β → R (Fl N L T)} (h : J1 X B ρ st m ρ') (r : ∀ b, JSs X B (ρ2 b) rest (k b) F) (hq : ∀ b, ρ' b = ρ2 b := by intro _; rfl) : JSs X B ρ (st :: rest) (m.bind k) F :=
  js_cons1 h fun b => by rw [hq b]; exact r b
end
end DL
namespace DL
open PySem PySem.Spec L2
section
variable {X : Cx} {B : Base} {ρ : List Slot} {N L T : Type}
end
end DL
namespace DL
open PySem PySem.Spec L2
instance (a b : Int) : Decidable (RgOk a b) := by unfold RgOk; infer_instance
section
variable {β : Type}
@[reducible] def odK (f : β → D) (kvs : List (Int × β)) : OT := .dk (kvs.map fun p => (Sum.inl p.1, f p.2))
def hasK (k : Int) (kvs : List (Int × β)) : Bool := kvs.any fun p => decide (p.1 = k)
def putI (kvs : List (Int × β)) (k : Int) (v : β) : List (Int × β) := if hasK k kvs = true then kvs.map (fun p => if p.1 = k then (p.1, v) else p) else kvs ++ [(k, v)]
def mergeI (kvs more : List (Int × β)) : List (Int × β) := more.foldl (fun acc p => putI acc p.1 p.2) kvs
end
section
variable {K : PySem.W.Frag} {G : Hp} {β : Type} {f : β → D}
theorem rpe_len {kvs : List (Key × V)} {ds : List (Key × D)} (h : RpE K G kvs ds) : kvs.length = ds.length := by
  induction h with
  | nil => rfl
  | cons _ _ ih => rw [List.length_cons, List.length_cons, ih]
theorem rpe_append {kvs kws : List (Key × V)} {ds es : List (Key × D)} (h : RpE K G kvs ds) (h2 : RpE K G kws es) : RpE K G (kvs ++ kws) (ds ++ es) := by
  induction h with
  | nil => exact h2
  | cons h _ ih => exact .cons h ih
theorem valV_some (k : Key) (kvs : List (Key × V)) : (valV kvs k).isSome = kvs.any fun kv => decide (kv.1 = k) := (valV_any k kvs).symm
end
section
variable {K : PySem.W.Frag} {B : Base} {G H : Hp} {σ : L2.St} {ρ : List Slot} {ex : List (V × Slot)}
theorem En.newDK (E : En K B G H σ ρ ex) {p : Addr} (hp : H p = none) {kvs : List (Key × V)} {ds : List (Key × D)} (r : RpE K G kvs ds) : En K B G (upd H p (.dK kvs)) σ ρ ((.ref p, .own 0 (.dk ds)) :: ex) := by
  obtain ⟨A, c, n, f⟩ := E.own
  have hG := E.sub.back hp
  have h0 := E.fresh hp
  have hn : p ∉ A := fun m => by
    obtain ⟨u, hu⟩ := c.there p m
    rw [hu] at hp
    cases hp
  refine ⟨E.anc.put hG (.inr h0) _, ⟨p :: ([] ++ A), .cons (A := [p]) (.own (.dk upd_same r) (fun a m => by
      rw [List.mem_singleton.mp m]
      exact .inr h0) (.inl rfl)) (c.ex (Ex.refl G) fun a m u e => by
      rw [upd_ne (ne_of_none e hp)]
      exact e), ?_, fun a m => ?_⟩, E.len, fun i j q e => ?_⟩
  · exact List.nodup_cons.mpr ⟨hn, n⟩
  · rcases List.mem_cons.mp m with rfl | m
    · exact hG
    · exact f a m
  · obtain ⟨v, w, h1, h2, h3⟩ := E.ali i j q e
    exact ⟨v, w, h1, h2, h3.ex (Ex.new hp)⟩
theorem En.ownDK (E : En K B G H σ ρ ex) {i l : Nat} {ds : List (Key × D)} (h : ρ[i]? = some (.own l (.dk ds))) (hal : noAlis ρ = true) : ∃ p kvs, σ[i]? = some (some (.ref p)) ∧ H p = some (.dK kvs) ∧ RpE K G kvs ds ∧
    ∀ kvs' ds', RpE K G kvs' ds' → En K B G (upd H p (.dK kvs')) σ (ρ.set i (.own l (.dk ds'))) ex := by
  obtain ⟨A0, c, n, g⟩ := E.own
  have hi : i < ρ.length := (List.getElem?_eq_some_iff.mp h).1
  have h' : (ex.map (·.2) ++ ρ)[ex.length + i]? = some (.own l (.dk ds)) := by
    rw [List.getElem?_append_right (by simp), List.length_map]
    simpa using h
  obtain ⟨v, A, A2, e1, hO, ⟨hl, hp⟩, c2, pm⟩ := c.take1 h'
  rw [List.getElem?_append_right (by simp), List.length_map] at e1
  have e1 : σ[i]? = some (some v) := by simpa using e1
  have nn := pm.nodup_iff.mp n
  have n1 := List.nodup_append.mp nn
  cases hO with
  | @dk a kvs _ ha hr =>
    refine ⟨a, kvs, e1, ha, hr, fun kvs' ds' r' => ?_⟩
    have hG : G a = none := g a (pm.mem_iff.mpr (List.mem_append_left _ List.mem_cons_self))
    have c3 : Cells K B G (upd H a (.dK kvs')) (ex.map (fun p => some p.1) ++ σ) ((ex.map (·.2) ++ ρ).set (ex.length + i) .non) A2 := c2.ex (Ex.refl G) fun b m u e => by
      rw [upd_ne (fun z => by
        subst z
        exact n1.2.2 b List.mem_cons_self b m rfl)]
      exact e
    obtain ⟨A8, c8, p8⟩ := c3.put1 (i := ex.length + i) (l := l) (o := .dk ds') (v := .ref a) (A1 := [a]) (by
      rw [List.getElem?_set_self]
      rw [List.length_append, List.length_map]
      omega) (by
      rw [List.getElem?_append_right (by simp), List.length_map]
      simpa using e1) (.dk upd_same r') ⟨hl, hp⟩
    rw [List.set_set, List.set_append_right _ _ (by simp), List.length_map, Nat.add_sub_cancel_left] at c8
    refine ⟨E.anc.put hG ((hl a List.mem_cons_self).elim (fun z => .inl ⟨l, z⟩) .inr) _, ⟨A8, c8, p8.nodup_iff.mpr nn, fun b m => g b (pm.mem_iff.mpr (p8.mem_iff.mp m))⟩, by rw [List.length_set]; exact E.len, fun k j q e => ?_⟩
    by_cases hk : i = k
    · subst hk
      rw [List.getElem?_set_self hi] at e
      cases e
    · rw [List.getElem?_set_ne hk] at e
      exact absurd e (noAlis_get hal)
end
section
variable {X : Cx} {B : Base} {ρ : List Slot} {e a b o2 val : Expr} {es : List Expr} {pos pos' : Pos} {β γ : Type}
def rDictP (K : PySem.W.Frag) : List V → Hp → VK → Prop := fun xs H Q => ∃ (a : Addr) (ps : List Addr) (kvs : List (Key × V)), xs = [.ref a] ∧ SqL K H a (ps.map V.ref) ∧ Paired (fun p kv => SqT K H p [kV kv.1, kv.2]) ps kvs ∧
    ∀ p, H p = none → Q (.ref p) (upd H p (.dK (mergeK [] kvs)))
theorem paired_ex {K : PySem.W.Frag} {G H : Hp} (e : Ex G H) : ∀ {ps : List Addr} {kvs : List (Key × V)}, Paired (fun p kv => SqT K G p [kV kv.1, kv.2]) ps kvs → Paired (fun p kv => SqT K H p [kV kv.1, kv.2]) ps kvs
  | _, _, .nil => .nil
  | _, _, .cons h r => .cons (e.t h) (paired_ex e r)
def sortI (ns : List Int) : List Int := ns.mergeSort (fun a b => decide (a ≤ b))
end
end DL
namespace DL
open PySem PySem.Spec L2
section
variable {X : Cx} {B : Base} {ρ : List Slot} {pos : Pos}
end
end DL
namespace DL
open PySem PySem.Spec L2
def rExt3 : V → List V → Hp → VK → Prop := fun x vs H Q => ∃ l b xs zs, x = .ref l ∧ vs = [.ref b] ∧ H l = some (.lst xs) ∧ Rd H b (.lst zs) ∧ xs.length + zs.length ≤ sizeLine ∧ Q .non (upd H l (.lst (xs ++ zs)))
section
variable {X : Cx} {B : Base} {ρ : List Slot} {pos : Pos} {e : Expr}
end
end DL
namespace DL
open PySem PySem.Spec L2
def labFree (L : Nat) : List Slot → Bool
  | [] => true
  | .own l _ :: r => l != L && labFree L r
  | _ :: r => labFree L r
def labFree1 (L : Nat) : Slot → Bool
  | .own l _ => l != L
  | _ => true
theorem labFree_cons {L : Nat} {s : Slot} {r : List Slot} : labFree L (s :: r) = (labFree1 L s && labFree L r) := by
  cases s <;> simp [labFree, labFree1]
def Base.pin (B : Base) (L : Nat) (hL : L ≠ 0) (A : List Addr) (v : V) : Base :=
  { B with Mo := fun l => if l = L then B.Mo l ++ A else B.Mo l, m0 := by rw [if_neg (fun h => hL h.symm)]; exact B.m0, pv := fun l => if l = L then some v else B.pv l }
section
variable {K : PySem.W.Frag} {B : Base} {G H : Hp} {σ : L2.St} {ρ : List Slot} {ex : List (V × Slot)} {L : Nat} {hL : L ≠ 0} {A : List Addr} {v : V}
theorem Anc.pin (h : Anc B G H) (hA : ∀ a ∈ A, H a ≠ none) : Anc (B.pin L hL A v) G H := by
  refine ⟨fun a o hm e => h.keep a o (fun l m => hm l ?_) e, fun a l m => ?_, h.gsub, h.gnew, h.sub⟩
  · show a ∈ (if l = L then B.Mo l ++ A else B.Mo l)
    split
    · exact List.mem_append_left _ m
    · exact m
  · have m : a ∈ (if l = L then B.Mo l ++ A else B.Mo l) := m
    split at m
    · rcases List.mem_append.mp m with m | m
      · exact h.there a l m
      · exact hA a m
    · exact h.there a l m
theorem Anc.unpin (h : Anc (B.pin L hL A v) G H) (h0 : ∀ a ∈ A, B.H0 a = none) : Anc B G H := by
  refine ⟨fun a o hm e => h.keep a o (fun l m => ?_) e, fun a l m => h.there a l ?_, h.gsub, h.gnew, h.sub⟩
  · have m : a ∈ (if l = L then B.Mo l ++ A else B.Mo l) := m
    split at m
    · rcases List.mem_append.mp m with m | m
      · exact hm l m
      · rw [h0 a m] at e
        cases e
    · exact hm l m
  · show a ∈ (if l = L then B.Mo l ++ A else B.Mo l)
    split
    · exact List.mem_append_left _ m
    · exact m
theorem Cell.pin {x : Option V} {s : Slot} {A1 : List Addr} (h : Cell K B G H x s A1) (hf : labFree1 L s = true) : Cell K (B.pin L hL A v) G H x s A1 := by
  cases h with
  | non => exact .non
  | val r => exact .val r
  | ali => exact .ali
  | @own w l o _ hO hr hp =>
    have hl : l ≠ L := by simpa [labFree1] using hf
    refine .own hO (fun a m => ?_) (hp.imp id fun z => ?_)
    · rcases hr a m with z | z
      · refine .inl ?_
        show a ∈ (if l = L then B.Mo l ++ A else B.Mo l)
        rw [if_neg hl]
        exact z
      · exact .inr z
    · show (if l = L then some v else B.pv l) = _
      rw [if_neg hl]
      exact z
theorem Cell.unpin {x : Option V} {s : Slot} {A1 : List Addr} (h : Cell K (B.pin L hL A v) G H x s A1) (hf : labFree1 L s = true) : Cell K B G H x s A1 := by
  cases h with
  | non => exact .non
  | val r => exact .val r
  | ali => exact .ali
  | @own w l o _ hO hr hp =>
    have hl : l ≠ L := by simpa [labFree1] using hf
    refine .own hO (fun a m => ?_) (hp.imp id fun z => ?_)
    · rcases hr a m with z | z
      · refine .inl ?_
        have z : a ∈ (if l = L then B.Mo l ++ A else B.Mo l) := z
        rw [if_neg hl] at z
        exact z
      · exact .inr z
    · have z : (if l = L then some v else B.pv l) = some w := z
      rw [if_neg hl] at z
      exact z
theorem Cells.pin : ∀ {τ : List (Option V)} {r : List Slot} {A1 : List Addr}, Cells K B G H τ r A1 → labFree L r = true → Cells K (B.pin L hL A v) G H τ r A1
  | _, _, _, .nil, _ => .nil
  | _, _, _, .cons c r, hf => by
    rw [labFree_cons, Bool.and_eq_true] at hf
    exact .cons (c.pin hf.1) (Cells.pin r hf.2)
theorem Cells.unpin : ∀ {τ : List (Option V)} {r : List Slot} {A1 : List Addr}, Cells K (B.pin L hL A v) G H τ r A1 → labFree L r = true → Cells K B G H τ r A1
  | _, _, _, .nil, _ => .nil
  | _, _, _, .cons c r, hf => by
    rw [labFree_cons, Bool.and_eq_true] at hf
    exact .cons (c.unpin hf.1) (Cells.unpin r hf.2)
theorem labFree_set : ∀ {r : List Slot} {i : Nat} {s : Slot}, labFree L r = true → labFree1 L s = true → labFree L (r.set i s) = true
  | [], _, _, _, _ => rfl
  | x :: r, 0, s, h, k => by
    rw [labFree_cons, Bool.and_eq_true] at h
    rw [List.set_cons_zero, labFree_cons, k, h.2]
    rfl
  | x :: r, i + 1, s, h, k => by
    rw [labFree_cons, Bool.and_eq_true] at h
    rw [List.set_cons_succ, labFree_cons, h.1, labFree_set h.2 k]
    rfl
theorem En.pin (E : En K B G H σ ρ []) {i : Nat} {o : OT} (h : ρ[i]? = some (.own 0 o)) (hf : labFree L ρ = true) (hal : noAlis ρ = true) (hL : L ≠ 0) :
    ∃ B' : Base, B'.rs = B.rs ∧ En K B' G H σ (ρ.set i (.own L o)) [] ∧ ∀ G1 H1 σ1 ρ1 ex1, En K B' G1 H1 σ1 ρ1 ex1 → labFree L (ex1.map (·.2) ++ ρ1) = true → En K B G1 H1 σ1 ρ1 ex1 := by
  obtain ⟨A0, c, n, g⟩ := E.own
  have c : Cells K B G H σ ρ A0 := c
  obtain ⟨v, A, A2, e1, hO, ⟨hl, hp⟩, c2, pm⟩ := Cells.take1 c h
  have hi : i < ρ.length := (List.getElem?_eq_some_iff.mp h).1
  have h0 : ∀ a ∈ A, B.H0 a = none := fun a m => (hl a m).resolve_left (by rw [B.m0]; exact fun z => nomatch z)
  have c3 : Cells K (B.pin L hL A v) G H σ (ρ.set i .non) A2 := Cells.pin c2 (labFree_set hf rfl)
  obtain ⟨A3, c4, p4⟩ := c3.put1 (i := i) (l := L) (o := o) (v := v) (A1 := A) (by rw [List.getElem?_set_self hi]) e1 hO ⟨fun a m => .inl (by
    show a ∈ (if L = L then B.Mo L ++ A else B.Mo L)
    rw [if_pos rfl]
    exact List.mem_append_right _ m), .inr (by
    show (if L = L then some v else B.pv L) = some v
    rw [if_pos rfl])⟩
  rw [List.set_set] at c4
  have pp : A3.Perm A0 := p4.trans pm.symm
  refine ⟨B.pin L hL A v, rfl, ⟨E.anc.pin fun a m z => ?_, ⟨A3, c4, pp.nodup_iff.mpr n, fun a m => g a (pp.mem_iff.mp m)⟩, by rw [List.length_set]; exact E.len, fun k j p e => ?_⟩, fun G1 H1 σ1 ρ1 ex1 E1 hf1 => ?_⟩
  · obtain ⟨u, hu⟩ := hO.there a m
    rw [hu] at z
    cases z
  · by_cases hk : i = k
    · subst hk
      rw [List.getElem?_set_self hi] at e
      cases e
    · rw [List.getElem?_set_ne hk] at e
      exact absurd e (noAlis_get hal)
  · obtain ⟨A5, c5, n5, g5⟩ := E1.own
    exact ⟨E1.anc.unpin h0, ⟨A5, Cells.unpin c5 hf1, n5, g5⟩, E1.len, E1.ali⟩
end
section
variable {X : Cx} {B : Base} {ρ : List Slot} {pos : Pos} {tg : Expr}
end
end DL
namespace DL
open PySem PySem.Spec L2
section
variable {K : PySem.W.Frag} {B : Base} {G H : Hp} {σ : L2.St} {ρ : List Slot} {ex : List (V × Slot)}
theorem Cells.snoc {x : Option V} {s : Slot} {A1 : List Addr} : ∀ {σ : L2.St} {ρ : List Slot} {A : List Addr}, Cells K B G H σ ρ A → Cell K B G H x s A1 → Cells K B G H (σ ++ [x]) (ρ ++ [s]) (A ++ A1)
  | _, _, _, .nil, h => by
    have := Cells.cons h (Cells.nil (K := K) (B := B) (G := G) (H := H))
    rw [List.append_nil] at this
    exact this
  | _, _, _, .cons c r, h => by
    rw [List.append_assoc]
    exact .cons c (Cells.snoc r h)
theorem Cells.unsnoc : ∀ {σ : L2.St} {ρ : List Slot} {x : Option V} {s : Slot} {A : List Addr}, Cells K B G H (σ ++ [x]) (ρ ++ [s]) A → σ.length = ρ.length → ∃ A', Cells K B G H σ ρ A' ∧ A'.Sublist A
  | [], [], _, _, _, _, _ => ⟨[], .nil, List.nil_sublist _⟩
  | _ :: σ, _ :: ρ, _, _, _, .cons (A := A1) c r, hl => by
    obtain ⟨A', h1, h2⟩ := Cells.unsnoc (σ := σ) (ρ := ρ) r (by simpa using hl)
    exact ⟨A1 ++ A', .cons c h1, h2.append_left _⟩
  | [], _ :: _, _, _, _, _, hl => by simp at hl
  | _ :: _, [], _, _, _, _, hl => by simp at hl
theorem En.toSlot {v : V} {o : OT} (E : En K B G H σ ρ [(v, .own 0 o)]) (hal : noAlis ρ = true) : En K B G H (σ ++ [some v]) (ρ ++ [.own 0 o]) [] := by
  obtain ⟨A0, c, n, g⟩ := E.own
  cases c with
  | @cons _ _ A1 _ _ A2 c1 cr =>
    have c3 := Cells.snoc (show Cells K B G H σ ρ A2 from cr) c1
    have pm : (A2 ++ A1).Perm (A1 ++ A2) := List.perm_append_comm
    refine ⟨E.anc, ⟨A2 ++ A1, c3, pm.nodup_iff.mpr n, fun a m => g a (pm.mem_iff.mp m)⟩, by simp [E.len], fun k j p e => ?_⟩
    by_cases hk : k < ρ.length
    · rw [List.getElem?_append_left hk] at e
      exact absurd e (noAlis_get hal)
    · rw [List.getElem?_append_right (by omega)] at e
      match h : k - ρ.length, e with
      | 0, e => simp at e
      | _ + 1, e => simp at e
theorem En.dropSlot {x : Option V} {s : Slot} {v : V} {s' : Slot} (E : En K B G H (σ ++ [x]) (ρ ++ [s]) [(v, s')]) (hal : noAlis ρ = true) (hl : σ.length = ρ.length) : En K B G H σ ρ [(v, s')] := by
  obtain ⟨A0, c, n, g⟩ := E.own
  cases c with
  | @cons _ _ A1 _ _ A2 c1 cr =>
    obtain ⟨A', h1, h2⟩ := Cells.unsnoc (show Cells K B G H (σ ++ [x]) (ρ ++ [s]) A2 from cr) hl
    have sub : (A1 ++ A').Sublist (A1 ++ A2) := h2.append_left A1
    exact ⟨E.anc, ⟨A1 ++ A', .cons c1 h1, sub.nodup n, fun a m => g a (sub.subset m)⟩, hl, fun k j p e => absurd e (noAlis_get hal)⟩
theorem insAt_vals : ∀ {as : List Ar} {n : Nat} {ρ ρ' : List Slot}, noSlots as = true → insAt n ρ as = insAt n ρ' as
  | [], _, _, _, _ => by rw [insAt, insAt]
  | .val d :: as, n, ρ, ρ', h => by
    rw [insAt, insAt, insAt_vals (as := as) (ρ := ρ) (ρ' := ρ') h]
theorem goodIn_vals : ∀ {as : List Ar} {ρ : List Slot}, noSlots as = true → goodIn ρ as = true
  | [], _, _ => by rw [goodIn]
  | .val d :: as, ρ, h => by
    rw [goodIn]
    exact goodIn_vals (as := as) h
theorem ArOk.re {σ' : L2.St} : ∀ {vs : List V} {as : List Ar}, ArOk K G σ vs as → noSlots as = true → ArOk K G σ' vs as
  | _, _, .nil, _ => .nil
  | _, _, .val r q, h => .val r (ArOk.re q h)
theorem noAlis_snoc : ∀ {ρ : List Slot} {l : Nat} {o : OT}, noAlis ρ = true → noAlis (ρ ++ [.own l o]) = true
  | [], _, _, _ => rfl
  | s :: ρ, l, o, h => by
    cases s with
    | ali _ _ => simp [noAlis] at h
    | non => exact noAlis_snoc (ρ := ρ) h
    | val _ => exact noAlis_snoc (ρ := ρ) h
    | own _ _ => exact noAlis_snoc (ρ := ρ) h
end
section
variable {X : Cx} {B : Base} {ρ : List Slot} {e0 : Expr} {es : List Expr} {pos : Pos} {CX : CXT} {k : Nat} {f : Addr} {fd : FuncData} {ps : List Str} {EE : XK} {x : Str} {p : Pos}
theorem je_callT {α β γ : Type} {ins : α → List Slot} {mf : α → R β} {sl : β → Slot} {outs : β → List Slot} (F : FnG X.prog X.w X.K X.mg X.base CX k f fd ps (spM X.K ins mf sl outs)) (hr : RoomG k X.A) (hg : Gl X x) (hm : X.mg x = some (.ref f)) (hk : PySem.W.keepIn X.K (.ref f) = true)
    (hb : Binds X.K fd ps []) (hx : Passes CX X EE) {m0 : R γ} {o : γ → OT} {ρa : γ → List Slot} {as : γ → List Ar} (arg : γ → α) (he0 : JE X B ρ e0 m0 (fun c => .own 0 (o c)) ρa) (has : ∀ B' : Base, B'.rs = B.rs → ∀ c, JA X B' (ρa c) es (.ok ()) (fun _ => as c) (fun _ => ρa c)) (hne : ∀ e, ¬ B.rs e)
    (hns : ∀ c, noSlots (as c) = true := by intro _; rfl) (hins : ∀ c, insAt 0 [.own 0 (o c)] (.slot 0 :: as c) = ins (arg c) := by intro _; rfl)
    (ho : ∀ c b, goodOut 0 (.slot 0 :: as c) (outs b) = true := by intro _ _; rfl) (hal : ∀ c, noAlis (ρa c) = true := by intro _; rfl) (hres : ∀ b, resOk (sl b) = true := by intro _; rfl)
    (hdb : (x == ("__debug__" : Str)) = false := by decide) (he : starEach (e0 :: es) X.env = (false, eval e0 X.env) :: starEach es X.env := by rfl) (hpl : (backTo pos (starEach es X.env)).any (·.1) = false := by rfl) :
    JE X B ρ (.Call (.Name x p) (e0 :: es) [] pos) (m0.bind fun c => (mf (arg c)).bind fun b => .ok (c, b)) (fun y => sl y.2) (fun y => ρa y.1) := by
  have has' : PA X es (fun σ H Q => ∃ B' c, B'.rs = B.rs ∧ tJA X.K B' (ρa c) (.ok ()) (fun _ : Unit => as c) (fun _ => ρa c) σ H Q) := ⟨fun ps pins s σ H Q I ⟨B', c, hB, q⟩ => (has B' hB c).run ps pins s σ H Q I q⟩
  refine PE_imp (pe_callG F hr hg hm hk hb hx (pa_cons he0 has' he) hdb he hpl) fun σ H Q ⟨G, E, q⟩ => ⟨G, E, R.post_mono (R.post_bind.mp q) fun c k v G1 H1 x1 E1 => ?_⟩
  obtain ⟨B', hB, E2, back⟩ := E1.aside
  refine ⟨B', c, hB, G1, E2, fun vs G2 H2 x2 E3 ok => ?_⟩
  show spM X.K ins mf sl outs ((v :: vs) ++ []) H2 Q EE
  rw [List.append_nil]
  have E4 := back G2 H2 σ (ρa c) [] x2 E3 (hal c)
  have hl : σ.length = (ρa c).length := E4.len
  have E5 := E4.toSlot (hal c)
  have n0 : (ρa c ++ [Slot.own 0 (o c)])[(ρa c).length]? = some (.own 0 (o c)) := by
    rw [List.getElem?_append_right (Nat.le_refl _), Nat.sub_self]
    rfl
  have s0 : (σ ++ [some v])[(ρa c).length]? = some (some v) := by
    rw [← hl, List.getElem?_append_right (Nat.le_refl _), Nat.sub_self]
    rfl
  have ok5 : ArOk X.K G2 (σ ++ [some v]) (v :: vs) (.slot (ρa c).length :: as c) := .slot s0 (ok.re (hns c))
  refine call_sp (arg c) E5 ok5 ?_ ?_ (fun b => ?_) ?_ hres hne (R.post_mono (R.post_bind.mp k) fun b k v' G3 H3 x3 E6 => k v' G3 H3 (x1.trans (x2.trans x3)) ?_)
  · rw [goodIn, n0, goodIn_vals (hns c)]
    rfl
  · rw [← hins c, insAt, insAt, n0, insAt_vals (hns c) (ρ := (ρa c ++ [Slot.own 0 (o c)]).set (ρa c).length .non) (ρ' := [Slot.own 0 (o c)].set 0 .non)]
    rfl
  · have := ho c b
    rw [← this]
    cases outs b with
    | nil => rfl
    | cons s os => rfl
  · unfold aliOk
    rw [noAlis_snoc (hal c), Bool.or_true]
  · have e2 : ∀ os : List Slot, ∃ s', backAt (ρa c ++ [Slot.own 0 (o c)]) (movedAt (ρa c ++ [Slot.own 0 (o c)]) (.slot (ρa c).length :: as c)) (.slot (ρa c).length :: as c) os = ρa c ++ [s'] := fun os => by
      rw [movedAt, movedAt_noSlots (hns c)]
      have e3 : ∀ t : Slot, (ρa c ++ [Slot.own 0 (o c)]).set (ρa c).length t = ρa c ++ [t] := fun t => by
        rw [List.set_append_right _ _ (Nat.le_refl _), Nat.sub_self]
        rfl
      cases os with
      | nil =>
        rw [backAt, e3]
        · exact ⟨_, rfl⟩
        · exact fun h => nomatch h
      | cons s os =>
        rw [backAt, backAt_noSlots (hns c), e3, List.set_append_right _ _ (Nat.le_refl _), Nat.sub_self]
        exact ⟨_, rfl⟩
    obtain ⟨s', e4⟩ := e2 (outs b)
    rw [e4] at E6
    exact E6.dropSlot (hal c) hl
end
section
variable {X : Cx} {B : Base} {ρ : List Slot} {pos : Pos} {a : Expr} {β : Type}
theorem je_nameO (i : Nat) {x : Str} {o : OT} (h : ρ[i]? = some (.own 0 o) := by rfl) (hal : noAlis ρ = true := by rfl) (hN : X.N[i]? = some x := by rfl) (hv : Vis X.env.scope x := by first | exact Or.inl rfl | exact Or.inr (Or.inl rfl) | exact Or.inr (Or.inr rfl))
    (hd : (x == ("__debug__" : Str)) = false := by decide) (hcd : (x == ("__classdict__" : Str)) = false := by decide) : JE X B ρ (.Name x pos) (.ok ()) (fun _ => .own 0 o) (fun _ => ρ.set i .non) :=
  PE_imp (pv i hN hv hd hcd) fun σ H Q ⟨G, E, q⟩ => by
    obtain ⟨A, c, n, g⟩ := E.own
    obtain ⟨v, A1, A2, e1, hO, hl, c2, pm⟩ := Cells.take1 (show Cells X.K B G H σ ρ A from c) h
    exact ⟨v, e1, q v G H (Ex.refl _) ⟨E.anc, ⟨A1 ++ A2, .cons (.own hO hl.1 hl.2) c2, pm.nodup_iff.mp n, fun a m => g a (pm.mem_iff.mpr m)⟩, by rw [List.length_set]; exact E.len, fun k j p e => by
      by_cases hk : i = k
      · subst hk
        rw [List.getElem?_set_self (List.getElem?_eq_some_iff.mp h).1] at e
        cases e
      · rw [List.getElem?_set_ne hk] at e
        exact absurd e (noAlis_get hal)⟩⟩
end
end DL
namespace HT
open PySem PySem.Spec PyProof.Rows
section
variable {prog : Program} {w : World} {A : Around} {E : Value → Shared → Prop} {s : Shared}
end
end HT
namespace L2
open PySem PySem.Spec PyProof.Rows
section
variable {X : Cx}
def tRevT (K : PySem.W.Frag) (j : Nat) (te : TE) : TE := fun σ H Q => te σ H fun x H1 => ∃ a xs, x = .ref a ∧ SqT K H1 a xs ∧ j ≤ xs.length ∧ ∀ p, H1 p = none → Q (.ref p) (upd H1 p (.tup (xs.drop j).reverse))
end
end L2
namespace DL
open PySem PySem.Spec L2
section
variable {X : Cx} {B : Base} {ρ : List Slot} {pos : Pos} {a : Expr} {β α : Type} {K : PySem.W.Frag}
end
end DL
namespace DL
def nub : List Int → List Int
  | [] => []
  | x :: l => if x ∈ l then nub l else x :: nub l
end DL
namespace L2
open PySem PySem.Spec PyProof.Rows
section
variable {X : Cx}
def rSetTI (K : PySem.W.Frag) : List V → Hp → VK → Prop := fun xs H Q => ∃ (a : Addr) (ns : List Int), xs = [V.ref a] ∧ SqT K H a (ns.map V.int) ∧ ns.length ≤ 1000 ∧
  ∀ p S, H p = none → Q (.ref p) (upd H p (.set S (DL.nub ns).length))
def rLenSet : List V → Hp → VK → Prop := fun xs H Q => ∃ (p : Addr) (S : Int → Bool) (n : Nat), xs = [V.ref p] ∧ H p = some (.set S n) ∧ Q (.int n) H
end
end L2
namespace DL
open PySem PySem.Spec L2
section
variable {X : Cx} {B : Base} {ρ : List Slot} {pos : Pos} {a : Expr}
end
end DL
namespace DL
open PySem PySem.Spec L2
section
variable {K : PySem.W.Frag} {B : Base}
end
section
variable {X : Cx} {B : Base} {ρ : List Slot} {a b c e : Expr}
end
end DL
namespace L2
open PySem PySem.Spec PyProof.Rows
section
variable {X : Cx}
def rMinTI (K : PySem.W.Frag) : List V → Hp → VK → Prop := fun vs H Q => ∃ (a : Addr) (ns : List Int), vs = [V.ref a] ∧ SqT K H a (ns.map V.int) ∧ ns ≠ [] ∧ ∀ m, m ∈ ns → (∀ y, y ∈ ns → m ≤ y) → Q (.int m) H
end
end L2
namespace DL
open PySem PySem.Spec L2
section
variable {K : PySem.W.Frag} {B : Base} {ρ : List Slot}
end
end DL
namespace DL
open PySem PySem.Spec L2
@[reducible] def eK2 (p : Int × Int) : D := .key [p.1, p.2]
def kyP (p : Int × Int) : List Key := [Sum.inl p.1, Sum.inl p.2]
theorem kyP_inj {p q : Int × Int} (h : kyP p = kyP q) : p = q := by
  unfold kyP at h
  injection h with h1 h2
  injection h2 with h2 _
  exact Prod.ext (Sum.inl.inj h1) (Sum.inl.inj h2)
theorem wk_K2 (p : Int × Int) : Wk (eK2 p) (eP2 D.int D.int p) := fun K G v h => by
  cases h with
  | key h => exact .tup (.inl (.inl h)) (.cons (.int _) (.cons (.int _) .nil))
theorem Rp.key_inv {K : PySem.W.Frag} {G : Hp} {v : V} {p : Int × Int} (h : Rp K G v (eK2 p)) : ∃ a, v = .ref a ∧ G a = some (.tup ((kyP p).map kV)) := by
  cases h with
  | key h => exact ⟨_, rfl, h⟩
theorem fl_K2 (p : Int × Int) : Flat (eK2 p) := by
  rw [eK2, Flat]
  trivial
section
variable {β : Type}
@[reducible] def odT (f : β → D) (kvs : List ((Int × Int) × β)) : OT := .dt (kvs.map fun p => (kyP p.1, f p.2))
def hasT (k : Int × Int) (kvs : List ((Int × Int) × β)) : Bool := kvs.any fun p => decide (p.1 = k)
def putT (kvs : List ((Int × Int) × β)) (k : Int × Int) (v : β) : List ((Int × Int) × β) := if hasT k kvs = true then kvs.map (fun p => if p.1 = k then (p.1, v) else p) else kvs ++ [(k, v)]
def mergeT (kvs more : List ((Int × Int) × β)) : List ((Int × Int) × β) := more.foldl (fun acc p => putT acc p.1 p.2) kvs
end
section
variable {K : PySem.W.Frag} {G : Hp} {β : Type} {f : β → D}
theorem kyP_dec (a k : Int × Int) : decide (kyP a = kyP k) = decide (a = k) := decide_eq_decide.mpr ⟨kyP_inj, fun h => by rw [h]⟩
theorem rpt_any {kvs : List (List Key × V)} {ds : List ((Int × Int) × β)} (h : RpE K G kvs (ds.map fun p => (kyP p.1, f p.2))) (k : Int × Int) : (kvs.any fun kv => decide (kv.1 = kyP k)) = hasT k ds := by
  unfold hasT
  induction ds generalizing kvs with
  | nil =>
    cases h
    rfl
  | cons x ds ih =>
    cases h with
    | @cons _ v _ r _ h1 h2 =>
      rw [List.any_cons, List.any_cons, ih h2, kyP_dec]
theorem rpt_len {kvs : List (List Key × V)} {ds : List (List Key × D)} (h : RpE K G kvs ds) : kvs.length = ds.length := by
  induction h with
  | nil => rfl
  | cons _ _ ih => rw [List.length_cons, List.length_cons, ih]
theorem rpt_append {kvs kws : List (List Key × V)} {ds es : List (List Key × D)} (h : RpE K G kvs ds) (h2 : RpE K G kws es) : RpE K G (kvs ++ kws) (ds ++ es) := by
  induction h with
  | nil => exact h2
  | cons h _ ih => exact .cons h ih
theorem rpt_put {kvs : List (List Key × V)} {ds : List ((Int × Int) × β)} (h : RpE K G kvs (ds.map fun p => (kyP p.1, f p.2))) {k : Int × Int} {v : V} {d : β} (r : Rp K G v (f d)) : RpE K G (putK kvs (kyP k) v) ((putT ds k d).map fun p => (kyP p.1, f p.2)) := by
  unfold putK putT
  rw [rpt_any h k]
  by_cases e : hasT k ds = true
  · rw [if_pos e, if_pos e]
    clear e
    induction ds generalizing kvs with
    | nil =>
      cases h
      exact .nil
    | cons x ds ih =>
      cases h with
      | @cons _ w _ t _ h1 h2 =>
        rw [List.map_cons, List.map_cons, List.map_cons]
        by_cases e : x.1 = k
        · rw [if_pos (show kyP x.1 = kyP k by rw [e]), if_pos e]
          exact .cons r (ih h2)
        · rw [if_neg (show ¬ kyP x.1 = kyP k from fun z => e (kyP_inj z)), if_neg e]
          exact .cons h1 (ih h2)
  · rw [if_neg e, if_neg e, List.map_append]
    exact rpt_append h (.cons r .nil)
end
section
variable {K : PySem.W.Frag} {B : Base} {G H : Hp} {σ : L2.St} {ρ : List Slot} {ex : List (V × Slot)}
theorem En.newDT (E : En K B G H σ ρ ex) {p : Addr} (hp : H p = none) {kvs : List (List Key × V)} {ds : List (List Key × D)} (r : RpE K G kvs ds) : En K B G (upd H p (.dT kvs)) σ ρ ((.ref p, .own 0 (.dt ds)) :: ex) := by
  obtain ⟨A, c, n, f⟩ := E.own
  have hG := E.sub.back hp
  have h0 := E.fresh hp
  have hn : p ∉ A := fun m => by
    obtain ⟨u, hu⟩ := c.there p m
    rw [hu] at hp
    cases hp
  refine ⟨E.anc.put hG (.inr h0) _, ⟨p :: ([] ++ A), .cons (A := [p]) (.own (.dt upd_same r) (fun a m => by
      rw [List.mem_singleton.mp m]
      exact .inr h0) (.inl rfl)) (c.ex (Ex.refl G) fun a m u e => by
      rw [upd_ne (ne_of_none e hp)]
      exact e), ?_, fun a m => ?_⟩, E.len, fun i j q e => ?_⟩
  · exact List.nodup_cons.mpr ⟨hn, n⟩
  · rcases List.mem_cons.mp m with rfl | m
    · exact hG
    · exact f a m
  · obtain ⟨v, w, h1, h2, h3⟩ := E.ali i j q e
    exact ⟨v, w, h1, h2, h3.ex (Ex.new hp)⟩
theorem En.ownDT (E : En K B G H σ ρ ex) {i l : Nat} {ds : List (List Key × D)} (h : ρ[i]? = some (.own l (.dt ds))) (hal : noAlis ρ = true) : ∃ p kvs, σ[i]? = some (some (.ref p)) ∧ H p = some (.dT kvs) ∧ RpE K G kvs ds ∧
    ∀ kvs' ds', RpE K G kvs' ds' → En K B G (upd H p (.dT kvs')) σ (ρ.set i (.own l (.dt ds'))) ex := by
  obtain ⟨A0, c, n, g⟩ := E.own
  have hi : i < ρ.length := (List.getElem?_eq_some_iff.mp h).1
  have h' : (ex.map (·.2) ++ ρ)[ex.length + i]? = some (.own l (.dt ds)) := by
    rw [List.getElem?_append_right (by simp), List.length_map]
    simpa using h
  obtain ⟨v, A, A2, e1, hO, ⟨hl, hp⟩, c2, pm⟩ := c.take1 h'
  rw [List.getElem?_append_right (by simp), List.length_map] at e1
  have e1 : σ[i]? = some (some v) := by simpa using e1
  have nn := pm.nodup_iff.mp n
  have n1 := List.nodup_append.mp nn
  cases hO with
  | @dt a kvs _ ha hr =>
    refine ⟨a, kvs, e1, ha, hr, fun kvs' ds' r' => ?_⟩
    have hG : G a = none := g a (pm.mem_iff.mpr (List.mem_append_left _ List.mem_cons_self))
    have c3 : Cells K B G (upd H a (.dT kvs')) (ex.map (fun p => some p.1) ++ σ) ((ex.map (·.2) ++ ρ).set (ex.length + i) .non) A2 := c2.ex (Ex.refl G) fun b m u e => by
      rw [upd_ne (fun z => by
        subst z
        exact n1.2.2 b List.mem_cons_self b m rfl)]
      exact e
    obtain ⟨A8, c8, p8⟩ := c3.put1 (i := ex.length + i) (l := l) (o := .dt ds') (v := .ref a) (A1 := [a]) (by
      rw [List.getElem?_set_self]
      rw [List.length_append, List.length_map]
      omega) (by
      rw [List.getElem?_append_right (by simp), List.length_map]
      simpa using e1) (.dt upd_same r') ⟨hl, hp⟩
    rw [List.set_set, List.set_append_right _ _ (by simp), List.length_map, Nat.add_sub_cancel_left] at c8
    refine ⟨E.anc.put hG ((hl a List.mem_cons_self).elim (fun z => .inl ⟨l, z⟩) .inr) _, ⟨A8, c8, p8.nodup_iff.mpr nn, fun b m => g b (pm.mem_iff.mpr (p8.mem_iff.mp m))⟩, by rw [List.length_set]; exact E.len, fun k j q e => ?_⟩
    by_cases hk : i = k
    · subst hk
      rw [List.getElem?_set_self hi] at e
      cases e
    · rw [List.getElem?_set_ne hk] at e
      exact absurd e (noAlis_get hal)
end
section
variable {X : Cx} {B : Base} {ρ : List Slot} {e a b o2 val : Expr} {es : List Expr} {pos pos' : Pos} {β γ : Type}
theorem je_newT {f : β → D} : JE X B ρ (.Dict [] [] pos) (.ok ()) (fun _ => .own 0 (odT f ([] : List ((Int × Int) × β)))) (fun _ => ρ) :=
  PE_imp pe_dnewT fun σ H Q ⟨G, E, q⟩ p hp => q _ G _ (Ex.refl G) (E.newDT hp .nil)
theorem je_tupK {x1 : Nat} {m : R γ} {as : γ → List Ar} {ρ' : γ → List Slot} {p : γ → Int × Int} (h : JA X B ρ es m as ρ') (hp : ∀ b, arDs (as b) = [D.int (p b).1, D.int (p b).2] := by intro _; rfl) (hs : ∀ b, noSlots (as b) = true := by intro _; rfl) : JE X B ρ (.Tuple es x1 pos) m (fun b => .val (eK2 (p b))) ρ' :=
  PE_imp (pe_tup h) fun σ H Q ⟨G, E, q⟩ => ⟨G, E, R.post_mono q fun b k vs G1 H1 x1 E1 ok => by
    have r := ok.ds (hs b)
    rw [hp b] at r
    have hv : vs = [(p b).1, (p b).2].map V.int := r.ints (ns := [(p b).1, (p b).2])
    subst hv
    refine ⟨?_, fun q hq => k _ (upd G1 q _) _ (x1.trans (Ex.new (E1.sub.back hq))) ((E1.new hq _).push (.key upd_same))⟩
    exact Nat.le_of_lt (small1000 (show 2 ≤ 1000 by decide))⟩
end
end DL
namespace L2
open PySem PySem.Spec PyProof.Rows
def mergeL (kvs more : List (List Key × V)) : List (List Key × V) := more.foldl (fun acc kv => putK acc kv.1 kv.2) kvs
section
variable {X : Cx}
def rDictT (K : PySem.W.Frag) : List V → Hp → VK → Prop := fun xs H Q => ∃ (a : Addr) (ps : List Addr) (kvs : List (List Key × V)), xs = [.ref a] ∧ SqL K H a (ps.map V.ref) ∧
  Paired (fun p (kv : List Key × V) => ∃ b, SqT K H p [.ref b, kv.2] ∧ H b = some (.tup (kv.1.map kV))) ps kvs ∧ ∀ p, H p = none → Q (.ref p) (upd H p (.dT (mergeL [] kvs)))
end
end L2
namespace L2
open PySem PySem.Spec PyProof.Rows
section
variable {X : Cx}
def rUpdT (P : Program) (w : World) : V → List V → Hp → VK → Prop := fun x xs H Q => ∃ (a b : Addr) (kvs kws : List (List Key × V)), x = .ref a ∧ xs = [.ref b] ∧ a ≠ b ∧ H a = some (.dT kvs) ∧ H b = some (.dT kws) ∧
  (kvs ≠ [] ∨ (kws.map fun p => (tupleKind (mixKind P w)).hash p.1).Nodup) ∧ kvs.length + kws.length ≤ sizeLine ∧ Q .non (upd H a (.dT (mergeL kvs kws)))
end
end L2
namespace DL
open PySem PySem.Spec L2
def khash (p : Int × Int) : Int := reduceHash (Builtin.Tuple.tupleHashOf [hashInt p.1, hashInt p.2])
section
variable {K : PySem.W.Frag} {B : Base} {ρ : List Slot} {β : Type} {f : β → D}
end
section
variable {X : Cx} {B : Base} {ρ : List Slot} {pos : Pos} {e : Expr}
end
end DL
namespace DL
open PySem PySem.Spec L2 PySem.W PyProof.Rows
noncomputable def srtD {α : Type} (f : α → D) (xs : List α) : List α := xs.mergeSort (dataLe false fun x => pdOf (f x))
def SortOk {α : Type} (f : α → D) (xs : List α) : Prop := (∀ x ∈ xs, plainD (f x) = true) ∧ AllAlike (xs.map fun x => pdOf (f x)) ∧ Sortable (xs.map fun x => pdOf (f x)) ∧ ∀ x ∈ xs, (pdOf (f x)).depth ≤ 50
section
variable {X : Cx} {pins : List (Addr × Obj)} {σ : L2.St} {G H : Hp} {s : Shared} {α : Type} {f : α → D}
def VR (K : PySem.W.Frag) (G : Hp) (f : α → D) (v : Value) (b : α) : Prop := ∃ x, RelV x v ∧ Rp K G x (f b)
def rSortD (K : PySem.W.Frag) (f : α → D) (xs : List α) : List V → Hp → VK → Prop := fun vs H Q => ∃ (a : Addr) (G : Hp) (ys : List V), vs = [V.ref a] ∧ Ex G H ∧ Rd G a (.lst ys) ∧ RpAll K G ys (xs.map f) ∧ SortOk f xs ∧
  ∀ (zs : List V) (p : Addr), RpAll K G zs ((srtD f xs).map f) → H p = none → Q (.ref p) (upd H p (.lst zs))
end
section
variable {K : PySem.W.Frag} {B : Base} {ρ : List Slot} {α : Type} {f : α → D}
open Classical in
theorem cb_sortD {xs : List α} {c : Prop} [Decidable c] (hc : c → SortOk f xs) : CbD K B ρ (rSortD K f xs) [.val (eL f xs)] (R.guard c) (fun _ => .own 0 (oL f (srtD f xs))) := fun G H σ vs Q E ok q => by
  obtain ⟨h1, q⟩ := R.post_guard q
  obtain ⟨v, rfl, r⟩ := ok.one
  obtain ⟨p, ws, rfl, hS, hr⟩ := r.lst_inv
  exact ⟨p, G, ws, rfl, E.sub, hS, hr, hc h1, fun zs p' a hp => q _ G _ (Ex.refl G) (E.newL hp a)⟩
end
end DL
namespace DL
open PySem PySem.Spec L2 PySem.W PyProof.Rows
def minP : List (Int × Int) → Int × Int
  | [] => (0, 0)
  | x :: xs => minOf x xs
section
variable {X : Cx} {pins : List (Addr × Obj)} {σ : L2.St} {G H : Hp} {s : Shared}
def rMinK2 (K : PySem.W.Frag) : List V → Hp → VK → Prop := fun vs H Q => ∃ (a : Addr) (G : Hp) (ys : List V) (x : Int × Int) (xs : List (Int × Int)), vs = [V.ref a] ∧ Ex G H ∧ Rd G a (.lst ys) ∧ RpAll K G ys ((x :: xs).map eK2) ∧ ∀ v, Rp K G v (eK2 (minOf x xs)) → Q v H
end
section
variable {K : PySem.W.Frag} {B : Base} {ρ : List Slot}
end
end DL
namespace DL
open PySem PySem.Spec L2 PySem.W PyProof.Rows
theorem fl_odT {β : Type} {f : β → D} (h : ∀ x, Flat (f x)) (kvs : List ((Int × Int) × β)) : FlatO (odT f kvs) := by
  rw [odT, FlatO]
  intro p m
  obtain ⟨q, _, e⟩ := List.mem_map.mp m
  subst e
  exact h q.2
section
variable {K : PySem.W.Frag} {B : Base} {ρ : List Slot}
end
end DL
namespace DL
open PySem PySem.Spec L2
section
variable {X : Cx} {B : Base} {ρ : List Slot} {pos : Pos} {obj e : Expr}
end
end DL
namespace L2
open PySem PySem.Spec PyProof.Rows
section
variable {X : Cx} {es : List Expr} {pos : Pos} {t : TA}
def tTupF (t : TA) : TE := fun σ H Q => t σ H fun vs H1 => vs.length ≤ sizeLine ∧ ∀ p ob, H1 p = none → ob.dict = none → Q (.ref p) (upd H1 p (.frz ob (.tup vs)))
end
end L2
namespace DL
open PySem PySem.Spec L2
section
variable {X : Cx} {B : Base} {ρ : List Slot} {pos : Pos}
end
end DL
namespace DL
open PySem PySem.Spec L2
section
variable {X : Cx} {B : Base} {ρ : List Slot} {pos : Pos}
theorem jp_gint {x : Str} {i : Int} (h : ∃ t, X.mg x = some (.int i t)) (hg : Gl X x := by rfl) (hd : (x == ("__debug__" : Str)) = false := by decide) : JP X B ρ (.Name x pos) (.int i) := by
  obtain ⟨t, h⟩ := h
  exact PE_imp (pe_glob (v := .int i) hg h (show RelV (.int i) (.int i t) from ⟨t, rfl⟩) hd) fun σ H Q ⟨G, E, q⟩ => q _ G H (Ex.refl G) (E.push (.int _))
end
section
variable {X : Cx} {B : Base} {ρ : List Slot} {pos : Pos} {a : Expr} {β : Type}
end
end DL
namespace L2
open PySem PySem.Spec PyProof.Rows
section
variable {X : Cx}
def rSetLI (K : PySem.W.Frag) : List V → Hp → VK → Prop := fun xs H Q => ∃ (a : Addr) (ns : List Int), xs = [V.ref a] ∧ SqL K H a (ns.map V.int) ∧ ns.length ≤ 1000 ∧
  ∀ p S, H p = none → Q (.ref p) (upd H p (.set S (DL.nub ns).length))
end
end L2
namespace DL
open PySem PySem.Spec L2
section
variable {X : Cx} {B : Base} {ρ : List Slot} {pos : Pos} {a : Expr}
end
end DL
namespace DL
open PySem PySem.Spec L2
section
variable {X : Cx} {B : Base} {ρ : List Slot} {pos : Pos} {obj e : Expr} {es : List Expr}
end
section
variable {K : PySem.W.Frag}
def popAt {α : Type} (xs : List α) (i : Int) : Option (α × Nat) := if 0 ≤ i ∧ i < 2 ^ 62 then (xs[i.toNat]?).map fun x => (x, i.toNat) else none
end
end DL
namespace DL
open PySem PySem.Spec PyProof.Rows L2
section
variable {X : Cx} {B : Base} {ρ : List Slot} {pos : Pos} {e obj : Expr}
end
end DL
namespace DL
open PySem PySem.Spec PyProof.Rows L2
def asI : D → Option Int
  | .int i => some i
  | _ => none
def asT : D → Option (List D)
  | .tuple ds => some ds
  | .row ds => some ds
  | .key ks => some (ks.map D.int)
  | _ => none
def asIs : List D → Option (List Int)
  | [] => some []
  | d :: ds => match asI d, asIs ds with
    | some i, some l => some (i :: l)
    | _, _ => none
def asTI (d : D) : Option (List Int) := (asT d).bind asIs
def as3I (d : D) : Option (Int × Int × Int) := match asTI d with
  | some [a, b, c] => some (a, b, c)
  | _ => none
section
variable {X : Cx} {B : Base} {ρ : List Slot} {pos : Pos} {a b c e : Expr}
end
section
variable {K : PySem.W.Frag} {B : Base} {ρ : List Slot}
def strI (i : Int) : Str := toString i
end
end DL
namespace L2
open PySem PySem.Spec PyProof.Rows HT
section
variable {X : Cx}
def rSlR (K : PySem.W.Frag) : V → Option Int → Option Int → Hp → VK → Prop := fun x lo hi H Q => ∃ a ob xs, x = .ref a ∧ H a = some (.frz ob (.tup xs)) ∧
  (HT.sIx xs.length 0 lo = 0 ∧ HT.sIx xs.length xs.length hi = xs.length → Q (.ref a) H) ∧ (¬ (HT.sIx xs.length 0 lo = 0 ∧ HT.sIx xs.length xs.length hi = xs.length) → ∀ p ob', H p = none → ob'.dict = none → Q (.ref p) (upd H p (.frz ob' (.tup (cutV xs lo hi)))))
def rCatRw (K : PySem.W.Frag) : R2 := fun x y H Q => ∃ a b ob xs ys, x = .ref a ∧ y = .ref b ∧ H a = some (.frz ob (.tup xs)) ∧ SqT K H b ys ∧ xs ≠ [] ∧ xs.length + ys.length ≤ sizeLine ∧
  (ys = [] → Q (.ref a) H) ∧ (ys ≠ [] → ∀ p ob', H p = none → ob'.dict = none → Q (.ref p) (upd H p (.frz ob' (.tup (xs ++ ys)))))
end
end L2
namespace DL
open PySem PySem.Spec L2
section
variable {X : Cx} {B : Base} {ρ : List Slot} {pos : Pos} {a e e2 tg : Expr} {β α γ : Type} {K : PySem.W.Frag}
end
def asRI : D → Option (List Int)
  | .row ds => asIs ds
  | _ => none
def asTIs : List D → Option (List (List Int))
  | [] => some []
  | d :: ds => match asTI d, asTIs ds with
    | some i, some l => some (i :: l)
    | _, _ => none
def asTTI (d : D) : Option (List (List Int)) := (asT d).bind asTIs
def as2TT (d : D) : Option (List (List Int) × List (List Int)) := match asT d with
  | some [x, y] => match asTTI x, asTTI y with
    | some a, some b => some (a, b)
    | _, _ => none
  | _ => none
end DL
namespace DL
open PySem PySem.Spec L2
section
variable {X : Cx} {B : Base} {ρ : List Slot} {pos : Pos} {a e : Expr} {β β1 β2 α : Type} {K : PySem.W.Frag}
def tJOm (K : PySem.W.Frag) (B : Base) (ρ : List Slot) (m : R β) (o : β → Option Int) : TO := fun σ H Q => ∃ G, En K B G H σ ρ [] ∧ m.post (fun b => ∀ G' H', Ex G G' → En K B G' H' σ ρ [] → Q (o b) H') B.rs
def JOm (X : Cx) (B : Base) (ρ : List Slot) (e : Option Expr) (m : R β) (o : β → Option Int) : Prop := PO X e (tJOm X.K B ρ m o)
theorem js_never {N L T : Type} {st : Stmt} {F : Fin N L T} : JS X B ρ st (R.bad : R (Fl N L T)) F := PS_imp ps_never fun D σ H ⟨G, E, q⟩ => q
end
end DL
namespace RT
open PySem PySem.Spec PyProof.Rows
section
variable {prog : Program} {w : World} {A : Around} {E : Value → Shared → Prop} {s : Shared}
end
section
variable {prog : Program} {w : World} {A : Around} {E : Value → Shared → Prop} {s : Shared}
end
open L2
def tTupRevT (K : PySem.W.Frag) (te : TE) : TE := fun σ H Q => te σ H fun v H1 => ∃ (a : Addr) (xs : List V), v = .ref a ∧ SqT K H1 a xs ∧ ∀ q ob, H1 q = none → ob.dict = none → Q (.ref q) (upd H1 q (.frz ob (.tup xs.reverse)))
section
variable {X : Cx}
end
end RT
namespace DL
open PySem PySem.Spec L2 RT
section
variable {X : Cx} {B : Base} {ρ : List Slot} {pos : Pos} {e : Expr}
end
end DL
namespace DL
open PySem PySem.Spec L2
section
variable {X : Cx} {B : Base} {ρ : List Slot} {pos : Pos} {a : Expr}
end
end DL
namespace DL
open PySem PySem.Spec L2
section
variable {K : PySem.W.Frag} {B : Base}
end
end DL
namespace SrtO
open PySem PyProof.Rows Srt
section
variable {prog : Program} {w : World} {A : Around} {E : Value → Shared → Prop} {s : Shared}
end
end SrtO
namespace L2
open PySem PySem.Spec PyProof.Rows
section
variable {X : Cx}
def rSortTup (K : PySem.W.Frag) : List V → Hp → VK → Prop := fun vs H Q => ∃ (a : Addr) (ns : List Int), vs = [V.ref a] ∧ SqT K H a (ns.map V.int) ∧
  ∀ (ns' : List Int) (p : Addr), ns'.Perm ns → ns'.Pairwise (· ≤ ·) → H p = none → Q (.ref p) (upd H p (.lst (ns'.map V.int)))
end
end L2
namespace DL
open PySem PySem.Spec L2
section
variable {B : Base} {ρ : List Slot}
end
end DL
namespace DL
open PySem PySem.Spec L2
section
variable {X : Cx} {B : Base} {ρ : List Slot} {pos : Pos} {a : Expr} {α β β1 β2 : Type}
end
end DL
namespace DL
open PySem PySem.Spec L2
end DL
namespace DL
open PySem PySem.Spec L2 PyProof.Rows
def numI : Value → Option Int
  | .int i _ => some i
  | _ => none
def gtupB (K : PySem.W.Frag) (x : Str) (ns : List Int) : Bool := match PySem.W.nsIn K mainGlobals x with
  | some (some (.ref a)) => (match K.lookup a with
    | some ⟨.type c, _, .seq its _, _⟩ => decide (c = "tuple") && (decide (its.size ≤ 1000) && decide (its.toList.map numI = ns.map some))
    | _ => false)
  | _ => false
def GTup (K : PySem.W.Frag) (mg : Str → Option Value) (x : Str) (ns : List Int) : Prop := ∃ a, mg x = some (.ref a) ∧ ∃ (o : Obj) (its : Array Value) (n : Nat), K.lookup a = some o ∧ o.cls = .type "tuple" ∧ o.data = .seq its n ∧ its.size ≤ sizeLine ∧ Vals (ns.map V.int) its.toList
section
variable {X : Cx} {B : Base} {ρ : List Slot} {pos : Pos}
end
abbrev AlE : Type := He.AlD × Bool
def obsEG (n : Nat) (fa : List He.Fa) (fn : List He.DefD) (ex : PySem.W.Frag → Bool) (g : Addr → Option Obj) : AlE := (He.obsDG n fa fn g, ex (He.frG g (He.asD g n)))
def hookE (n : Nat) (fa : List He.Fa) (fn : List He.DefD) (ex : PySem.W.Frag → Bool) : PySem.W.Hook where
  α := AlE
  obs := fun s => obsEG n fa fn ex s.heap.get?
  val := fun _ => (He.valD fn, true)
  says := fun _ h => ∃ K : PySem.W.Frag, K.In h ∧ He.SaysD fa fn K ∧ ex K = true
  of := fun _ _ e => ⟨_, He.frG_in, congrArg (fun z : AlE => z.1) e, congrArg (fun z : AlE => z.2) e⟩
  keeps := fun _ _ _ ⟨K, hK, c⟩ k => ⟨K, PySem.W.Frag.In.keeps hK k, c⟩
def lookT {β : Type} (kvs : List ((Int × Int) × β)) (k : Int × Int) : Option β := (kvs.find? fun p => decide (p.1 = k)).map (·.2)
section
variable {X : Cx} {B : Base} {ρ : List Slot} {pos pos' ap cp : Pos} {e2 e3 o2 val : Expr} {β : Type} {K : PySem.W.Frag} {G : Hp} {f : β → D}
theorem rpt_val {kvs : List (List Key × V)} {ds : List ((Int × Int) × β)} (h : RpE K G kvs (ds.map fun p => (kyP p.1, f p.2))) (k : Int × Int) {y : V} {b : β} (hy : Rp K G y (f b)) : Rp K G ((valV kvs (kyP k)).getD y) (f ((lookT ds k).getD b)) := by
  induction ds generalizing kvs with
  | nil =>
    cases h
    exact hy
  | cons p ds ih =>
    rw [List.map_cons] at h
    cases h with
    | @cons _ v _ r _ h t =>
      have i := ih t
      unfold lookT at i ⊢
      rw [List.find?_cons]
      by_cases hk : p.1 = k
      · subst hk
        rw [decide_eq_true rfl]
        show Rp K G ((valV ((kyP p.1, v) :: r) (kyP p.1)).getD y) (f p.2)
        have e : valV ((kyP p.1, v) :: r) (kyP p.1) = some v := by
          simp [valV]
        rw [e]
        exact h
      · rw [decide_eq_false hk]
        have e : valV ((kyP p.1, v) :: r) (kyP k) = valV r (kyP k) := by
          have hn : kyP p.1 ≠ kyP k := fun z => hk (kyP_inj z)
          simp [valV, hn]
        rw [e]
        exact i
theorem je_dgetT (i : Nat) {x : Str} {px : Pos} {l : Nat} {kvs : List ((Int × Int) × β)} {k : Int × Int} {b : β} (hu : X.A.units + 64 < cLine) (h : ρ[i]? = some (.own l (odT f kvs)) := by rfl) (hk : JP X B ρ e2 (eK2 k)) (hb : JP X B ρ e3 (f b)) (hal : noAlis ρ = true := by rfl) (hN : X.N[i]? = some x := by rfl)
    (hvi : Vis X.env.scope x := by first | exact Or.inl rfl | exact Or.inr (Or.inl rfl) | exact Or.inr (Or.inr rfl)) (hd : (x == ("__debug__" : Str)) = false := by decide) (hcd : (x == ("__classdict__" : Str)) = false := by decide)
    (m : M2 X (.Name x px) "get" ap e2 e3 cp := by exact ⟨rfl, rfl, rfl, rfl⟩) :
    JP X B ρ (.Call (.Attribute (.Name x px) "get" ap) [e2, e3] [] cp) (f ((lookT kvs k).getD b)) :=
  PE_imp (pe_dget2 (by omega) (pv (X := X) (pos := px) i hN hvi hd hcd) hk hb m) fun σ H Q ⟨G, E, q⟩ => by
    obtain ⟨p, kv, g1, g2, g3, _⟩ := E.ownDT h hal
    refine ⟨.ref p, g1, p, rfl, .inr ⟨kv, .inl g2⟩, G, E, fun w G1 H1 x1 E1 => ?_⟩
    obtain ⟨kb, hy, hkb⟩ := E1.top.key_inv
    subst hy
    refine ⟨G1, E1.pop, fun z G2 H2 x2 E2 => ?_⟩
    obtain ⟨p', kv', f1, f2, f3, f4⟩ := E2.pop.ownDT h hal
    have ep : p' = p := by
      have z := f1.symm.trans g1
      injection z with z
      injection z with z
      injection z
    subst ep
    exact ⟨_, DGet.t (k := kyP k) f2 (E2.sub _ _ (x2 _ _ hkb)), q _ G2 H2 (x1.trans x2) (E2.pop.push (rpt_val f3 k E2.top))⟩
theorem j1_dputTE (i : Nat) {γ : Type} {x : Str} {px : Pos} {l : Nat} {m : R γ} {v : γ → β} {ρ' : γ → List Slot} {kvs : γ → List ((Int × Int) × β)} {k : γ → Int × Int} (hu : X.A.units + 64 < cLine) (hv : JE X B ρ val m (fun b => .val (f (v b))) ρ') (h : ∀ b, (ρ' b)[i]? = some (.own l (odT f (kvs b))) := by intro _; rfl) (hk : ∀ b, JP X B (ρ' b) o2 (eK2 (k b))) (hal : ∀ b, noAlis (ρ' b) = true := by intro _; rfl) (hN : X.N[i]? = some x := by rfl)
    (hvi : Vis X.env.scope x := by first | exact Or.inl rfl | exact Or.inr (Or.inl rfl) | exact Or.inr (Or.inr rfl)) (hd : (x == ("__debug__" : Str)) = false := by decide) (hcd : (x == ("__classdict__" : Str)) = false := by decide)
    (hs : swapsWith val (some (.Subscript (.Name x px) o2 pos')) pos.line X.env = pure false := by rfl) :
    J1 X B ρ (.Assign [.Subscript (.Name x px) o2 pos'] val pos) (m.bind fun b => (R.guard ((kvs b).length < sizeLine)).bind fun _ => .ok b) (fun b => (ρ' b).set i (.own l (odT f (putT (kvs b) (k b) (v b))))) := by
  have hk' : PE X o2 (fun σ H Q => ∃ b, tJ X.K B (ρ' b) (R.ok ()) (fun _ => .val (eK2 (k b))) (fun _ => ρ' b) σ H Q) := ⟨fun pins s σ H Q I ⟨b, q⟩ => (hk b).run pins s σ H Q I q⟩
  refine PS_imp (ps_dput (by omega) (pv (X := X) (pos := px) i hN hvi hd hcd) hk' hv hs) fun Dn σ H ⟨G, E, q⟩ => ?_
  refine ⟨G, E, R.post_mono (R.post_bind.mp q) fun b q w G1 H1 x1 E1 => ?_⟩
  obtain ⟨hc, q⟩ := R.post_guard (R.post_bind.mp q)
  obtain ⟨p, kv, g1, g2, g3, _⟩ := E1.pop.ownDT (h b) (hal b)
  refine ⟨.ref p, g1, b, G1, E1.pop, fun y G2 H2 x2 E2 => ?_⟩
  obtain ⟨kb, hy, hkb⟩ := E2.top.key_inv
  subst hy
  obtain ⟨p', kv', f1, f2, f3, f4⟩ := E2.pop.ownDT (h b) (hal b)
  have ep : p' = p := by
    have z := f1.symm.trans g1
    injection z with z
    injection z with z
    injection z
  subst ep
  have hl : kv'.length < sizeLine := by
    rw [rpt_len f3, List.length_map]
    exact hc
  exact ⟨p', _, rfl, DPut.t (k := kyP (k b)) (v := w) f2 (E2.sub _ _ hkb) hl, q σ G2 _ (x1.trans x2) (f4 _ _ (rpt_put f3 (E1.top.ex x2)))⟩
end
@[reducible] def eDct {β : Type} (f : β → D) (kvs : List ((Int × Int) × β)) : D := .dict (kvs.map fun p => (D.tuple [D.int p.1.1, D.int p.1.2], f p.2))
theorem toD_odT {β : Type} (f : β → D) (kvs : List ((Int × Int) × β)) : (odT f kvs).toD = eDct f kvs := by
  rw [odT, OT.toD, eDct, List.map_map]
  rfl
mutual
def pd2 : D → PyData
  | .none => .none
  | .bool b => .bool b
  | .int i => .int i
  | .str x => .str x
  | .list _ => .none
  | .tuple ds => .tuple (pd2s ds)
  | .row ds => .tuple (pd2s ds)
  | .scr _ => .none
  | .key ns => .tuple (ns.map PyData.int)
  | .dict kvs => .dict (pd2kv kvs)
  | .exn _ _ _ => .none
  | .ddk kvs => pd2k kvs
def pd2k : List (D × D) → PyData
  | [] => .none
  | _ :: r => .dict (pd2kv r)
def pd2s : List D → List PyData
  | [] => []
  | d :: ds => pd2 d :: pd2s ds
def pd2kv : List (D × D) → List (PyData × PyData)
  | [] => []
  | (k, v) :: r => (pd2 k, pd2 v) :: pd2kv r
end
mutual
def plain2 : D → Bool
  | .none => true
  | .bool _ => true
  | .int _ => true
  | .str _ => true
  | .list _ => false
  | .tuple ds => plain2s ds
  | .row ds => plain2s ds
  | .scr _ => false
  | .key _ => true
  | .dict kvs => plain2kv kvs
  | .exn _ _ _ => false
  | .ddk kvs => plain2k kvs
def plain2k : List (D × D) → Bool
  | [] => false
  | (k, _) :: r => isNoneD k && plain2kv r
def plain2s : List D → Bool
  | [] => true
  | d :: ds => plain2 d && plain2s ds
def plain2kv : List (D × D) → Bool
  | [] => true
  | (k, v) :: r => isTupD k && (plain2 v && plain2kv r)
def isNoneD : D → Bool
  | .none => true
  | _ => false
def isTupD : D → Bool
  | .tuple _ => true
  | _ => false
end
section
variable {X : Cx} {pins : List (Addr × Obj)} {σ : L2.St} {G H : Hp} {s : Shared}
abbrev kyD (k : Key) : D := match k with | .inl i => D.int i | .inr x => D.str x
theorem reads_keys (h : Heap) : ∀ (ks : List Key) (us : List Value), Vals (ks.map kV) us → ReadsAll h us (pd2s (ks.map kyD)) []
  | [], _, .nil => by
    rw [List.map_nil, pd2s]
    exact .nil
  | .inl i :: ks, _, .cons r t => by
    obtain ⟨tk, rfl⟩ := r
    rw [List.map_cons, pd2s]
    show ReadsAll h _ (pd2 (D.int i) :: _) ([] ++ [])
    rw [pd2]
    exact .cons (.int i tk) (reads_keys h ks _ t)
  | .inr x :: ks, _, .cons r t => by
    obtain ⟨tk, rfl⟩ := r
    rw [List.map_cons, pd2s]
    show ReadsAll h _ (pd2 (D.str x) :: _) ([] ++ [])
    rw [pd2]
    exact .cons (.str x tk) (reads_keys h ks _ t)
theorem reads_ints2 (h : Heap) : ∀ (ns : List Int) (us : List Value), Vals (ns.map V.int) us → ReadsAll h us (ns.map PyData.int) []
  | [], _, .nil => .nil
  | n :: ns, _, .cons r t => by
    obtain ⟨tk, rfl⟩ := r
    exact .cons (as := []) (bs := []) (.int n tk) (reads_ints2 h ns _ t)
theorem reads_kt (I : Inv X pins σ H s) : ∀ {kvs : List (List Key × V)} {xs : List (List Key × Addr × Value)}, KT H kvs xs → ∃ as, ReadsAll s.heap (xs.map fun x => Value.ref x.2.1) (kvs.map fun p => PyData.tuple (pd2s (p.1.map kyD))) as ∧ as = []
  | _, _, .nil => ⟨_, .nil, rfl⟩
  | _, _, .cons h t => by
    obtain ⟨as, r, rfl⟩ := reads_kt I t
    obtain ⟨h1, h2, h3⟩ := h
    obtain ⟨its, vs, ⟨o, g1, g2, n, g4⟩, _⟩ := I.tuple (.inl (.inl h2))
    exact ⟨_, .cons (as := []) (.tuple g1 g2 g4 (by simpa using reads_keys s.heap _ _ vs)) r, rfl⟩
mutual
theorem Rp.reads2 (I : Inv X pins σ H s) (e : Ex G H) : ∀ {v : V} {d : D}, Rp X.K G v d → ∀ {u : Value}, RelV v u → plain2 d = true → ∃ as, Reads s.heap u (pd2 d) as ∧ sysModules ∉ as
  | _, _, .non, u, r, _ => by
    cases r
    rw [pd2]
    exact ⟨_, .none, fun z => nomatch z⟩
  | _, _, .bl b, u, r, _ => by
    cases r
    rw [pd2]
    exact ⟨_, .bool b, fun z => nomatch z⟩
  | _, _, .int i, u, r, _ => by
    obtain ⟨t, rfl⟩ := r
    rw [pd2]
    exact ⟨_, .int i t, fun z => nomatch z⟩
  | _, _, .str x, u, r, _ => by
    obtain ⟨t, rfl⟩ := r
    rw [pd2]
    exact ⟨_, .str x t, fun z => nomatch z⟩
  | _, _, .lst h q, u, r, p => by
    rw [plain2] at p
    cases p
  | _, _, .tup h q, u, r, p => by
    cases r
    rw [pd2]
    rw [plain2] at p
    obtain ⟨its, vs, ⟨o, g1, g2, n, g4⟩, _⟩ := I.tuple (e.t h)
    obtain ⟨as, ra, ns⟩ := RpAll.reads2 I e q vs p
    exact ⟨_, .tuple g1 g2 g4 (by simpa using ra), ns⟩
  | _, _, .row h d q, u, r, p => by
    cases r
    rw [pd2]
    rw [plain2] at p
    obtain ⟨its, vs, ⟨o, g1, g2, n, g4⟩, _⟩ := I.tuple (.inl (.inr ⟨_, e _ _ h⟩))
    obtain ⟨as, ra, ns⟩ := RpAll.reads2 I e q vs p
    exact ⟨_, .tuple g1 g2 g4 (by simpa using ra), ns⟩
  | _, _, .scr h, u, r, p => by
    rw [plain2] at p
    cases p
  | _, _, .key h, u, r, _ => by
    cases r
    rw [pd2]
    obtain ⟨its, vs, ⟨o, g1, g2, n, g4⟩, _⟩ := I.tuple (.inl (.inl (e _ _ h)))
    exact ⟨[], .tuple g1 g2 g4 (by simpa using reads_ints2 s.heap _ _ vs), List.not_mem_nil⟩
  | _, _, .ddk _ q, u, r, p => by
    rw [plain2] at p
    exfalso
    cases q with
    | nil =>
      rw [plain2k] at p
      cases p
    | @cons k _ _ _ _ _ _ =>
      rw [plain2k] at p
      cases k <;> simp [isNoneD] at p
  | _, _, .ddt (a := a) (kvs := kvs) (ds := ds) h q, u, r, p => by
    cases r
    rw [plain2, plain2k, isNoneD, Bool.true_and] at p
    obtain ⟨g0, _, z, xs, kv, o, es, ep, g1, g2, g3, g4, _⟩ := I.hok _ _ (e _ _ h)
    obtain ⟨as, r1, rfl⟩ := reads_kt I kv
    obtain ⟨bs, r2, e1, ns⟩ := RpT.reads2 I e q kv p
    rw [pd2, pd2k]
    refine ⟨_, .dict (as := []) (bs := bs) g1 g2.1 g3 ?_ ?_, ?_⟩
    · rw [g4, List.map_map, e1]
      exact r1
    · rw [g4, List.map_map]
      exact r2
    · intro m
      have m2 : sysModules = a ∨ sysModules ∈ bs := by simpa using m
      rcases m2 with m2 | m2
      · rw [m2] at z
        simp at z
      · exact ns m2
  | _, _, .exn0 _ _, u, r, p => by
    rw [plain2] at p
    cases p
  | _, _, .exn1 _ _ _ _, u, r, p => by
    rw [plain2] at p
    cases p
  | _, _, .any _, u, r, p => by
    rw [plain2, plain2k] at p
    simp [isNoneD] at p
  | _, _, .dK (a := a) (kvs := kvs) h q, u, r, p => by
    cases r
    rw [plain2] at p
    cases q with
    | nil =>
      obtain ⟨_, z, vs, kv, dd⟩ := dk_of (I.hok) (e _ _ h)
      cases kv
      obtain ⟨o, es, ep, g1, g2, g3, _, g4, _⟩ := dd
      have e0 : es.toList = [] := by
        generalize es.toList = l at g4
        cases l with
        | nil => rfl
        | cons a b => cases g4
      rw [pd2, pd2kv]
      refine ⟨_, .dict (as := []) (bs := []) g1 g2.1 g3 (by rw [e0]; exact .nil) (by rw [e0]; exact .nil), ?_⟩
      intro m
      have m2 : sysModules = a := by simpa using m
      rw [m2] at z
      simp at z
    | @cons k v r d ds h1 h2 =>
      rw [plain2kv] at p
      exfalso
      cases k <;> (rw [isTupD] at p <;> first | (simp at p; done) | (intro _ z; cases z))
  | _, _, .dT (a := a) (kvs := kvs) (ds := ds) h q, u, r, p => by
    cases r
    rw [plain2] at p
    obtain ⟨_, z, xs, kv, o, es, ep, g1, g2, g3, g4, _⟩ := dt_of (I.hok) (e _ _ h)
    obtain ⟨as, r1, rfl⟩ := reads_kt I kv
    obtain ⟨bs, r2, e1, ns⟩ := RpT.reads2 I e q kv p
    rw [pd2]
    refine ⟨_, .dict (as := []) (bs := bs) g1 g2.1 g3 ?_ ?_, ?_⟩
    · rw [g4, List.map_map, e1]
      exact r1
    · rw [g4, List.map_map]
      exact r2
    · intro m
      have m2 : sysModules = a ∨ sysModules ∈ bs := by simpa using m
      rcases m2 with m2 | m2
      · rw [m2] at z
        simp at z
      · exact ns m2
theorem RpAll.reads2 (I : Inv X pins σ H s) (e : Ex G H) : ∀ {vs : List V} {ds : List D}, RpAll X.K G vs ds → ∀ {us : List Value}, Vals vs us → plain2s ds = true → ∃ as, ReadsAll s.heap us (pd2s ds) as ∧ sysModules ∉ as
  | _, _, .nil, _, .nil, _ => by
    rw [pd2s]
    exact ⟨_, .nil, fun z => nomatch z⟩
  | _, _, .cons h q, _, .cons r t, p => by
    rw [plain2s, Bool.and_eq_true] at p
    rw [pd2s]
    obtain ⟨as, a, n1⟩ := Rp.reads2 I e h r p.1
    obtain ⟨bs, b, n2⟩ := RpAll.reads2 I e q t p.2
    exact ⟨_, .cons a b, fun m => (List.mem_append.mp m).elim n1 n2⟩
theorem RpT.reads2 (I : Inv X pins σ H s) (e : Ex G H) : ∀ {kvs : List (List Key × V)} {ds : List (D × D)}, RpT X.K G kvs ds → ∀ {xs : List (List Key × Addr × Value)}, KT H kvs xs → plain2kv ds = true →
    ∃ bs, ReadsAll s.heap (xs.map fun x => x.2.2) ((pd2kv ds).map (·.2)) bs ∧ (pd2kv ds).map (·.1) = kvs.map (fun p => PyData.tuple (pd2s (p.1.map kyD))) ∧ sysModules ∉ bs
  | _, _, .nil, _, .nil, _ => by
    rw [pd2kv]
    exact ⟨_, .nil, rfl, fun z => nomatch z⟩
  | _, _, .cons h q, _, .cons r t, p => by
    rw [plain2kv, Bool.and_eq_true, Bool.and_eq_true] at p
    obtain ⟨as, a, n1⟩ := Rp.reads2 I e h r.2.2 p.2.1
    obtain ⟨bs, b, e2, n2⟩ := RpT.reads2 I e q t p.2.2
    rw [pd2kv]
    refine ⟨_, .cons a b, ?_, fun m => (List.mem_append.mp m).elim n1 n2⟩
    rename_i k _ _ _ _ _ _
    rw [List.map_cons, List.map_cons, e2, pd2]
    all_goals exact congrArg (fun l => PyData.tuple (pd2s l) :: _) (List.map_congr_left fun x _ => by cases x <;> rfl)
end
def repOk2 (d : D) : Prop := plain2 d = true ∧ isRefD d = true ∧ (pd2 d).showable = true ∧ (pd2 d).shown.length ≤ sizeLine ∧ (pd2 d).depth ≤ 60
instance (d : D) : Decidable (repOk2 d) := by unfold repOk2; exact inferInstance
def reprD2 (d : D) : Str := (pd2 d).shown
def rRep2 (K : PySem.W.Frag) : List V → Hp → VK → Prop := fun xs H Q => ∃ v G d, xs = [v] ∧ Ex G H ∧ Rp K G v d ∧ repOk2 d ∧ Q (.str (reprD2 d)) H
end
end DL
namespace DL
open PySem PySem.Spec L2 PyProof.Rows
section
variable {X : Cx} {B : Base} {ρ : List Slot} {ie e : Expr} {es : List Expr} {pos lp sp p1 p2 : Pos} {CX : CXT} {k1 k2 : Nat} {f1 f2 : Addr} {fd1 fd2 : FuncData} {ps1 ps2 : List Str} {EE : XK} {x1 x2 : Str}
end
end DL
namespace DL
open PySem PySem.Spec L2
section
variable {X : Cx} {B : Base} {ρ : List Slot} {pos : Pos}
end
end DL
namespace DL
open PySem PySem.Spec L2
def isx (c t : Str) : Bool := decide (c = t) || (decide (t = "DrawError") || decide (t = "ValueError"))
structure XcOk (K : PySem.W.Frag) (mg : Str → Option Value) (x : Str) : Prop where
  g : mg x = some (.ref (He.ga K x))
  kp : PySem.W.keepIn K (.ref (He.ga K x)) = true
  bx : PySem.W.subIn K (.ref (He.ga K x)) (.type "BaseException") = some true
  ty : PySem.W.typeIn K (.ref (He.ga K x)) = some (.type "type")
  hd : PySem.W.hasDictIn K (He.ga K x) = true
  ga : PySem.W.findIn K (.ref (He.ga K x)) "__getattribute__" = some (some (.builtin "BaseException.__getattribute__"))
  gg : PySem.W.findIn K (.ref (He.ga K x)) "__getattr__" = some none
  ca : PySem.W.findIn K (.ref (He.ga K x)) "__class__" = some (some (.builtin "object.__class__"))
  om : PySem.W.mroIn K (He.ga K x) (.type "object") = some true
  nm : ClsNm K x (He.ga K x)
  un : ∀ C : Addr, ClsNm K x C → C = He.ga K x
  sg : PySem.W.specialIn K (.builtin "object.__class__") "__get__" = some (some (.builtin "getset_descriptor.__get__"))
  tk : PySem.W.takesIn K (.builtin "object.__class__") = some true
def nmB (x : Str) (o : Obj) : Bool := match o with
  | ⟨_, _, .cls cd, _⟩ => decide (cd.name = x)
  | _ => false
def xcB (K : PySem.W.Frag) (x : Str) : Bool :=
  decide (PySem.W.nsIn K mainGlobals x = some (some (.ref (He.ga K x)))) && (PySem.W.keepIn K (.ref (He.ga K x)) && (decide (PySem.W.subIn K (.ref (He.ga K x)) (.type "BaseException") = some true) && (decide (PySem.W.typeIn K (.ref (He.ga K x)) = some (.type "type")) && (PySem.W.hasDictIn K (He.ga K x) &&
    (decide (PySem.W.findIn K (.ref (He.ga K x)) "__getattribute__" = some (some (.builtin "BaseException.__getattribute__"))) && (decide (PySem.W.findIn K (.ref (He.ga K x)) "__getattr__" = some none) && (decide (PySem.W.findIn K (.ref (He.ga K x)) "__class__" = some (some (.builtin "object.__class__"))) &&
      (decide (PySem.W.mroIn K (He.ga K x) (.type "object") = some true) && (decide ((PySem.W.clsIn K (He.ga K x)).map (·.name) = some x) && (K.all (fun p => !nmB x p.2 || decide (p.1 = He.ga K x)) &&
        (decide (PySem.W.specialIn K (.builtin "object.__class__") "__get__" = some (some (.builtin "getset_descriptor.__get__"))) && decide (PySem.W.takesIn K (.builtin "object.__class__") = some true))))))))))))
structure XAll (K : PySem.W.Frag) (mg : Str → Option Value) (L : List Str) (T : List Str) (Fs : List Str) : Prop where
  l : ∀ c ∈ L, XcOk K mg c
  t : ∀ t ∈ T, XcOk K mg t
  k : ∀ c ∈ L, ∀ t ∈ T, PySem.W.kitOne K (.ref (He.ga K c)) (.ref (He.ga K t)) = some (isx c t)
  m : ∀ c ∈ L, ∀ t ∈ T, PySem.W.exmOne K (.ref (He.ga K c)) (.ref (He.ga K t)) = some (isx c t)
  v : ∀ c ∈ L, PySem.W.kitOne K (.ref (He.ga K c)) (.type "ValueError") = some true
  f : ∀ c ∈ L, ∀ f ∈ Fs, PySem.W.findIn K (.ref (He.ga K c)) f = some none
def xallB (K : PySem.W.Frag) (L T Fs : List Str) : Bool :=
  L.all (xcB K) && (T.all (xcB K) && (L.all (fun c => T.all fun t => decide (PySem.W.kitOne K (.ref (He.ga K c)) (.ref (He.ga K t)) = some (isx c t))) && (L.all (fun c => T.all fun t => decide (PySem.W.exmOne K (.ref (He.ga K c)) (.ref (He.ga K t)) = some (isx c t))) &&
    (L.all (fun c => decide (PySem.W.kitOne K (.ref (He.ga K c)) (.type "ValueError") = some true)) && L.all fun c => Fs.all fun f => decide (PySem.W.findIn K (.ref (He.ga K c)) f = some none)))))
def XDict (H : Hp) (d : Option Addr) : Prop := d = none ∨ ∃ dx fs, d = some dx ∧ H dx = some (.xd fs)
def rIsX (K : PySem.W.Frag) (mg : Str → Option Value) : List V → Hp → VK → Prop := fun xs H Q => ∃ (a : Addr) (d : Option Addr) (c : Str) (t : V) (tv : Value) (b : Bool), xs = [.ref a, t] ∧ H a = some (exq a (He.ga K c) d) ∧ XDict H d ∧ XcOk K mg c ∧ (∀ u, RelV t u → u = tv) ∧ PySem.W.kitOne K (.ref (He.ga K c)) tv = some b ∧ Q (.bl b) H
abbrev eX : Exn → D := Exn.d
def inL (x : Str) (L : List Str) : Bool := L.any fun y => decide (y = x)
section
variable {X : Cx} {B : Base} {ρ : List Slot} {a : Expr} {p p2 pos : Pos} {β : Type} {m : R β} {e : β → Exn} {ρ' : β → List Slot} {L T Fs : List Str}
def rIsXT (K : PySem.W.Frag) (mg : Str → Option Value) : List V → Hp → VK → Prop := fun xs H Q => ∃ (a tp : Addr) (d : Option Addr) (c : Str) (ts : List Str), xs = [.ref a, .ref tp] ∧ H a = some (exq a (He.ga K c) d) ∧ XDict H d ∧ XcOk K mg c ∧ H tp = some (.tup (ts.map fun t => V.ref (He.ga K t))) ∧ (∀ t ∈ ts, PySem.W.kitOne K (.ref (He.ga K c)) (.ref (He.ga K t)) = some (isx c t)) ∧ Q (.bl (ts.any (isx c))) H
def tXfd (K : PySem.W.Frag) (mg : Str → Option Value) (n : Str) (te : TE) : TE := fun σ H Q => te σ H fun x H1 => ∃ (a dd : Addr) (c : Str) (fs : List (Str × V)) (v : V), x = .ref a ∧ H1 a = some (exq a (He.ga K c) (some dd)) ∧ H1 dd = some (.xd fs) ∧ XcOk K mg c ∧ PySem.W.findIn K (.ref (He.ga K c)) n = some none ∧ fs.lookup n = some v ∧ Q v H1
end
end DL
namespace DL
open PySem PySem.Spec L2
def Base.rsAs (B : Base) (rs : Exn → Prop) : Base := ⟨B.H0, B.G0, B.Mo, B.m0, B.pv, rs⟩
theorem Anc.rsAs {B : Base} {G H : Hp} {rs : Exn → Prop} (h : Anc B G H) : Anc (B.rsAs rs) G H := ⟨h.keep, h.there, h.gsub, h.gnew, h.sub⟩
theorem Cell.rsAs {K : PySem.W.Frag} {B : Base} {G H : Hp} {rs : Exn → Prop} {x : Option V} {s : Slot} {A : List Addr} (h : Cell K B G H x s A) : Cell K (B.rsAs rs) G H x s A := by
  cases h with
  | non => exact .non
  | val h => exact .val h
  | own h l p => exact .own h l p
  | ali => exact .ali
theorem Cells.rsAs {K : PySem.W.Frag} {B : Base} {G H : Hp} {rs : Exn → Prop} {σ : L2.St} {ρ : List Slot} {A : List Addr} (h : Cells K B G H σ ρ A) : Cells K (B.rsAs rs) G H σ ρ A := by
  induction h with
  | nil => exact .nil
  | cons c _ ih => exact .cons c.rsAs ih
theorem En.rsAs {K : PySem.W.Frag} {B : Base} {G H : Hp} {rs : Exn → Prop} {σ : L2.St} {ρ : List Slot} {ex : List (V × Slot)} (E : En K B G H σ ρ ex) : En K (B.rsAs rs) G H σ ρ ex := by
  obtain ⟨A, c, n, f⟩ := E.own
  exact ⟨E.anc.rsAs, ⟨A, c.rsAs, n, f⟩, E.len, E.ali⟩
abbrev Base.calm (B : Base) : Base := B.rsAs fun _ => False
def noE {α : Type} : R α → R α
  | .ok a => .ok a
  | _ => .bad
section
variable {X : Cx} {B : Base} {ρ : List Slot} {e : Expr} {β : Type} {m : R β} {sl : β → Slot} {ρ' : β → List Slot} {bn : β → Bool} {st : Stmt} {sts : List Stmt} {N L T : Type}
end
structure ExnAt (K : PySem.W.Frag) (L : List Str) (G : Hp) (cls : Value) (d : Option Addr) (e : Exn) : Prop where
  l : e.cls ∈ L
  c : cls = .ref (He.ga K e.cls)
  n : ClsNm K e.cls (He.ga K e.cls)
  f : (e.ds = [] ∧ d = none) ∨ ∃ dx y z, d = some dx ∧ e.ds = [z] ∧ G dx = some (.xd [(e.fn, y)]) ∧ Rp K G y z
theorem ExnAt.ex {K : PySem.W.Frag} {L : List Str} {G G' : Hp} {cls : Value} {d : Option Addr} {e : Exn} (h : ExnAt K L G cls d e) (x : Ex G G') : ExnAt K L G' cls d e := by
  refine ⟨h.l, h.c, h.n, ?_⟩
  rcases h.f with f | ⟨dx, y, z, f1, f2, f3, f4⟩
  · exact .inl f
  · exact .inr ⟨dx, y, z, f1, f2, x _ _ f3, f4.ex x⟩
structure Rz (X : Cx) (B : Base) (L : List Str) (ρx : List Slot) (W : WX) : Prop where
  calm : X.calm = true
  tk : Takes X W
  w : ∀ e, B.rs e → ∀ (σ : L2.St) (G H : Hp) (cls : Value) (d : Option Addr), En X.K B G H σ ρx [] → ExnAt X.K L G cls d e → W cls d σ H
def nons (n : Nat) : List Slot := List.replicate n .non
def spX (K : PySem.W.Frag) (L : List Str) {α β : Type} (ins : α → List Slot) (m : α → R β) (sl : β → Slot) (outs : β → List Slot) : Sp := fun vs H Q E =>
  ∃ (a : α) (G : Hp) (As : List (List Addr)), En K (baseOf H G As vs fun _ => False) G H (vs.map some) (ins a) [] ∧
    (m a).post (fun b => ∀ v G' H', En K (baseOf H G As vs fun _ => False) G' H' (vs.map some) (outs b) [(v, sl b)] → Q v H') fun e => ∀ cls d G' H', En K (baseOf H G As vs fun _ => False) G' H' (vs.map some) (nons vs.length) [] → ExnAt K L G' cls d e → E cls d H'
section
variable {K : PySem.W.Frag} {B : Base} {G H : Hp} {σ : L2.St} {ρ : List Slot} {as : List Ar} {vs : List V}
end
abbrev FnX (P : Program) (w : World) (K : PySem.W.Frag) (mg : Str → Option Value) (bs : Heap) (k : Nat) (fa : Addr) (fd : FuncData) (ps : List Str) (sp : Sp) : Prop := FnG P w K mg bs (L2.CX P w) k fa fd ps sp
section
variable {X : Cx} {B : Base} {ρ : List Slot} {k : Nat} {f : Addr} {fd : FuncData} {ps : List Str} {sp : Sp} {x : Str} {p pos : Pos} {e : Expr} {es : List Expr} {t : TA}
end
section
variable {X : Cx} {B : Base} {ρ ρx : List Slot} {L : List Str} {W : WX} {N M T : Type} {F : Fin N M T} {pos pos2 p p2 : Pos} {x : Str}
end
end DL
namespace DL
open PySem PySem.Spec L2
def oxB (K : PySem.W.Frag) (C : Addr) : Bool := match K.lookup C with
  | some ⟨t, _, .cls cd, sl⟩ => decide (t = .type "type") && (match cd.mro with
    | .ref c :: bm => decide (c = C) && PySem.HandSPX.refsVE bm
    | _ => false) && (match sl.toList with
    | [_, _, _, _, some (.builtin n), _] => decide (n = "ValueError.__new__")
    | _ => false) && (!cd.hasDel && cd.hasDict)
  | _ => false
structure XiOk (K : PySem.W.Frag) (x f : Str) : Prop where
  o : OexC K (He.ga K x)
  i : PySem.W.findIn K (.ref (He.ga K x)) "__init__" = some (some (.ref (He.ma K (He.ga K x) "__init__")))
  t : PySem.W.typeIn K (.ref (He.ma K (He.ga K x) "__init__")) = some (.type "function")
  n : PySem.W.findIn K (.ref (He.ga K x)) f = some none
structure XbOk (K : PySem.W.Frag) (mg : Str → Option Value) (x : Str) : Prop where
  g : mg x = some (.ref (He.ga K x))
  s : PySem.W.specialIn K (.ref (He.ga K x)) "__getattribute__" = some (some (.builtin "type.__getattribute__"))
  r : PySem.W.readsIn K (He.ga K x) (.type "type") = true
  f : PySem.W.findCls K (.ref (He.ga K x)) (.type "type") "__init__" = some (.val (.builtin "ValueError.__init__"))
def xiB (K : PySem.W.Frag) (x f : Str) : Bool :=
  oxB K (He.ga K x) && (decide (PySem.W.findIn K (.ref (He.ga K x)) "__setattr__" = some (some (.builtin "object.__setattr__"))) && (decide (PySem.W.subIn K (.ref (He.ga K x)) (.type "BaseException") = some true) && (decide (PySem.W.typeIn K (.ref (He.ga K x)) = some (.type "type")) && (PySem.W.keepIn K (.ref (He.ga K x)) &&
    (decide (PySem.W.findIn K (.ref (He.ga K x)) "__init__" = some (some (.ref (He.ma K (He.ga K x) "__init__")))) && (decide (PySem.W.typeIn K (.ref (He.ma K (He.ga K x) "__init__")) = some (.type "function")) && decide (PySem.W.findIn K (.ref (He.ga K x)) f = some none)))))))
def xbB (K : PySem.W.Frag) (x : Str) : Bool :=
  decide (PySem.W.nsIn K mainGlobals x = some (some (.ref (He.ga K x)))) && (decide (PySem.W.specialIn K (.ref (He.ga K x)) "__getattribute__" = some (some (.builtin "type.__getattribute__"))) && (PySem.W.readsIn K (He.ga K x) (.type "type") &&
    (match PySem.W.findCls K (.ref (He.ga K x)) (.type "type") "__init__" with
      | some (.val v) => decide (v = .builtin "ValueError.__init__")
      | _ => false)))
section
variable {X : Cx} {e : Expr} {es : List Expr} {ta : TA} {p1 p2 pos : Pos} {x : Str}
end
def spI (K : PySem.W.Frag) (x f : Str) : Sp := fun vs H Q _ => ∃ (a : Addr) (y : V), vs = [.ref a, y] ∧ H a = some (exo a (He.ga K x) none) ∧ ∀ dx, H dx = none → dx ≠ a → Q .non (upd (upd H dx (exd dx [(f, y)])) a (exo a (He.ga K x) (some dx)))
def tI (K : PySem.W.Frag) (x f : Str) : TS := fun D σ H => ∃ (a : Addr) (y : V), σ[0]? = some (some (.ref a)) ∧ σ[1]? = some (some y) ∧ H a = some (exo a (He.ga K x) none) ∧ ∀ dx, H dx = none → dx ≠ a → D.nx σ (upd (upd H dx (exd dx [(f, y)])) a (exo a (He.ga K x) (some dx)))
section
variable {X : Cx} {B : Base} {ρ ρx : List Slot} {L : List Str} {W : WX} {N M T : Type} {F : Fin N M T} {pos pos2 p p2 : Pos} {x f v : Str} {e : Expr} {β : Type} {m : R β} {d : β → D} {ρ' : β → List Slot} {k : Nat} {fd : FuncData}
end
end DL
namespace DL
open PySem PySem.Spec L2
section
variable {P : Program} {w : World} {K : PySem.W.Frag} {mg : Str → Option Value} {base : Heap} {x : Str} {st : Stmt} {f : Addr} {fd : FuncData} {N ps : List Str} {k : Nat} {L : List Str}
end
abbrev heldX (X : Cx) (a : Addr) (pn : List (Addr × Obj)) : Cx := X.suite a pn
section
variable {X : Cx} {pins : List (Addr × Obj)} {σ : L2.St} {H : Hp} {s : Shared} {a C : Addr} {d : Option Addr} {oe : Obj} {vs : Array Value}
end
def wTry (K : PySem.W.Frag) (c : Value) (i : Nat) (ts : TS) (Wo : WX) (D : Ends) : WX := fun cls d σ H =>
  ∃ b, PySem.W.exmOne K cls c = some b ∧ (b = false → Wo cls d σ H) ∧ (b = true → ∃ C, cls = .ref C ∧ ∀ a, H a = none → ts { nx := fun σ' => D.nx (σ'.set i none), rt := D.rt, bk := fun σ' => D.bk (σ'.set i none), ct := fun σ' => D.ct (σ'.set i none) } (σ.set i (some (.ref a))) (upd H a (exq a C d)))
section
variable {X : Cx} {x n : Str} {c : Value} {i : Nat} {body suite : List Stmt} {b0 : Stmt} {np p1 p2 : Pos} {tb : WX → TS} {ts : TS} {Wo : WX}
end
end DL
namespace DL
open PySem PySem.Spec L2
def tryR {N M T : Type} (m : R (Fl N M T)) (c : Str) (h : Exn → R (Fl N M T)) : R (Fl N M T) := match m with
  | .ok x => .ok x
  | .err e => if isx e.cls c = true then h e else .err e
  | .bad => .bad
def Base.now (B : Base) (G : Hp) (rs : Exn → Prop) : Base := ⟨B.H0, G, B.Mo, B.m0, B.pv, rs⟩
theorem Cell.now {K : PySem.W.Frag} {B B' : Base} {G H : Hp} {x : Option V} {s : Slot} {A : List Addr} (h : Cell K B G H x s A) (e1 : B'.H0 = B.H0) (e2 : B'.Mo = B.Mo) (e3 : B'.pv = B.pv) : Cell K B' G H x s A := by
  cases h with
  | non => exact .non
  | val h => exact .val h
  | own h l p => exact .own h (fun a m => by rw [e1, e2]; exact l a m) (by rw [e3]; exact p)
  | ali => exact .ali
theorem Cells.now {K : PySem.W.Frag} {B B' : Base} {G H : Hp} {σ : L2.St} {ρ : List Slot} {A : List Addr} (h : Cells K B G H σ ρ A) (e1 : B'.H0 = B.H0) (e2 : B'.Mo = B.Mo) (e3 : B'.pv = B.pv) : Cells K B' G H σ ρ A := by
  induction h with
  | nil => exact .nil
  | cons c _ ih => exact .cons (c.now e1 e2 e3) ih
theorem En.now {K : PySem.W.Frag} {B : Base} {G H : Hp} {rs : Exn → Prop} {σ : L2.St} {ρ : List Slot} {ex : List (V × Slot)} (E : En K B G H σ ρ ex) : En K (B.now G rs) G H σ ρ ex := by
  obtain ⟨A, c, n, f⟩ := E.own
  exact ⟨⟨E.anc.keep, E.anc.there, Ex.refl G, fun _ _ z => .inl z, E.anc.sub⟩, ⟨A, c.now rfl rfl rfl, n, f⟩, E.len, E.ali⟩
section
variable {X : Cx} {B : Base} {ρ ρx : List Slot} {L T Fs : List Str} {N M U : Type} {F : Fin N M U} {x n : Str} {body suite : List Stmt} {b0 : Stmt} {np p1 p2 : Pos}
end
end DL
namespace DL
open PySem PySem.Spec L2
def eqA (x y : D) : Bool := PyData.eqv (toPy x) (toPy y)
def shA (x : D) : Prop := (toPy x).canLay0 = true ∧ SeqAt.shaped (toPy x) = true
instance (x : D) : Decidable (shA x) := by unfold shA; exact inferInstance
section
variable {K : PySem.W.Frag} {B : Base}
end
def asX (g : Addr → Option Obj) (n : Nat) : List Addr := cStatics :: He.asD g n
def obsXG (n : Nat) (fa : List He.Fa) (fn : List He.DefD) (ex : PySem.W.Frag → Bool) (g : Addr → Option Obj) : AlE := (He.obsD fa fn (He.frG g (asX g n)), ex (He.frG g (asX g n)))
def hookX (n : Nat) (fa : List He.Fa) (fn : List He.DefD) (ex : PySem.W.Frag → Bool) : PySem.W.Hook where
  α := AlE
  obs := fun s => obsXG n fa fn ex s.heap.get?
  val := fun _ => (He.valD fn, true)
  says := fun _ h => ∃ K : PySem.W.Frag, K.In h ∧ He.SaysD fa fn K ∧ ex K = true
  of := fun _ _ e => ⟨_, He.frG_in, congrArg (fun z : AlE => z.1) e, congrArg (fun z : AlE => z.2) e⟩
  keeps := fun _ _ _ ⟨K, hK, c⟩ k => ⟨K, PySem.W.Frag.In.keeps hK k, c⟩
end DL
namespace DL
open PySem PySem.Spec L2
def clsS (s : Stmt) (k : Nat) : Stmt := match s with
  | .ClassDef _ _ _ body _ _ _ _ _ _ _ => body.getD k (.Pass ⟨0, 0, 0, 0⟩)
  | _ => .Pass ⟨0, 0, 0, 0⟩
structure DI (K : PySem.W.Frag) (x : Str) (st : Stmt) (ps : List Str) where
  q : Str
  d : FuncData
  f : FunD K "__init__" q (defArgs st) (defBody st) (defScope st) [] [] (He.ma K (He.ga K x) "__init__") d
  b : Binds K d ps []
section
variable {X : Cx} {B : Base} {ρ : List Slot} {es : List Expr} {β : Type} {m : R β} {as : β → List Ar} {ρ' : β → List Slot}
end
end DL
namespace DL
open PySem PySem.Spec L2 PyProof.Rows
structure RoomW (k : Nat) (A : Around) : Prop where
  dp : A.depth + 3 * k + 5 < recursionLimit
  un : A.units + 16 * k + 200 < cLine
theorem RoomW.mono {j k : Nat} {A : Around} (h : RoomW k A) (l : j ≤ k) : RoomW j A := ⟨by have := h.dp; omega, by have := h.un; omega⟩
theorem RoomW.deeper {k : Nat} {A : Around} (h : RoomW (k + 1) A) (env : PySem.Env) : RoomW k (A.deeper env) :=
  ⟨by have := h.dp; show A.depth + 1 + 3 * k + 5 < _; omega, by have := h.un; show A.units + 3 + 16 * k + 200 < _; omega⟩
structure FnW (P : Program) (w : World) (K : PySem.W.Frag) (mg : Str → Option Value) (bs : Heap) (CX : CXT) (k : Nat) (fa : Addr) (fd : FuncData) (ps : List Str) (sp : Sp) : Prop where
  many : ∀ xs G Z W, sp xs G Z W → xs.length = ps.length
  go : ∀ (A : Around) (out : List PySem.Env) (t : Shared) (G : Hp) (ar : Args) (us : List Value) (xs : List V) (Z : VK) (W : XK), RoomW k A → Env0 P w K mg bs A out t G → BindsTo t fd ar (ps.zip us) → Vals xs us →
    sp xs G Z W → codeAny (model P w) A (.call (.ref fa) ar) (CR CX out P w G t Z W) t
abbrev cxW (CX : CXT) (P : Program) (w : World) (K : PySem.W.Frag) (mg : Str → Option Value) (base : Heap) (N : List Str) (qual : Str) (scope : Scope) (f : Addr) (cd : Value) (A : Around) (outer : List PySem.Env) (s : Shared) (H : Hp) (E : XK) : Cx :=
  { cxOf CX P w K mg base N qual scope f cd A outer s H E with calm := false }
section
variable {P : Program} {w : World} {K : PySem.W.Frag} {mg : Str → Option Value} {bs : Heap} {CX : CXT} {k : Nat} {fa : Addr} {fd : FuncData} {ps : List Str} {sp : Sp}
end
section
variable {X : Cx} {CX : CXT} {k : Nat} {f : Addr} {fd : FuncData} {ps : List Str} {sp : Sp} {W : XK} {x : Str} {p pos : Pos} {e : Expr} {es : List Expr} {t : TA}
end
section
variable {X : Cx} {B : Base} {ρ : List Slot} {e : Expr} {es : List Expr} {pos p : Pos} {CX : CXT} {k : Nat} {f : Addr} {fd : FuncData} {ps : List Str} {EE : XK} {x : Str}
end
section
variable {P : Program} {w : World} {K : PySem.W.Frag} {mg : Str → Option Value} {base : Heap} {x : Str} {st : Stmt} {f : Addr} {fd : FuncData} {N ps : List Str} {k : Nat}
end
end DL
namespace DL
open PySem PySem.Spec L2 PyProof.Rows
def sameB (k : Bool) : Value → Bool
  | .bool b => b == k
  | _ => false
section
variable {X : Cx}
def rCntB (K : PySem.W.Frag) : V → List V → Hp → VK → Prop := fun x xs H Q => ∃ (p : Addr) (bs : List Bool) (k : Bool), x = .ref p ∧ xs = [.bl k] ∧ SqL K H p (bs.map V.bl) ∧ Q (.int (bs.count k : Nat)) H
end
section
variable {X : Cx} {B : Base} {ρ : List Slot} {pos : Pos} {e obj : Expr}
end
end DL
namespace DL
open PySem PySem.Spec L2
section
variable {K : PySem.W.Frag} {B : Base} {G H : Hp} {σ : L2.St} {ρ : List Slot}
end
@[reducible] def oTP {α γ : Type} (f : α → D) (g : γ → D) (p : α × List γ) : OT := .tp [.dat (f p.1), oL g p.2]
section
variable {X : Cx} {B : Base} {ρ : List Slot} {pos : Pos} {e : Expr} {es : List Expr} {β : Type} {m : R β} {ρ' : β → List Slot}
end
end DL
namespace DL
open PySem PySem.Spec L2
section
variable {K : PySem.W.Frag} {B : Base} {ρ : List Slot}
abbrev rAddS : R2 := fun x y H Q => ∃ i j, x = .str i ∧ y = .str j ∧ i.length + j.length ≤ sizeLine ∧ Q (.str (i ++ j)) H
theorem od_addS {i j : Str} : OpD K B rAddS (.str i) (.str j) (R.guard (i.length + j.length ≤ sizeLine)) (fun _ => .val (.str (i ++ j))) :=
  od_val (w := .str (i ++ j)) (fun h G H vx vy Q _ hx hy q => ⟨i, j, hx.str_inv, hy.str_inv, h, q⟩) fun _ => .str _
def partS (i j : Str) : Bool := !(Builtin.Str.occurrences j i 0 j.length 1).isEmpty
abbrev rInS : R2 := fun x y H Q => ∃ i j, x = .str i ∧ y = .str j ∧ Q (.bl (!(Builtin.Str.occurrences j i 0 j.length 1).isEmpty)) H
abbrev rNiS : R2 := fun x y H Q => ∃ i j, x = .str i ∧ y = .str j ∧ Q (.bl (!(!(Builtin.Str.occurrences j i 0 j.length 1).isEmpty))) H
def sgAt (z : Str) (i : Int) : R Str := (R.guard (z.length ≤ sizeLine)).bind fun _ => (R.some (atI z.cps.toList i)).bind fun c => R.ok ⟨#[c]⟩
theorem od_ixS {z : Str} {i : Int} : OpD K B rIxS (.str z) (.int i) (sgAt z i) (fun c => .val (.str c)) := fun G H σ ρ vx vy Q E hx hy q => by
  obtain ⟨h, q⟩ := R.post_guard (R.post_bind.mp q)
  obtain ⟨c, hc, q⟩ := R.post_some (R.post_bind.mp q)
  exact ⟨z, i, c, hx.str_inv, hy.int_inv, h, hc, q (.str ⟨#[c]⟩) G H (Ex.refl G) (E.push (.str _))⟩
def sgs (z : Str) : List Str := z.cps.toList.map fun c => ⟨#[c]⟩
theorem yld_str {G : Hp} {z : Str} : Yld K (Its z) G ((sgs z).map D.str) where
  go := fun i H hi e => by
    have h : i < ((sgs z).map D.str).length := hi
    rw [List.length_map, sgs, List.length_map, Array.length_toList] at h
    exact h
  stop := fun i H hi e => by
    have h : ((sgs z).map D.str).length ≤ i := hi
    rw [List.length_map, sgs, List.length_map, Array.length_toList] at h
    exact h
  yld := fun B i G1 H1 σ ρ x H' e E hy d hd => by
    obtain ⟨rfl, c, hc, rfl⟩ := hy
    have : d = D.str ⟨#[c]⟩ := by
      rw [List.getElem?_map, sgs, List.getElem?_map, Array.getElem?_toList, hc] at hd
      injection hd with hd
      exact hd.symm
    subst this
    exact ⟨G1, Ex.refl G1, E, .str _⟩
end
def asS : D → Option Str
  | .str z => some z
  | _ => none
section
variable {X : Cx} {B : Base} {ρ : List Slot} {pos : Pos} {e obj tg it : Expr}
theorem jp_gstr {x : Str} {z : Str} {pos : Pos} (h : ∃ t, X.mg x = some (.str z t)) (hg : Gl X x := by rfl) (hd : (x == ("__debug__" : Str)) = false := by decide) : JP X B ρ (.Name x pos) (.str z) := by
  obtain ⟨t, h⟩ := h
  exact PE_imp (pe_glob (v := .str z) hg h (show RelV (.str z) (.str z t) from ⟨t, rfl⟩) hd) fun σ H Q ⟨G, E, q⟩ => q _ G H (Ex.refl G) (E.push (.str _))
theorem ji_str {β : Type} {m : R β} {z : β → Str} {ρ' : β → List Slot} (h : JE X B ρ it m (fun b => .val (.str (z b))) ρ') : JI X B ρ tg it m (fun b => (sgs (z b)).map D.str) ρ' :=
  PI_imp (pi_str h) fun σ H Q ⟨G, E, q⟩ => ⟨G, E, R.post_mono q fun b q1 v G' H' x E' => ⟨z b, E'.top.str_inv, q1 _ G' H' x E'.pop yld_str⟩⟩
def firstS (a b : Str) : Option Nat := (Builtin.Str.occurrences a b 0 a.length 1).head?
theorem strs_of {K : PySem.W.Frag} {G : Hp} : ∀ {zs : List Str} {vs : List V}, RpAll K G vs (zs.map D.str) → vs = zs.map V.str
  | [], _, h => by
    cases h
    rfl
  | z :: zs, _, h => by
    cases h with
    | cons r t =>
      rw [strs_of t, r.str_inv]
      rfl
theorem je_join {ap : Pos} {a : Str} {β : Type} {m : R β} {ys : β → List Str} {ρ' : β → List Slot} (ho : JP X B ρ obj (.str a)) (he : JE X B ρ e m (fun b => .val (eL D.str (ys b))) ρ') (hst : starEach [e] X.env = (false, eval e X.env) :: starEach [] X.env := by rfl)
    (base : attributeBase obj "join" X.env (eval obj X.env) = eval obj X.env := by rfl)
    (few : ((backTo pos (starEach [e] X.env)).all (fun x => !x.1) && (backToKw pos (keywordEach [] X.env)).all (fun x => x.1.isSome) && decide ([e].length + ([] : List Keyword).length + (if ([] : List Keyword).isEmpty then 0 else 1) < 30)) = true := by rfl)
    (line : (ap.endLine == pos.line) = true := by rfl) (pl : (backTo pos (starEach [] X.env)).any (·.1) = false := by rfl) :
    JE X B ρ (.Call (.Attribute obj "join" ap) [e] [] pos) (m.bind fun b => (R.guard (((ys b).map (·.length)).sum + (ys b).length * a.length ≤ 16777216)).bind fun _ => .ok b) (fun b => .val (.str (Txt.join a (ys b)))) ρ' := by
  refine PE_imp (pe_bm PySem.F.plainAttrs_str PySem.F.slot_str_join PySem.F.type_str_join mt_join ho (pa_cons he pa_nil hst) base few line hst pl) fun σ H Q ⟨G, E, q⟩ => ⟨G, E, fun v G1 H1 x1 E1 => ?_⟩
  have ev := E1.top.str_inv
  subst ev
  refine ⟨rfl, G1, E1.pop, R.post_mono (R.post_bind.mp q) fun b q1 w G2 H2 x2 E2 => ?_⟩
  obtain ⟨hz, q2⟩ := R.post_guard (R.post_bind.mp q1)
  obtain ⟨p, vs, ew, hS, hr⟩ := E2.top.lst_inv
  subst ew
  have e1 := strs_of hr
  subst e1
  exact ⟨a, p, ys b, rfl, rfl, .inl (.inl (E2.sub.rd hS)), hz, q2 _ G2 H2 (x1.trans x2) (E2.pop.push (.str _))⟩
theorem je_slZ {o1 o2 : Option Expr} {p2 : Pos} {lo hi : Option Int} {β : Type} {a : Expr} {m : R β} {z : β → Str} {ρ' : β → List Slot} (h : JE X B ρ a m (fun b => .val (.str (z b))) ρ') (h1 : ∀ b, JO X B (ρ' b) o1 lo) (h2 : ∀ b, JO X B (ρ' b) o2 hi) :
    JE X B ρ (.Subscript a (.Slice o1 o2 none p2) pos) (m.bind fun b => (R.guard ((z b).length ≤ sizeLine)).bind fun _ => .ok b) (fun b => .val (.str (cutS (z b) lo hi))) ρ' := by
  have h1' : PO X o1 (fun σ H Q => ∃ b, tJO X.K B (ρ' b) lo σ H Q) := ⟨fun pins s σ H Q I ⟨b, q⟩ => (h1 b).run pins s σ H Q I q⟩
  have h2' : PO X o2 (fun σ H Q => ∃ b, tJO X.K B (ρ' b) hi σ H Q) := ⟨fun pins s σ H Q I ⟨b, q⟩ => (h2 b).run pins s σ H Q I q⟩
  refine PE_imp (pe_slice sl_str h h1' h2') fun σ H Q ⟨G, E, q⟩ => ⟨G, E, R.post_mono (R.post_bind.mp q) fun b k v G1 H1 x1 E1 => ⟨b, G1, E1.pop, fun G2 H2 x2 E2 => ⟨b, G2, E2, fun G3 H3 x3 E3 => ?_⟩⟩⟩
  obtain ⟨hz, k⟩ := R.post_guard (R.post_bind.mp k)
  exact ⟨z b, E1.top.str_inv, hz, k _ G3 H3 (x1.trans (x2.trans x3)) (E3.push (.str _))⟩
end
section
variable {K : PySem.W.Frag} {B : Base} {G H : Hp}
theorem Cells.wkAt {d d' : D} (w : Wk d d') {σ : L2.St} {ρ : List Slot} {A : List Addr} (h : Cells K B G H σ ρ A) : ∀ {i : Nat}, ρ[i]? = some (.val d) → Cells K B G H σ (ρ.set i (.val d')) A := by
  induction h with
  | nil => exact fun e => nomatch e
  | cons c r ih =>
    intro i e
    cases i with
    | zero =>
      simp at e
      subst e
      cases c with
      | val h => exact .cons (.val (w K G _ h)) r
    | succ i => exact .cons c (ih (by simpa using e))
theorem En.wkAt {d d' : D} (w : Wk d d') {σ : L2.St} {ρ : List Slot} (E : En K B G H σ ρ []) {i : Nat} (h : ρ[i]? = some (.val d)) : En K B G H σ (ρ.set i (.val d')) [] := by
  obtain ⟨A, c, n, g⟩ := E.own
  refine ⟨E.anc, ⟨A, Cells.wkAt w (show Cells K B G H σ ρ A from c) h, n, g⟩, by rw [List.length_set]; exact E.len, fun k j p e => E.ali k j p ?_⟩
  rw [List.getElem?_set] at e
  split at e
  · split at e
    · injection e with e
      cases e
    · cases e
  · exact e
end
section
variable {X : Cx} {B : Base} {ρ : List Slot}
end
end DL
namespace L2
open PySem PySem.Spec PyProof.Rows HT
section
variable {X : Cx}
def rCatF (K : PySem.W.Frag) : R2 := fun x y H Q => ∃ a b xs ys, x = .ref a ∧ y = .ref b ∧ SqT K H a xs ∧ SqT K H b ys ∧ (xs ≠ [] ∧ ys ≠ []) ∧ xs.length + ys.length ≤ sizeLine ∧
  ∀ p ob', H p = none → ob'.dict = none → Q (.ref p) (upd H p (.frz ob' (.tup (xs ++ ys))))
end
end L2
namespace DL
open PySem PySem.Spec L2
section
variable {X : Cx} {B : Base} {ρ : List Slot} {pos : Pos} {a e e2 tg : Expr} {β α γ : Type} {K : PySem.W.Frag}
end
end DL
namespace L2
open PySem PySem.Spec PyProof.Rows
section
variable {X : Cx}
def rListR : List V → Hp → VK → Prop := fun xs H Q => ∃ p kvs, xs = [.ref p] ∧ Rd H p (.dK kvs) ∧ ∀ q, H q = none → Q (.ref q) (upd H q (.lst (kvs.map fun kv => kV kv.1)))
def tFrz (t : TE) : TE := fun σ H Q => t σ H fun v H1 => ∃ d u, v = .ref d ∧ H1 d = some u ∧ Mut (some u) ∧ ∀ od, Q v (upd H1 d (.frz od u))
theorem pe_frz {e : Expr} {t : TE} (h : PE X e t) : PE X e (tFrz t) := by
  refine ⟨fun pins s σ H Q I hw => ?_⟩
  refine thn (h.run pins s σ _ _ I hw) fun v s1 ⟨x, H1, I1, r, d, u, ex, hd, mu, q⟩ => ?_
  obtain ⟨od, I2⟩ := I1.lock hd mu
  exact ⟨x, _, I2, r, q od⟩
end
end L2
namespace DL
open PySem PySem.Spec L2
section
variable {β : Type}
@[reducible] def eDK (f : β → D) (kvs : List (Int × β)) : D := .ddk (kvs.map fun p => (D.int p.1, f p.2))
@[reducible] def eDl (f : β → D) (kvs : List (Int × β)) : D := .dict (kvs.map fun p => (D.int p.1, f p.2))
theorem toD_odK (f : β → D) (kvs : List (Int × β)) : (odK f kvs).toD = eDl f kvs := by
  rw [odK, OT.toD, eDl, List.map_map]
  rfl
def lookI (kvs : List (Int × β)) (k : Int) : Option β := (kvs.find? fun p => decide (p.1 = k)).map (·.2)
def dropI (kvs : List (Int × β)) (k : Int) : List (Int × β) := kvs.filter fun p => decide (p.1 ≠ k)
end
section
variable {K : PySem.W.Frag} {B : Base} {G H : Hp} {σ : L2.St} {ρ : List Slot} {ex : List (V × Slot)}
theorem En.lockDK {v : V} {ds : List (Key × D)} (E : En K B G H σ ρ ((v, .own 0 (.dk ds)) :: ex)) (hal : noAlis ρ = true) : ∃ d kvs, v = .ref d ∧ H d = some (.dK kvs) ∧
    ∀ od, ∃ G', Ex G G' ∧ En K B G' (upd H d (.frz od (.dK kvs))) σ ρ ((v, .val (.ddk (ds.map fun p => (keyD p.1, p.2)))) :: ex) := by
  obtain ⟨A, c, n, f⟩ := E.own
  cases c with
  | @cons _ _ A1 _ _ A2 c r =>
    cases c with
    | own h l _ =>
      cases h with
      | @dk a kvs _ hd hr =>
        have n1 := List.nodup_append.mp n
        have hA : ∀ b ∈ [a], G b = none ∧ B.H0 b = none := fun b m => ⟨f b (List.mem_append_left _ m), (l b m).resolve_left (by rw [B.m0]; exact fun z => nomatch z)⟩
        have ha := hA a List.mem_cons_self
        refine ⟨a, kvs, rfl, hd, fun od => ?_⟩
        have eG : Ex G fun b => if b ∈ [a] then (upd H a (.frz od (.dK kvs))) b else G b := fun b u e => by
          show (if b ∈ [a] then _ else G b) = _
          by_cases hb : b ∈ [a]
          · rw [(hA b hb).1] at e
            cases e
          · rw [if_neg hb]
            exact e
        have hG' : (fun b => if b ∈ [a] then (upd H a (.frz od (.dK kvs))) b else G b) a = some (.frz od (.dK kvs)) := by
          show (if a ∈ [a] then _ else G a) = _
          rw [if_pos List.mem_cons_self, upd_same]
        refine ⟨_, eG, (E.anc.put ha.1 (.inr ha.2) _).frz hA, ⟨[] ++ A2, .cons (.val (.ddk hG' (hr.ex eG).k)) (r.ex eG fun b m u e => by
            rw [upd_ne (fun z => by
              subst z
              exact n1.2.2 b List.mem_cons_self b m rfl)]
            exact e), n1.2.1, fun b m => ?_⟩, E.len, fun i j p e => absurd e (noAlis_get hal)⟩
        have hb : b ∉ [a] := fun z => n1.2.2 b z b m rfl
        show (if b ∈ [a] then _ else G b) = _
        rw [if_neg hb]
        exact f b (List.mem_append_right _ m)
end
section
variable {K : PySem.W.Frag} {G : Hp} {β : Type} {f : β → D}
end
section
variable {X : Cx} {B : Base} {ρ : List Slot} {e a o o2 e2 tg it val : Expr} {pos pos' ap cp : Pos} {β γ : Type} {f : β → D}
def rDGet : R2 := fun x y H Q => ∃ a v, x = .ref a ∧ DGet H a y (some v) ∧ Q v H
theorem pe_dgetO {td ty : TE} (hu : X.A.units + 64 < cLine) (ho : PE X o td) (hi : PE X e2 ty) (hs : NoSl e2) : PE X (.Subscript o e2 pos) (tOp rDGet td ty) := pe_dget (by omega) ho hi hs
def rDIn (c : Bool) : R2 := fun y x H Q => ∃ a o, x = .ref a ∧ DGet H a y o ∧ Q (.bl (if c then o.isSome else !o.isSome)) H
section
variable {x : Str} {px : Pos} {l : Nat} {kvs : List (Int × β)} {k : Int}
end
end
end DL
namespace DL
open PySem PySem.Spec L2 PyProof.Rows
def atomD : D → Bool
  | .none => true
  | .int _ => true
  | _ => false
def sameD : D → D → Bool
  | .int k, .int i => i == k
  | .none, .none => true
  | _, _ => false
def cntD (xs : List D) (k : D) : Int := ((xs.countP (sameD k) : Nat) : Int)
inductive AtV : V → D → Prop
  | non : AtV .non .none
  | int (i : Int) : AtV (.int i) (.int i)
def sameA : D → Value → Bool
  | .int k, .int i _ => i == k
  | .none, .none => true
  | _, _ => false
theorem AtV.val {v : V} {d : D} (h : AtV v d) {u : Value} (r : RelV v u) (k : D) : sameA k u = sameD k d := by
  cases h with
  | non =>
    have r : u = .none := r
    subst r
    cases k <;> rfl
  | int i =>
    obtain ⟨t, r⟩ : ∃ t, u = .int i t := r
    subst r
    cases k <;> rfl
theorem AtV.eq {v w : V} {d k : D} (h : AtV v d) (g : AtV w k) {u x : Value} (r : RelV v u) (q : RelV w x) {A : Around} {s : Shared} : SeqAt.EqAt A s u x (sameA k u) := by
  cases h with
  | non =>
    have r : u = .none := r
    subst r
    cases g with
    | non =>
      have q : x = .none := q
      subst q
      exact SeqAt.EqAt.same _
    | int j =>
      obtain ⟨t, q⟩ : ∃ t, x = .int j t := q
      subst q
      exact SeqAt.EqAt.none_int j t
  | int i =>
    obtain ⟨t, r⟩ : ∃ t, u = .int i t := r
    subst r
    cases g with
    | non =>
      have q : x = .none := q
      subst q
      exact SeqAt.EqAt.int_none i t
    | int j =>
      obtain ⟨t', q⟩ : ∃ t, x = .int j t := q
      subst q
      exact SeqAt.EqAt.int_int i t j t'
section
variable {X : Cx}
def rCntD (K : PySem.W.Frag) : V → List V → Hp → VK → Prop := fun x xs H Q => ∃ (p : Addr) (vs : List V) (ds : List D) (k : D) (w : V), x = .ref p ∧ xs = [w] ∧ SqL K H p vs ∧ Paired AtV vs ds ∧ AtV w k ∧ Q (.int (cntD ds k)) H
end
section
variable {X : Cx} {B : Base} {ρ : List Slot} {pos : Pos} {e obj : Expr}
end
end DL
namespace DL
open PySem PySem.Spec L2
def Base.cover (B : Base) (H : Hp) (A : List Addr) : Base := { B with H0 := fun a => if a ∈ A then H a else B.H0 a, Mo := fun l => (B.Mo l).filter (fun a => decide (a ∉ A)), m0 := by rw [B.m0]; rfl }
section
variable {K : PySem.W.Frag} {B B' : Base} {G G' H H' G1 G2 H1 : Hp}
theorem Cells.lab : ∀ {σ : List (Option V)} {ρ : List Slot} {A : List Addr}, Cells K B G H σ ρ A → ∀ a ∈ A, (∃ l, a ∈ B.Mo l) ∨ B.H0 a = none
  | _, _, _, .nil, _, m => nomatch m
  | _, _, _, .cons c r, a, m => by
    rcases List.mem_append.mp m with m | m
    · cases c with
      | own _ k _ => exact (k a m).imp (fun z => ⟨_, z⟩) id
      | non => cases m
      | val _ => cases m
      | ali => cases m
    · exact Cells.lab r a m
theorem En.hide {σ : L2.St} {ρ : List Slot} (E : En K B G H σ ρ []) {i l : Nat} {o : OT} (h : ρ[i]? = some (.own l o)) (hal : noAlis ρ = true) : ∃ B' : Base, B'.rs = B.rs ∧ En K B' G H σ (ρ.set i .non) [] ∧
    ∀ G1 H1 ρ1 ex, Ex G G1 → En K B' G1 H1 σ ρ1 ex → ρ1[i]? = some .non → noAlis ρ1 = true → En K B G1 H1 σ (ρ1.set i (.own l o)) ex := by
  obtain ⟨A0, c, n, g⟩ := E.own
  obtain ⟨v, A, A2, e1, hO, ⟨hl, hp⟩, c2, pm⟩ := Cells.take1 (show Cells K B G H σ ρ A0 from c) h
  have nn := pm.nodup_iff.mp n
  have n1 := List.nodup_append.mp nn
  have hA : ∀ a ∈ A, G a = none := fun a m => g a (pm.mem_iff.mpr (List.mem_append_left _ m))
  have hA2 : ∀ a ∈ A2, G a = none := fun a m => g a (pm.mem_iff.mpr (List.mem_append_right _ m))
  have hT : ∀ a ∈ A, H a ≠ none := fun a m z => by
    obtain ⟨vs, e, _⟩ := hO.thereL a m
    rw [e] at z
    cases z
  have c3 : Cells K (B.cover H A) G H σ (ρ.set i .non) A2 := by
    refine Cells.reb (B := B) c2 (fun l a m k => ?_) rfl
    have ha : a ∉ A := fun z => n1.2.2 a z a m rfl
    rcases k with k | k
    · exact .inl (List.mem_filter.mpr ⟨k, decide_eq_true ha⟩)
    · refine .inr ?_
      show (if a ∈ A then H a else B.H0 a) = _
      rw [if_neg ha, k]
  have hi : i < ρ.length := (List.getElem?_eq_some_iff.mp h).1
  have an : Anc (B.cover H A) G H := by
    refine ⟨fun a u hm e => ?_, fun a l hm => E.anc.there a l (List.mem_filter.mp hm).1, E.anc.gsub, fun a e1 e2 => ?_, E.anc.sub⟩
    · have e : (if a ∈ A then H a else B.H0 a) = some u := e
      by_cases ha : a ∈ A
      · rw [if_pos ha] at e
        exact e
      · rw [if_neg ha] at e
        exact E.anc.keep a u (fun l m => hm l (List.mem_filter.mpr ⟨m, decide_eq_true ha⟩)) e
    · by_cases ha : a ∈ A
      · exact .inl (hA a ha)
      · have e1 : (if a ∈ A then H a else B.H0 a) ≠ none := e1
        rw [if_neg ha] at e1
        exact E.anc.gnew a e1 e2
  refine ⟨B.cover H A, rfl, ⟨an, ⟨A2, c3, n1.2.1, hA2⟩, by rw [List.length_set]; exact E.len, fun k j p e => ?_⟩, fun G1 H1 ρ1 ex x E1 h2 ha2 => ?_⟩
  · by_cases hk : i = k
    · subst hk
      rw [List.getElem?_set_self hi] at e
      cases e
    · rw [List.getElem?_set_ne hk] at e
      exact absurd e (noAlis_get hal)
  · obtain ⟨A5, c5, n5, g5⟩ := E1.own
    have kp : ∀ a ∈ A, ∀ u, H a = some u → H1 a = some u := fun a m u e => E1.anc.keep a u (fun l z => by
      have z := (List.mem_filter.mp z).2
      simp at z
      exact z m) (by
      show (if a ∈ A then H a else B.H0 a) = _
      rw [if_pos m, e])
    have hG0 : ∀ a ∈ A, B.G0 a = none := fun a m => by
      cases e : B.G0 a with
      | none => rfl
      | some u =>
        have := E.anc.gsub a u e
        rw [hA a m] at this
        cases this
    have hG1 : ∀ a ∈ A, G1 a = none := fun a m => E1.anc.gnone (by
      show (if a ∈ A then H a else B.H0 a) ≠ none
      rw [if_pos m]
      exact hT a m) (hG0 a m) (fun xs z => (hO.ex x kp).nt a m xs z)
    have disj : ∀ a ∈ A5, a ∉ A := fun a m ha => by
      rcases c5.lab a m with ⟨l', z⟩ | z
      · have z := (List.mem_filter.mp z).2
        simp at z
        exact z ha
      · have z : (if a ∈ A then H a else B.H0 a) = none := z
        rw [if_pos ha] at z
        exact hT a ha z
    have c7 : Cells K B G1 H1 (ex.map (fun p => some p.1) ++ σ) (ex.map (·.2) ++ ρ1) A5 := by
      refine Cells.reb (B := B.cover H A) c5 (fun l a m k => ?_) rfl
      have ha := disj a m
      rcases k with k | k
      · exact .inl (List.mem_filter.mp k).1
      · refine .inr ?_
        have k : (if a ∈ A then H a else B.H0 a) = none := k
        rw [if_neg ha] at k
        exact k
    have hO1 : Own K G1 H1 v o A := hO.ex x kp
    obtain ⟨A8, c8, p8⟩ := c7.put1 (i := ex.length + i) (l := l) (o := o) (v := v) (A1 := A) (by
      rw [List.getElem?_append_right (by simp), List.length_map]
      simpa using h2) (by
      rw [List.getElem?_append_right (by simp), List.length_map]
      simpa using e1) hO1 ⟨hl, hp⟩
    rw [List.set_append_right _ _ (by simp), List.length_map, Nat.add_sub_cancel_left] at c8
    have hi2 : i < ρ1.length := (List.getElem?_eq_some_iff.mp h2).1
    have an1 : Anc B G1 H1 := by
      refine ⟨fun a u hm e => ?_, fun a l' hm => ?_, E1.anc.gsub, fun a e1 e2 => ?_, E1.anc.sub⟩
      · have ha : a ∉ A := fun ha => by
          rcases hl a ha with k | k
          · exact hm l k
          · rw [k] at e
            cases e
        exact E1.anc.keep a u (fun l m => hm l (List.mem_filter.mp m).1) (by
          show (if a ∈ A then H a else B.H0 a) = _
          rw [if_neg ha, e])
      · by_cases ha : a ∈ A
        · obtain ⟨u, e, _⟩ := hO.thereL a ha
          rw [kp a ha u e]
          exact fun z => nomatch z
        · exact E1.anc.there a l' (List.mem_filter.mpr ⟨hm, decide_eq_true ha⟩)
      · by_cases ha : a ∈ A
        · exact .inl (hG1 a ha)
        · exact E1.anc.gnew a (by
            show (if a ∈ A then H a else B.H0 a) ≠ none
            rw [if_neg ha]
            exact e1) e2
    refine ⟨an1, ⟨A8, c8, p8.nodup_iff.mpr (List.nodup_append.mpr ⟨n1.1, n5, fun a m b m2 e => ?_⟩), fun a m => ?_⟩, ?_, fun k j p e => ?_⟩
    · subst e
      exact disj a m2 m
    · rcases List.mem_append.mp (p8.mem_iff.mp m) with m | m
      · exact hG1 a m
      · exact g5 a m
    · rw [List.length_set]
      exact E1.len
    · by_cases hk : i = k
      · subst hk
        rw [List.getElem?_set_self hi2] at e
        cases e
      · rw [List.getElem?_set_ne hk] at e
        exact absurd e (noAlis_get ha2)
end
section
variable {X : Cx} {B : Base} {ρ : List Slot} {pos : Pos} {e : Expr}
end
section
variable {K : PySem.W.Frag} {B : Base} {β : Type} {f : β → D} {kvs : List (Int × β)} {k : Int}
end
section
variable {X : Cx} {B : Base} {ρ : List Slot} {pos : Pos} {obj e : Expr}
end
section
variable {X : Cx} {a o : Expr} {pos : Pos}
theorem pt_dinO {ta td : TE} (hu : X.A.units + 64 < cLine) (hi : PE X a ta) (ho : PE X o td) (hm : behindInMarks .In o = false) : PT X (.Compare a [.In] [o] pos) (tTest (tOp (rDIn true) ta td)) := pt_cmp (pc_din (by omega) hi ho) hm
end
end DL
namespace DL
open PySem PySem.Spec L2 PySem.W PyProof.Rows
section
variable {K : PySem.W.Frag} {B : Base} {ρ : List Slot}
end
end DL
namespace L2
open PySem PySem.Spec PyProof.Rows HT
section
variable {X : Cx}
def rCatRR : R2 := fun x y H Q => ∃ a b oa ob xs ys, x = .ref a ∧ y = .ref b ∧ H a = some (.frz oa (.tup xs)) ∧ H b = some (.frz ob (.tup ys)) ∧ xs.length + ys.length ≤ sizeLine ∧
  (xs = [] → Q (.ref b) H) ∧ (xs ≠ [] → ys = [] → Q (.ref a) H) ∧ (xs ≠ [] → ys ≠ [] → ∀ p ob', H p = none → ob'.dict = none → Q (.ref p) (upd H p (.frz ob' (.tup (xs ++ ys)))))
def reprB (b : Bool) : Str := if b then "True" else "False"
end
end L2
namespace DL
open PySem PySem.Spec L2
section
variable {X : Cx} {B : Base} {ρ : List Slot} {pos : Pos} {a e e2 tg : Expr} {β α γ : Type} {K : PySem.W.Frag}
end
def asRIs : List D → Option (List (List Int))
  | [] => some []
  | d :: ds => match asRI d, asRIs ds with
    | some i, some l => some (i :: l)
    | _, _ => none
def asTRI (d : D) : Option (List (List Int)) := (asT d).bind asRIs
section
variable {K : PySem.W.Frag} {B : Base} {ρ : List Slot}
end
end DL
namespace L2
open PySem PySem.Spec PyProof.Rows
section
variable {X : Cx}
inductive Locked : Hp → List Addr → Hp → Prop
  | nil (H : Hp) : Locked H [] H
  | cons {H H' : Hp} {d : Addr} {od : Obj} {u : HO} {L : List Addr} : H d = some u → Locked (upd H d (.frz od u)) L H' → Locked H (d :: L) H'
def tFrzA (t : TE) : TE := fun σ H Q => t σ H fun v H1 => ∃ L : List Addr, L.Nodup ∧ (∀ d ∈ L, ∃ u, H1 d = some u ∧ Mut (some u)) ∧ ∀ H2, Locked H1 L H2 → Q v H2
theorem Locked.out : ∀ {L : List Addr} {H H2 : Hp}, Locked H L H2 → ∀ a, a ∉ L → H2 a = H a
  | _, _, _, .nil _, _, _ => rfl
  | _, _, _, .cons (d := d) h l, a, ha => by
    rw [l.out a fun m => ha (List.mem_cons_of_mem _ m), upd_ne (fun z => ha (by rw [z]; exact List.mem_cons_self))]
end
end L2
namespace DL
open PySem PySem.Spec L2
section
variable {β : Type}
@[reducible] def odd (f : β → D) (kds : List (Int × List (Int × β))) : OT := .dko (kds.map fun p => Sum.inl p.1) (kds.map fun p => odK f p.2)
end
section
variable {K : PySem.W.Frag} {B : Base} {G H : Hp} {σ : L2.St} {ρ : List Slot} {ex : List (V × Slot)} {β : Type} {f : β → D}
theorem own_pairs : ∀ {xs : List (Int × OT)} {vs : List V} {A : List Addr}, OwnAll K G H vs (xs.map fun p => OT.tp [.dat (.int p.1), p.2]) A → ∃ (ps : List Addr) (kvs : List (Key × V)), vs = ps.map V.ref ∧ Paired (fun p kv => SqT K G p [kV kv.1, kv.2]) ps kvs ∧ kvs.map (·.1) = xs.map (fun p => (Sum.inl p.1 : Key)) ∧ OwnAll K G H (kvs.map (·.2)) (xs.map (·.2)) A
  | [], _, _, .nil => ⟨[], [], rfl, .nil, rfl, .nil⟩
  | x :: xs, _, _, .cons h r => by
    obtain ⟨ps, kvs, e1, e2, e3, e4⟩ := own_pairs r
    cases h with
    | @tp a ws _ A1 hS hall =>
      cases hall with
      | cons h1 r1 =>
        cases r1 with
        | cons h2 r2 =>
          cases r2
          cases h1 with
          | dat h1 =>
            have h1 := h1.int_inv
            subst h1 e1
            refine ⟨a :: ps, (Sum.inl x.1, _) :: kvs, rfl, .cons hS e2, by rw [List.map_cons, e3]; rfl, ?_⟩
            have := OwnAll.cons h2 e4
            simpa using this
theorem mergeK_new : ∀ {more kvs : List (Key × V)}, (more.map (·.1)).Nodup → (∀ k ∈ more.map (·.1), k ∉ kvs.map (·.1)) → mergeK kvs more = kvs ++ more
  | [], kvs, _, _ => by rw [List.append_nil]; rfl
  | (k, v) :: more, kvs, nd, h => by
    have n2 := List.nodup_cons.mp nd
    have no : (kvs.any fun kv => decide (kv.1 = k)) = false := by
      rw [List.any_eq_false]
      intro kv hkv
      have := h k List.mem_cons_self
      simp only [decide_eq_true_eq]
      intro e
      exact this (List.mem_map.mpr ⟨kv, hkv, e⟩)
    have e : putK kvs k v = kvs ++ [(k, v)] := by
      unfold putK
      rw [no]
      rfl
    show mergeK (putK kvs k v) more = _
    rw [e, mergeK_new n2.2 fun k2 hk2 => ?_, List.append_assoc]
    · rfl
    · rw [List.map_append]
      intro m
      rcases List.mem_append.mp m with m | m
      · exact h k2 (List.mem_cons_of_mem _ hk2) m
      · have : k2 = k := List.mem_singleton.mp m
        exact n2.1 (by rw [← this]; exact hk2)
theorem En.dko {v : V} {xs : List (Int × OT)} (E : En K B G H σ ρ ((v, .own 0 (.lst (xs.map fun p => OT.tp [.dat (.int p.1), p.2]))) :: ex)) : ∃ a ps kvs, v = .ref a ∧ H a = some (.lst (ps.map V.ref)) ∧ Paired (fun p kv => SqT K G p [kV kv.1, kv.2]) ps kvs ∧ kvs.map (·.1) = xs.map (fun p => (Sum.inl p.1 : Key)) ∧
    ∀ p, H p = none → En K B G (upd H p (.dK kvs)) σ ρ ((.ref p, .own 0 (.dko (xs.map fun p => Sum.inl p.1) (xs.map (·.2)))) :: ex) := by
  obtain ⟨A, cs, n, g⟩ := E.own
  cases cs with
  | @cons _ _ A1 _ _ A2 c0 cr =>
    cases c0 with
    | own hO hl hp =>
      cases hO with
      | @lst a vs _ A3 hH hall =>
        obtain ⟨ps, kvs, e1, e2, e3, e4⟩ := own_pairs hall
        subst e1
        refine ⟨a, ps, kvs, rfl, hH, e2, e3, fun p hp0 => ?_⟩
        have hG := E.sub.back hp0
        have h0 := E.fresh hp0
        have ht := E.own
        have nin : ∀ b ∈ (a :: A3) ++ A2, b ≠ p := fun b m z => by
          obtain ⟨u, hu⟩ := (Cells.cons (Cell.own (Own.lst hH hall) hl hp) cr).there b m
          rw [z, hp0] at hu
          cases hu
        have n1 := List.nodup_append.mp n
        have n2 := List.nodup_cons.mp n1.1
        have keep : ∀ b ∈ A3 ++ A2, ∀ u, H b = some u → upd H p (.dK kvs) b = some u := fun b m u e => by
          rw [upd_ne (nin b (by
            rcases List.mem_append.mp m with m | m
            · exact List.mem_append_left _ (List.mem_cons_of_mem _ m)
            · exact List.mem_append_right _ m))]
          exact e
        refine ⟨E.anc.put hG (.inr h0) _, ⟨(p :: A3) ++ A2, .cons (.own (.dko upd_same e3 (e4.ex (Ex.refl G) fun b m u e => keep b (List.mem_append_left _ m) u e)) (fun b m => ?_) (.inl rfl)) (cr.ex (Ex.refl G) fun b m u e => keep b (List.mem_append_right _ m) u e), ?_, fun b m => ?_⟩, E.len, fun i j q e => ?_⟩
        · rcases List.mem_cons.mp m with rfl | m
          · exact .inr h0
          · exact hl b (List.mem_cons_of_mem _ m)
        · refine List.nodup_append.mpr ⟨List.nodup_cons.mpr ⟨fun m => nin p (List.mem_append_left _ (List.mem_cons_of_mem _ m)) rfl, n2.2⟩, n1.2.1, fun x hx y hy => ?_⟩
          rcases List.mem_cons.mp hx with rfl | hx
          · exact fun z => nin y (List.mem_append_right _ hy) z.symm
          · exact n1.2.2 x (List.mem_cons_of_mem _ hx) y hy
        · rcases List.mem_append.mp m with m | m
          · rcases List.mem_cons.mp m with rfl | m
            · exact hG
            · exact g b (List.mem_append_left _ (List.mem_cons_of_mem _ m))
          · exact g b (List.mem_append_right _ m)
        · obtain ⟨v, w, h1, h2, h3⟩ := E.ali i j q e
          exact ⟨v, w, h1, h2, h3.ex (Ex.new hp0)⟩
end
section
variable {X : Cx} {B : Base} {ρ : List Slot} {e a o o2 e1 e2 tg it val : Expr} {pos pos' p1 ap cp : Pos} {β γ : Type} {f : β → D}
@[reducible] def oTK (f : β → D) (p : Int × List (Int × β)) : OT := .tp [.dat (.int p.1), odK f p.2]
theorem je_dictDD {E0 : Expr} {m : R γ} {xs : γ → List (Int × List (Int × β))} {ρ' : γ → List Slot} (hp : ∀ t, PA X [e] t → PE X E0 (tCB (rDictP X.K) t)) (h : JE X B ρ e m (fun b => .own 0 (.lst ((xs b).map (oTK f)))) ρ') (hst : starEach [e] X.env = (false, eval e X.env) :: starEach [] X.env := by rfl) :
    JE X B ρ E0 (m.bind fun b => (R.guard ((xs b).map (·.1)).Nodup).bind fun _ => .ok b) (fun b => .own 0 (odd f (xs b))) ρ' :=
  PE_imp (hp _ (pa_cons h pa_nil hst)) fun σ H Q ⟨G, E, q⟩ => ⟨G, E, R.post_mono (R.post_bind.mp q) fun b q v G1 H1 x1 E1 => by
    obtain ⟨nd, q⟩ := R.post_guard (R.post_bind.mp q)
    have E1' : En X.K B G1 H1 σ (ρ' b) ((v, .own 0 (.lst (((xs b).map fun p => (p.1, odK f p.2)).map fun p => OT.tp [.dat (.int p.1), p.2]))) :: []) := by
      rw [List.map_map]
      exact E1
    obtain ⟨a, ps, kvs, hv, hH, hpr, hk, mk⟩ := E1'.dko
    rw [List.map_map, List.map_map] at mk
    rw [List.map_map] at hk
    refine ⟨a, ps, kvs, by rw [hv], .inl (.inl hH), paired_ex E1.sub hpr, fun p hp0 => ?_⟩
    have kn : (kvs.map (·.1)).Nodup := by
      rw [hk]
      have e : ((xs b).map ((fun p : Int × OT => (Sum.inl p.1 : Key)) ∘ fun p => (p.1, odK f p.2))) = ((xs b).map (·.1)).map Sum.inl := by rw [List.map_map]; rfl
      rw [e]
      exact List.Pairwise.map _ (fun x y ne z => ne (Sum.inl.inj z)) nd
    have em : mergeK [] kvs = kvs := by rw [mergeK_new kn fun k _ => by simp, List.nil_append]
    rw [em]
    exact q _ G1 _ x1 (mk p hp0)⟩
end
def asLI : D → Option (List Int)
  | .list ds => asIs ds
  | _ => none
section
variable {X : Cx} {B : Base} {ρ : List Slot} {a b : Expr} {pos : Pos}
end
section
variable {X : Cx} {B : Base} {ρ : List Slot} {e a b elt tg it : Expr} {pos : Pos} {st : Stmt}
def JV (X : Cx) (B : Base) (ρ : List Slot) (st : Stmt) (i : Nat) {β : Type} (m : R β) (sl : β → Slot) (ρ' : β → List Slot) : Prop := PS X st (fun D σ H => tJ X.K B ρ m sl ρ' σ H fun x H1 => D.nx (σ.set i (some x)) H1)
end
end DL
namespace DL
open PySem PySem.Spec L2
@[reducible] def eKR (p : List Int) : D := .key p
def kyR (p : List Int) : List Key := p.map Sum.inl
section
variable {β : Type}
@[reducible] def odR (f : β → D) (kvs : List ((List Int) × β)) : OT := .dt (kvs.map fun p => (kyR p.1, f p.2))
def hasR (k : List Int) (kvs : List ((List Int) × β)) : Bool := kvs.any fun p => decide (p.1 = k)
def putR (kvs : List ((List Int) × β)) (k : List Int) (v : β) : List ((List Int) × β) := if hasR k kvs = true then kvs.map (fun p => if p.1 = k then (p.1, v) else p) else kvs ++ [(k, v)]
def mergeR (kvs more : List ((List Int) × β)) : List ((List Int) × β) := more.foldl (fun acc p => putR acc p.1 p.2) kvs
end
section
variable {K : PySem.W.Frag} {G : Hp} {β : Type} {f : β → D}
end
section
variable {K : PySem.W.Frag} {B : Base} {G H : Hp} {σ : L2.St} {ρ : List Slot} {ex : List (V × Slot)}
end
section
variable {X : Cx} {B : Base} {ρ : List Slot} {e a b o2 val : Expr} {es : List Expr} {pos pos' : Pos} {β γ : Type}
end
section
variable {X : Cx}
def tDispT (tk tv : TE) : TE := fun σ H Q => ∀ p, H p = none → tPairs [(tk, tv)] σ (upd H p (.dT [])) fun ps H2 => ∃ ks b y, ps = [(.ref b, y)] ∧ H2 p = some (.dT []) ∧ H2 b = some (.tup (ks.map kV)) ∧ Q (.ref p) (upd H2 p (.dT [(ks, y)]))
end
section
variable {X : Cx} {B : Base} {ρ : List Slot} {pos : Pos} {e val : Expr} {β γ : Type}
end
section
variable {B : Base} {ρ : List Slot}
end
section
variable {X : Cx} {B : Base} {ρ : List Slot} {pos : Pos} {a : Expr} {β : Type}
end
section
variable {X : Cx} {B : Base} {ρ : List Slot} {e a b o2 val : Expr} {pos pos' : Pos} {β : Type}
end
end DL
namespace RZ
open PySem
open PySem.Sem (wp)
section
variable {prog : Program} {w : World} {A : Around} {E : Value → Shared → Prop} {s : Shared}
end
end RZ
namespace L2
open PySem PySem.Spec PyProof.Rows RZ
def kZip (S : Addr) (Q : Hp → Prop) : List (V × V) → List V → Hp → Prop
  | [], _, H => Q H
  | p :: r, acc, H => ∀ q, H q = none → kZip S Q r (acc ++ [.ref q]) (upd (upd H q (.tup [p.1, p.2])) S (.lst (acc ++ [.ref q])))
section
variable {X : Cx} {pins : List (Addr × Obj)} {σ : St} {A1 : Around} {a b z TI TO i1 i2 S : Addr}
def ZSt (z TI TO i1 i2 a b : Addr) (i : Nat) (h : Heap) (H : Hp) : Prop :=
  IsPair h TI (.ref i1) (.ref i2) ∧ h.IsTupleIter i1 a i ∧ h.IsTupleIter i2 b i ∧ ((IsZip h z TI TO .none ∧ ∃ x y, IsPair h TO x y) ∨ ∃ T f ls, IsZipHeld h z TI TO T f ∧ H T = some (.tup ls)) 
end
section
variable {X : Cx} {e e2 : Expr} {ta : TA}
def tLZip (K : PySem.W.Frag) (ta : TA) : TE := fun σ H Q => ta σ H fun vs H1 => ∃ a b xs ys, vs = [.ref a, .ref b] ∧ SqT K H1 a xs ∧ SqT K H1 b ys ∧ ∀ S, H1 S = none → kZip S (fun H2 => Q (.ref S) H2) (xs.zip ys) [] (upd H1 S (.lst []))
end
end L2
namespace DL
open PySem PySem.Spec L2
section
variable {K : PySem.W.Frag} {B : Base} {σ : L2.St} {ρ : List Slot} {α γ : Type} {f : α → D} {g : γ → D}
end
section
variable {X : Cx} {B : Base} {ρ : List Slot} {e e2 : Expr} {α γ : Type}
end
end DL
namespace RZ
open PySem PySem.Spec PyProof.Rows L2
section
variable {prog : Program} {w : World} {A : Around}
end
def ItzM (K : PySem.W.Frag) (a b : Addr) : It :=
  ⟨fun i H => ∃ (xs ys : List V) (x y : V), SqT K H a xs ∧ SqL K H b ys ∧ xs[i]? = some x ∧ ys[i]? = some y,
    fun i H v H' => ∃ T x y, v = .ref T ∧ H T = none ∧ H' = upd H T (.tup [x, y]) ∧ (∀ xs, SqT K H a xs → xs[i]? = some x) ∧ ∀ ys, SqL K H b ys → ys[i]? = some y,
    fun i H => ∃ xs ys : List V, SqT K H a xs ∧ SqL K H b ys ∧ (xs.length ≤ i ∨ ys.length ≤ i)⟩
def iZipM (K : PySem.W.Frag) (ta : TA) : TI := fun σ H R => ta σ H fun vs H1 => ∃ a b xs ys, vs = [.ref a, .ref b] ∧ SqT K H1 a xs ∧ SqL K H1 b ys ∧ R (ItzM K a b) H1
end RZ
namespace DL
open PySem PySem.Spec L2 PyProof.Rows
section
variable {X : Cx} {B : Base} {ρ : List Slot} {e e2 : Expr} {pos : Pos} {α β γ : Type}
end
end DL
namespace L2
open PySem PySem.Spec PyProof.Rows
section
variable {X : Cx}
def rRemD (K : PySem.W.Frag) : V → List V → Hp → VK → Prop := fun x xs H Q => ∃ (a : Addr) (vs : List V) (y : V) (d : PyData) (ds : List PyData) (j : Nat) (z : PyData), x = V.ref a ∧ xs = [y] ∧ H a = some (.lst vs) ∧ Dp K H (V.ref a) (.list ds) ∧ Dp K H y d ∧
  SeqAt.shaped (.list ds) = true ∧ SeqAt.shaped d = true ∧ ds[j]? = some z ∧ PyData.eqv z d = true ∧ (∀ (m : Nat) (z' : PyData), m < j → ds[m]? = some z' → PyData.eqv z' d = false) ∧ Q .non (upd H a (.lst (vs.eraseIdx j)))
end
end L2
namespace DL
open PySem PySem.Spec L2 PyProof.Rows
section
variable {K : PySem.W.Frag} {α : Type} {f : α → D} {n : Nat}
end
end DL
namespace DL
open PySem PySem.Spec L2 PyProof.Rows
@[reducible] def oTL {α : Type} (f : α → D) (rows : List (List α)) : OT := .tp (rows.map (oL f))
theorem toD_oTL {α : Type} (f : α → D) (rows : List (List α)) : (oTL f rows).toD = eT (eL f) rows := by
  rw [oTL, OT.toD, toDs_LL]
section
variable {K : PySem.W.Frag} {B : Base} {G H : Hp} {σ : L2.St} {ρ : List Slot}
theorem Cells.setNon {H : Hp} : ∀ {σ : L2.St} {ρ : List Slot} {A : List Addr} {j : Nat} {x : Option V}, Cells K B G H σ ρ A → ρ[j]? = some .non → Cells K B G H (σ.set j x) ρ A
  | _, _, _, j, x, .nil, e => by simp at e
  | _, _, _, 0, x, .cons c r, e => by
    simp at e
    subst e
    cases c
    exact .cons .non r
  | _, _, _, j + 1, x, .cons c r, e => .cons c (Cells.setNon r (by simpa using e))
theorem En.setNon (E : En K B G H σ ρ []) {j : Nat} {x : Option V} (h : ρ[j]? = some .non) (hal : noAlis ρ = true) : En K B G H (σ.set j x) ρ [] := by
  obtain ⟨A, c, n, g⟩ := E.own
  exact ⟨E.anc, ⟨A, Cells.setNon (show Cells K B G H σ ρ A from c) h, n, g⟩, by rw [List.length_set]; exact E.len, fun k j q e => absurd e (noAlis_get hal)⟩
end
section
variable {K : PySem.W.Frag} {B : Base} {G H : Hp}
end
section
variable {X : Cx} {B : Base} {ρ : List Slot} {pos : Pos}
end
section
variable {K : PySem.W.Frag} {B : Base} {G H : Hp} {σ : L2.St} {ρ : List Slot}
end
section
variable {X : Cx} {B : Base} {ρ : List Slot} {pos : Pos} {e : Expr} {β : Type} {m : R β} {ρ' : β → List Slot}
end
end DL
namespace L2
open PySem PySem.Spec PyProof.Rows
section
variable {X : Cx} {pins : List (Addr × Obj)} {σ : St} {H : Hp} {s : Shared} {d : Addr} {o : Obj}
end
def ItTi (d : Addr) (o : Obj) (kvs : List (List Key × V)) : It :=
  ⟨fun i H => H d = some (.frz o (.dT kvs)) ∧ i < kvs.length, fun i H x H' => ∃ T k v q, kvs[i]? = some (k, v) ∧ x = .ref T ∧ H q = some (.tup (k.map kV)) ∧ H T = none ∧ H' = upd H T (.tup [.ref q, v]), fun i H => H d = some (.frz o (.dT kvs)) ∧ kvs.length ≤ i⟩
section
variable {P : Program} {w : World} {K : PySem.W.Frag} {d : Addr} {o : Obj} {es : Array DictEntry} {ep : Nat}
end
def iPairsT (td : TE) : TI := fun σ H R => td σ H fun x H1 => ∃ d o kvs, x = .ref d ∧ H1 d = some (.frz o (.dT kvs)) ∧ R (ItTi d o kvs) H1
section
variable {X : Cx} {e : Expr} {td : TE} {apos cpos : Pos}
end
end L2
namespace DL
open PySem PySem.Spec L2
section
variable {β : Type}
@[reducible] def eDR (f : β → D) (kvs : List ((List Int) × β)) : D := .ddk ((D.none, D.none) :: kvs.map fun p => (D.tuple (p.1.map D.int), f p.2))
def lookR (kvs : List ((List Int) × β)) (k : List Int) : Option β := (kvs.find? fun p => decide (p.1 = k)).map (·.2)
end
section
variable {K : PySem.W.Frag} {G H : Hp}
def adoptT (G H : Hp) : Hp := fun a => match H a with | some (.tup xs) => some (.tup xs) | _ => G a
theorem adopt_tup {a : Addr} {xs : List V} (h : H a = some (.tup xs)) : adoptT G H a = some (.tup xs) := by
  unfold adoptT
  rw [h]
theorem adopt_ne {a : Addr} (h : ∀ xs, H a ≠ some (.tup xs)) : adoptT G H a = G a := by
  unfold adoptT
  cases e : H a with
  | none => rfl
  | some u =>
    cases u with
    | tup xs => exact absurd e (h xs)
    | _ => rfl
theorem adopt_ex (s : Ex G H) : Ex G (adoptT G H) := fun a u e => by
  have h := s a u e
  cases u with
  | tup xs => exact adopt_tup h
  | _ =>
    rw [adopt_ne fun xs z => by rw [h] at z; cases z]
    exact e
theorem adopt_sub (s : Ex G H) : Ex (adoptT G H) H := fun a u e => by
  unfold adoptT at e
  cases h : H a with
  | none =>
    rw [h] at e
    have := s a u e
    rw [h] at this
    cases this
  | some o =>
    rw [h] at e
    cases o with
    | tup xs => exact e
    | _ =>
      have := s a u e
      rw [h] at this
      exact this
theorem Anc.adopt {B : Base} (h : Anc B G H) : Anc B (adoptT G H) H := by
  refine ⟨h.keep, h.there, h.gsub.trans (adopt_ex h.sub), fun a e1 e2 => ?_, adopt_sub h.sub⟩
  by_cases t : ∃ xs, H a = some (.tup xs)
  · exact .inr t
  · rw [adopt_ne fun xs z => t ⟨xs, z⟩]
    exact h.gnew a e1 e2
theorem En.adopt {B : Base} {σ : L2.St} {ρ : List Slot} {ex : List (V × Slot)} (E : En K B G H σ ρ ex) : En K B (adoptT G H) H σ ρ ex := by
  obtain ⟨A, c, n, f⟩ := E.own
  exact ⟨E.anc.adopt, ⟨A, c.ex (adopt_ex E.sub) fun a _ u e => e, n, fun a m => by rw [adopt_ne (c.nt a m)]; exact f a m⟩, E.len, E.ali⟩
end
section
variable {K : PySem.W.Frag} {B : Base} {G H : Hp} {σ : L2.St} {ρ : List Slot} {ex : List (V × Slot)}
end
section
variable {K : PySem.W.Frag} {G : Hp} {β : Type} {f : β → D}
end
section
variable {X : Cx} {B : Base} {ρ : List Slot} {e a o o2 e2 e3 tg it val : Expr} {pos pos' ap cp : Pos} {β γ : Type} {f : β → D}
end
end DL
namespace L2
open PySem PySem.Spec PyProof.Rows
section
variable {X : Cx} {pos : Pos} {es : List Expr} {t : TA}
def tTupG (X : Cx) (t : TA) : TE := fun σ H Q => t σ H fun xs H1 => xs.length ≤ sizeLine ∧ ∀ q ob, H1 q = none → ob.dict = none → (∀ o2 u2, X.H_0 q ≠ some (.frz o2 u2)) → Q (.ref q) (upd H1 q (.frz ob (.tup xs)))
def tThaw (X : Cx) (t : TS) : TS := fun D σ H => ∃ a o u, H a = some (.frz o u) ∧ (∀ o2 u2, X.H_0 a ≠ some (.frz o2 u2)) ∧ t D σ (upd H a u)
end
end L2
namespace DL
open PySem PySem.Spec L2
section
variable {X : Cx} {B : Base} {ρ : List Slot} {rest : List Stmt} {N L T β : Type} {F : Fin N L T}
end
section
variable {X : Cx} {B : Base} {ρ : List Slot} {pos : Pos} {a : Expr} {β : Type} {K : PySem.W.Frag}
end
section
variable {K : PySem.W.Frag} {B : Base} {ρ : List Slot} {β : Type} {f : β → D}
end
end DL
namespace DL
open PySem PySem.Spec L2
section
variable {X : Cx} {B : Base} {ρ : List Slot} {o2 val : Expr} {pos pos' : Pos} {β : Type} {f : β → D}
end
end DL
namespace DL
open PySem PySem.Spec L2
section
variable {X : Cx} {B : Base} {ρ : List Slot} {e tg : Expr} {pos p : Pos}
end
end DL
namespace DL
def as2I (d : D) : Option (Int × Int) := match asTI d with
  | some [a, b] => some (a, b)
  | _ => none
end DL
namespace L2
open PySem PySem.Spec PyProof.Rows
section
variable {X : Cx}
def rSumT (K : PySem.W.Frag) : List V → Hp → VK → Prop := fun vs H Q => ∃ (a : Addr) (ns : List Int), vs = [V.ref a] ∧ SqT K H a (ns.map V.int) ∧ Q (.int ns.sum) H
end
end L2
namespace DL
open PySem PySem.Spec L2
end DL
namespace PySem.W
open PySem PySem.Calls PyProof.Rows PyProof.V PySem.Spec
section
variable {prog : Program} {w : World} {A : Around} {E : Value → Shared → Prop} {s : Shared}
end
end PySem.W
namespace L2
open PySem PySem.Spec PyProof.Rows
section
variable {X : Cx}
def rEqE : R2 := fun x y H Q => ∃ a b, ∃ ks ls : List (List Key × V), x = .ref a ∧ y = .ref b ∧ Rd H a (.dT ks) ∧ Rd H b (.dT ls) ∧ ls = [] ∧ Q (.bl (ks.length == 0)) H
end
end L2
namespace DL
open PySem PySem.Spec L2
section
variable {B : Base} {β : Type} {f : β → D}
end
end DL
namespace DL
open PySem PySem.Spec L2
def as3s : List D → Option (List (Int × Int × Int))
  | [] => some []
  | d :: ds => match as3I d, as3s ds with
    | some i, some l => some (i :: l)
    | _, _ => none
def asL3 : D → Option (List (Int × Int × Int))
  | .list ds => as3s ds
  | _ => none
end DL
namespace PySem
open PySem.W PySem.SeqAt PyProof.Rows
section
variable {prog : Program} {w : World} {A : Around} {E : Value → Shared → Prop} {s : Shared}
end
end PySem
namespace L2
open PySem PySem.Spec PyProof.Rows PySem.SeqAt PySem.W
section
variable {X : Cx}
def rMax2D (K : PySem.W.Frag) (c : PyData → PyData → Bool) : List V → Hp → VK → Prop := fun vs H Q => ∃ x y d e, vs = [x, y] ∧ Dp K H x d ∧ Dp K H y e ∧ AlikeAll [d, e] ∧ PyData.depthAll [d, e] ≤ 60 ∧ Q (if c d e = true then y else x) H
end
end L2
namespace DL
open PySem PySem.Spec L2 PySem.W PySem.SeqAt
def ltQ (p q : Int × Int) : Bool := decide (p.1 < q.1) || (decide (p.1 = q.1) && decide (p.2 < q.2))
def grtP (p q : Int × Int) : Int × Int := if ltQ p q = true then q else p
def lesP (p q : Int × Int) : Int × Int := if ltQ q p = true then q else p
section
variable {K : PySem.W.Frag} {B : Base} {ρ : List Slot}
end
end DL
namespace DL
open PySem PySem.Spec L2
end DL
namespace HashT
def M : Nat := 18446744073709551616
def st (acc h : Nat) : Nat := ((((acc + h * 14029467366897019727) % M * 2147483648) % M + (acc + h * 14029467366897019727) % M / 8589934592) * 11400714785074694791) % M
def V (x y : Nat) : Nat := st (st 2870177450012600261 x) y * 839798700976720815 % M
inductive Bt where
  | lf
  | nd (l : Bt) (v : Nat) (r : Bt)
def ins (v : Nat) : Bt → Bt
  | .lf => .nd .lf v .lf
  | .nd l u r => if v < u then .nd (ins v l) u r else .nd l u (ins v r)
def flat : Bt → List Nat → List Nat
  | .lf, acc => acc
  | .nd l v r, acc => flat l (v :: flat r acc)
def chk : List Nat → Bool
  | a :: b :: l => decide (a + 40 ≤ b) && chk (b :: l)
  | _ => true
def T : Nat := 16680575644954319924
def prs : List (Nat × Nat) := (List.range 40).flatMap fun x => (List.range 40).map fun y => (x, y)
def vals : List Nat := T :: prs.map fun p => V p.1 p.2
def bt : List Nat → Bt → Bt
  | [], t => t
  | v :: l, t => bt l (ins v t)
theorem all_apart : chk (flat (bt vals .lf) []) = true := by decide +kernel
theorem all_below : (vals.all fun v => decide (v + 40 ≤ M)) = true := by decide +kernel
theorem flat_ins (v : Nat) : ∀ (t : Bt) (acc : List Nat), (flat (ins v t) acc).Perm (v :: flat t acc)
  | .lf, acc => by
    show (v :: acc).Perm (v :: acc)
    exact .refl _
  | .nd l u r, acc => by
    rw [ins]
    split
    · show (flat (ins v l) (u :: flat r acc)).Perm (v :: flat l (u :: flat r acc))
      exact flat_ins v l _
    · show (flat l (u :: flat (ins v r) acc)).Perm (v :: flat l (u :: flat r acc))
      have h1 := flat_ins v r acc
      have fp : ∀ (t : Bt) {a b : List Nat}, a.Perm b → (flat t a).Perm (flat t b) := fun t => by
        induction t with
        | lf => exact fun h => h
        | nd l w r ih1 ih2 => exact fun h => ih1 ((ih2 h).cons w)
      have fc : ∀ (t : Bt) (x : Nat) (a : List Nat), (flat t (x :: a)).Perm (x :: flat t a) := fun t => by
        induction t with
        | lf => exact fun x a => .refl _
        | nd l w r ih1 ih2 =>
          intro x a
          show (flat l (w :: flat r (x :: a))).Perm (x :: flat l (w :: flat r a))
          refine (fp l ((ih2 x a).cons w)).trans ?_
          refine (fp l (List.Perm.swap x w (flat r a))).trans ?_
          exact ih1 x _
      refine (fp l (h1.cons u)).trans ?_
      refine (fp l (List.Perm.swap v u (flat r acc))).trans ?_
      exact fc l v _
theorem bt_perm : ∀ (l : List Nat) (t : Bt), (flat (bt l t) []).Perm (l ++ flat t [])
  | [], t => .refl _
  | v :: l, t => by
    show (flat (bt l (ins v t)) []).Perm (v :: (l ++ flat t []))
    refine (bt_perm l (ins v t)).trans ?_
    refine ((flat_ins v t []).append_left l).trans ?_
    exact List.perm_middle
theorem chk_pw : ∀ l : List Nat, chk l = true → l.Pairwise fun a b => a + 40 ≤ b
  | [], _ => .nil
  | [a], _ => List.pairwise_singleton _ _
  | a :: b :: l, h => by
    rw [chk, Bool.and_eq_true, decide_eq_true_eq] at h
    have ih := chk_pw (b :: l) h.2
    refine List.pairwise_cons.mpr ⟨fun c hc => ?_, ih⟩
    rcases List.mem_cons.mp hc with e | hc
    · rw [e]; exact h.1
    · have := (List.pairwise_cons.mp ih).1 c hc
      omega
theorem vals_pw : vals.Pairwise fun a b => a + 40 ≤ b ∨ b + 40 ≤ a := by
  have p := bt_perm vals .lf
  rw [show flat .lf [] = ([] : List Nat) from rfl, List.append_nil] at p
  have h := (chk_pw _ all_apart).imp (S := fun a b => a + 40 ≤ b ∨ b + 40 ≤ a) fun h => .inl h
  exact (p.pairwise_iff fun h => h.symm).mp h
theorem prs_mem {x y : Nat} (hx : x < 40) (hy : y < 40) : (x, y) ∈ prs := List.mem_flatMap.mpr ⟨x, List.mem_range.mpr hx, List.mem_map.mpr ⟨y, List.mem_range.mpr hy, rfl⟩⟩
theorem V_le {x y : Nat} (hx : x < 40) (hy : y < 40) : V x y + 40 ≤ M := of_decide_eq_true (List.all_eq_true.mp all_below _ (List.mem_cons_of_mem _ (List.mem_map.mpr ⟨(x, y), prs_mem hx hy, rfl⟩)))
theorem V_T {x y : Nat} (hx : x < 40) (hy : y < 40) : T + 40 ≤ V x y ∨ V x y + 40 ≤ T := (List.pairwise_cons.mp vals_pw).1 _ (List.mem_map.mpr ⟨(x, y), prs_mem hx hy, rfl⟩)
theorem V_V {x y x' y' : Nat} (hx : x < 40) (hy : y < 40) (hx' : x' < 40) (hy' : y' < 40) (ne : (x, y) ≠ (x', y')) : V x y + 40 ≤ V x' y' ∨ V x' y' + 40 ≤ V x y := by
  have pw := List.pairwise_map.mp (List.pairwise_cons.mp vals_pw).2
  rw [List.pairwise_iff_getElem] at pw
  obtain ⟨i, hi, ei⟩ := List.mem_iff_getElem.mp (prs_mem hx hy)
  obtain ⟨j, hj, ej⟩ := List.mem_iff_getElem.mp (prs_mem hx' hy')
  rcases Nat.lt_trichotomy i j with k | k | k
  · have := pw i j hi hj k
    rw [ei, ej] at this
    exact this
  · subst k
    exact absurd (ei.symm.trans ej) ne
  · have := pw j i hj hi k
    rw [ei, ej] at this
    exact this.symm
theorem rot_inj {a b : Nat} (ha : a < M) (hb : b < M) (h : (a * 2147483648) % M + a / 8589934592 = (b * 2147483648) % M + b / 8589934592) : a = b := by
  have e : ∀ c : Nat, (c * 2147483648) % M = (c % 8589934592) * 2147483648 := fun c => by
    rw [show M = 8589934592 * 2147483648 by decide, Nat.mul_mod_mul_right]
  rw [e, e] at h
  unfold M at *
  omega
theorem rot_lt {a : Nat} (ha : a < M) : (a * 2147483648) % M + a / 8589934592 < M := by
  unfold M at *
  omega
theorem mul_back {b : Nat} {p q : Nat} (hb : b < M) (h : (p * q) % M = 1) : ((b * p) % M * q) % M = b := by
  rw [Nat.mod_mul_mod, Nat.mul_assoc, Nat.mul_mod, h, Nat.mul_one, Nat.mod_mod, Nat.mod_eq_of_lt hb]
theorem st_inj {a h a' h' : Nat} (e : st a h = st a' h') : (a + h * 14029467366897019727) % M = (a' + h' * 14029467366897019727) % M := by
  have mp : 0 < M := by decide
  have l1 := Nat.mod_lt (a + h * 14029467366897019727) mp
  have l2 := Nat.mod_lt (a' + h' * 14029467366897019727) mp
  unfold st at e
  have k := congrArg (fun t => (t * 614540362697595703) % M) e
  rw [mul_back (rot_lt l1) (by decide), mul_back (rot_lt l2) (by decide)] at k
  exact rot_inj l1 l2 k
theorem add_back (a z : Nat) : ((a + z * 14029467366897019727) % M * 839798700976720815) % M = (a * 839798700976720815 % M + z) % M := by
  rw [Nat.mod_mul_mod, Nat.add_mul, Nat.mul_assoc, Nat.add_mod, Nat.mul_mod z]
  rw [show 14029467366897019727 * 839798700976720815 % M = 1 by decide, Nat.mul_one, Nat.mod_mod]
  rw [← Nat.add_mod, Nat.mod_add_mod]
theorem st3 {x y z x' y' z' : Nat} (hx : x < 40) (hy : y < 40) (hz : z < 40) (hx' : x' < 40) (hy' : y' < 40) (hz' : z' < 40) (e : st (st (st 2870177450012600261 x) y) z = st (st (st 2870177450012600261 x') y') z') : x = x' ∧ y = y' ∧ z = z' := by
  have k := congrArg (fun t => (t * 839798700976720815) % M) (st_inj e)
  rw [add_back, add_back] at k
  have k : (V x y + z) % M = (V x' y' + z') % M := k
  have l1 := V_le hx hy
  have l2 := V_le hx' hy'
  rw [Nat.mod_eq_of_lt (by omega), Nat.mod_eq_of_lt (by omega)] at k
  by_cases q : (x, y) = (x', y')
  · injection q with q1 q2
    subst q1
    subst q2
    exact ⟨rfl, rfl, by omega⟩
  · rcases V_V hx hy hx' hy' q with h | h <;> omega
theorem st3_ne {x y z : Nat} (hx : x < 40) (hy : y < 40) (hz : z < 40) : st (st (st 2870177450012600261 x) y) z ≠ st (T * 14029467366897019727 % M) 0 := fun e => by
  have k := congrArg (fun t => (t * 839798700976720815) % M) (st_inj e)
  rw [add_back, add_back] at k
  have k : (V x y + z) % M = (T * 14029467366897019727 % M * 839798700976720815 % M + 0) % M := k
  rw [show (T * 14029467366897019727 % M * 839798700976720815 % M + 0) % M = T by decide] at k
  have l1 := V_le hx hy
  rw [Nat.mod_eq_of_lt (by omega)] at k
  rcases V_T hx hy with h | h <;> omega
open PySem in
def stp (acc : Nat) (h : Int) : Nat :=
  let acc := (acc + (h % ((2 ^ 64 : Nat) : Int)).toNat * 14029467366897019727) % 2 ^ 64
  let acc := (acc * 2 ^ 31) % 2 ^ 64 + acc / 2 ^ 33
  (acc * 11400714785074694791) % 2 ^ 64
def fin (acc : Nat) : Int := if acc == 2 ^ 64 - 1 then 1546275796 else if acc < 2 ^ 63 then acc else (acc : Int) - (2 ^ 64 : Nat)
open PySem in
theorem tho (hs : List Int) : Builtin.Tuple.tupleHashOf hs = fin ((hs.foldl stp 2870177450012600261 + (hs.length ^^^ (2870177450012600261 ^^^ 3527539))) % 2 ^ 64) := rfl
theorem toN {k : Nat} (h : k < 40) : ((k : Int) % ((2 ^ 64 : Nat) : Int)).toNat = k := by
  have e : ((2 ^ 64 : Nat) : Int) = 18446744073709551616 := by decide
  rw [e]
  omega
theorem stp_nat (acc : Nat) {k : Nat} (h : k < 40) : stp acc (k : Int) = st acc k := by
  have e1 : (2 : Nat) ^ 64 = M := by decide
  have e2 : (2 : Nat) ^ 31 = 2147483648 := by decide
  have e3 : (2 : Nat) ^ 33 = 8589934592 := by decide
  unfold stp st
  rw [toN h, e1, e2, e3]
open PySem in
theorem hash_is {x y z : Nat} (hx : x < 40) (hy : y < 40) (hz : z < 40) : Builtin.Tuple.tupleHashOf [(x : Int), (y : Int), (z : Int)] = fin ((st (st (st 2870177450012600261 x) y) z + 2870177450013471925) % M) := by
  have e1 : (2 : Nat) ^ 64 = M := by decide
  have e4 : (3 ^^^ (2870177450012600261 ^^^ 3527539) : Nat) = 2870177450013471925 := by decide
  rw [tho, List.foldl_cons, List.foldl_cons, List.foldl_cons, List.foldl_nil, stp_nat _ hx, stp_nat _ hy, stp_nat _ hz, e1]
  show fin ((_ + (3 ^^^ (2870177450012600261 ^^^ 3527539))) % M) = _
  rw [e4]
theorem fin_of {acc : Nat} (h : acc < M) (n : acc ≠ M - 1) : fin acc = if acc < 9223372036854775808 then (acc : Int) else (acc : Int) - 18446744073709551616 := by
  unfold fin
  have e1 : (2 : Nat) ^ 64 = M := by decide
  have e5 : (2 : Nat) ^ 63 = 9223372036854775808 := by decide
  rw [e1, e5, if_neg (by simpa using n)]
  rfl
open PySem in
theorem red_of {i : Int} (h0 : -9223372036854775808 ≤ i) (h1 : i < 9223372036854775808) (n : i ≠ -1) : reduceHash i = i := by
  unfold reduceHash
  have e : (2 : Int) ^ 63 = 9223372036854775808 := by decide
  rw [e, if_pos (by simp; omega), if_neg (by simpa using n)]
open PySem in
theorem hash_inj {x y z x' y' z' : Nat} (hx : x < 40) (hy : y < 40) (hz : z < 40) (hx' : x' < 40) (hy' : y' < 40) (hz' : z' < 40) (e : reduceHash (Builtin.Tuple.tupleHashOf [(x : Int), (y : Int), (z : Int)]) = reduceHash (Builtin.Tuple.tupleHashOf [(x' : Int), (y' : Int), (z' : Int)])) : x = x' ∧ y = y' ∧ z = z' := by
  have mp : 0 < M := by decide
  have lt : ∀ a h, st a h < M := fun a h => Nat.mod_lt _ mp
  have nm : ∀ {x y z : Nat}, x < 40 → y < 40 → z < 40 → (st (st (st 2870177450012600261 x) y) z + 2870177450013471925) % M ≠ M - 1 := fun {x y z} hx hy hz k => by
    refine st3_ne hx hy hz ?_
    have e2 : st (T * 14029467366897019727 % M) 0 = M - 1 - 2870177450013471925 := by decide
    rw [e2]
    have := lt (st (st 2870177450012600261 x) y) z
    unfold M at *
    omega
  have red : ∀ {x y z : Nat}, x < 40 → y < 40 → z < 40 → reduceHash (Builtin.Tuple.tupleHashOf [(x : Int), (y : Int), (z : Int)]) = (if (st (st (st 2870177450012600261 x) y) z + 2870177450013471925) % M < 9223372036854775808 then (((st (st (st 2870177450012600261 x) y) z + 2870177450013471925) % M : Nat) : Int) else (((st (st (st 2870177450012600261 x) y) z + 2870177450013471925) % M : Nat) : Int) - 18446744073709551616) := fun {x y z} hx hy hz => by
    have n := nm hx hy hz
    have l := Nat.mod_lt (st (st (st 2870177450012600261 x) y) z + 2870177450013471925) mp
    rw [hash_is hx hy hz]
    generalize (st (st (st 2870177450012600261 x) y) z + 2870177450013471925) % M = acc at n l
    rw [fin_of l n]
    unfold M at l n
    by_cases k : acc < 9223372036854775808
    · rw [if_pos k, red_of (by omega) (by omega) (by omega)]
    · rw [if_neg k, red_of (by omega) (by omega) (by omega)]
  rw [red hx hy hz, red hx' hy' hz'] at e
  have l1 := lt (st (st 2870177450012600261 x) y) z
  have l2 := lt (st (st 2870177450012600261 x') y') z'
  have k : st (st (st 2870177450012600261 x) y) z = st (st (st 2870177450012600261 x') y') z' := by
    generalize st (st (st 2870177450012600261 x) y) z = A at *
    generalize st (st (st 2870177450012600261 x') y') z' = A' at *
    unfold M at *
    split at e <;> split at e <;> omega
  exact st3 hx hy hz hx' hy' hz' k
end HashT
namespace PySem
open PySem.W
section
variable {prog : Program} {w : World} {A : Around} {E : Value → Shared → Prop} {s : Shared} {K : Type} [DecidableEq K] {knd : HeapKind prog w K}
end
end PySem
namespace L2
open PySem PySem.Spec PyProof.Rows
section
variable {X : Cx}
def k3 (k : List Key) : Prop := ∃ x y z : Nat, x < 40 ∧ y < 40 ∧ z < 40 ∧ k = [Sum.inl (x : Int), Sum.inl (y : Int), Sum.inl (z : Int)]
def rDCopyT : List V → Hp → VK → Prop := fun vs H Q => ∃ (a : Addr) (ks : List (List Key × V)), vs = [.ref a] ∧ Rd H a (.dT ks) ∧ (∀ kv ∈ ks, k3 kv.1) ∧ ∀ p, H p = none → Q (.ref p) (upd H p (.dT ks))
end
end L2
namespace DL
open PySem PySem.Spec L2
section
variable {B : Base} {β : Type} {f : β → D} {ρ : List Slot}
def row3 (r : List Int) : Bool := decide (r.length = 3) && r.all fun x => decide (0 ≤ x) && decide (x < 40)
end
end DL
namespace DL
open PySem PySem.Spec L2
section
variable {P : Program} {w : World} {K : PySem.W.Frag} {mg : Str → Option Value} {base : Heap} {x q : Str} {st : Stmt} {f : Addr} {fd : FuncData} {N ps : List Str} {k : Nat}
end
section
variable {K : PySem.W.Frag} {B : Base} {G H : Hp} {σ : L2.St} {ρ : List Slot} {ex : List (V × Slot)}
theorem OwnAll.snoc {v : V} {o : OT} {A1 : List Addr} : ∀ {vs : List V} {os : List OT} {A : List Addr}, OwnAll K G H vs os A → Own K G H v o A1 → OwnAll K G H (vs ++ [v]) (os ++ [o]) (A ++ A1)
  | _, _, _, .nil, h => by
    have := OwnAll.cons h (.nil (K := K) (G := G) (H := H))
    rw [List.append_nil] at this
    exact this
  | _, _, _, .cons c r, h => by
    rw [List.append_assoc]
    exact .cons c (OwnAll.snoc r h)
end
section
variable {X : Cx} {B : Base} {ρ : List Slot} {pos : Pos} {k1 k2 v1 v2 : Expr} {β γ1 γ2 γ3 γ4 : Type} {f : β → D}
end
end DL
namespace DL
open PySem PySem.Spec L2
structure ObOk (K : PySem.W.Frag) (mg : Str → Option Value) (c : Str) : Prop where
  g : mg c = some (.ref (He.ga K c))
  cl : Cls K (He.ga K c)
  mi : Mk K (He.ga K c) (He.ma K (He.ga K c) "__init__")
  nm : ClsNm K c (He.ga K c)
  un : ∀ C : Addr, ClsNm K c C → C = He.ga K c
def obB (K : PySem.W.Frag) (x : Str) : Bool :=
  decide (PySem.W.nsIn K mainGlobals x = some (some (.ref (He.ga K x)))) && (PySem.W.plainGet K (He.ga K x) Str.empty && (PySem.W.hasDictIn K (He.ga K x) && (PySem.W.plainOver K (He.ga K x) &&
    (decide (PySem.W.findIn K (.ref (He.ga K x)) "__setattr__" = some (some (.builtin "object.__setattr__"))) && (PySem.W.makesIn K (He.ga K x) &&
    (decide (PySem.W.findIn K (.ref (He.ga K x)) "__init__" = some (some (.ref (He.ma K (He.ga K x) "__init__")))) && (PySem.W.isFn K (.ref (He.ma K (He.ga K x) "__init__")) && (PySem.W.keepIn K (.ref (He.ga K x)) &&
      (decide ((PySem.W.clsIn K (He.ga K x)).map (·.name) = some x) && K.all (fun p => !nmB x p.2 || decide (p.1 = He.ga K x)))))))))))
def fldB (K : PySem.W.Frag) (c f : Str) : Bool := decide (PySem.W.findIn K (.ref (He.ga K c)) f = some none)
def FldOk (K : PySem.W.Frag) (c f : Str) : Prop := NoAttr K (He.ga K c) f
structure DM (K : PySem.W.Frag) (c m : Str) (st : Stmt) (ps : List Str) where
  q : Str
  d : FuncData
  f : FunD K m q (defArgs st) (defBody st) (defScope st) [] [] (He.ma K (He.ga K c) m) d
  b : Binds K d ps []
  h : Meth K (He.ga K c) m (He.ma K (He.ga K c) m)
abbrev DM.a {K : PySem.W.Frag} {c m : Str} {st : Stmt} {ps : List Str} (_ : DM K c m st ps) : Addr := He.ma K (He.ga K c) m
def mthB (K : PySem.W.Frag) (c m : Str) : Bool := decide (PySem.W.findIn K (.ref (He.ga K c)) m = some (some (.ref (He.ma K (He.ga K c) m)))) && (PySem.W.isFn K (.ref (He.ma K (He.ga K c) m)) && PySem.W.keepIn K (.ref (He.ma K (He.ga K c) m)))
section
variable {K : PySem.W.Frag} {B : Base} {G H : Hp} {σ : L2.St} {ρ : List Slot} {ex : List (V × Slot)}
end
section
variable {X : Cx} {CX : CXT} {k : Nat} {f C : Addr} {fd : FuncData} {ps : List Str} {sp : Sp} {W : XK} {x m : Str} {p pos apos : Pos} {e o : Expr} {es : List Expr} {ta : TE} {t : TA}
end
section
variable {X : Cx} {B : Base} {ρ : List Slot} {e e2 o2 val : Expr} {es : List Expr} {pos pos' px pf ap : Pos} {CX : CXT} {kk : Nat} {fa : Addr} {fd : FuncData} {ps : List Str} {EE : XK} {x m f c : Str} {fs : List Str} {os : List OT} {l : Nat} {β γ : Type} {g : β → D}
end
section
variable {K : PySem.W.Frag} {B : Base} {G H : Hp} {σ : L2.St} {ρ : List Slot}
end
section
variable {X : Cx} {B : Base} {ρ : List Slot} {e : Expr} {es : List Expr} {pos p : Pos} {CX : CXT} {kk : Nat} {fd : FuncData} {ps : List Str} {EE : XK} {c : Str} {γ : Type}
end
end DL
namespace DL
open PySem PySem.Spec L2
section
variable {X : Cx} {B : Base} {ρ : List Slot} {pos : Pos} {e : Expr}
end
@[reducible] def oDM {α : Type} (f : α → D) (p : List (Int × List α) × Int × List α) : OT := .dko ((p.1.map fun q => (Sum.inl q.1 : Key)) ++ [Sum.inl p.2.1]) ((p.1.map fun q => OT.dat (eL f q.2)) ++ [oL f p.2.2])
@[reducible] def oDMk {α : Type} (f : α → D) (k : Int) (p : List (Int × List α) × List α) : OT := oDM f (p.1, k, p.2)
section
variable {K : PySem.W.Frag} {B : Base} {G H : Hp} {σ : L2.St} {ρ : List Slot} {ex : List (V × Slot)} {α : Type} {f : α → D}
end
section
variable {X : Cx} {B : Base} {ρ : List Slot} {pos pos' px py kp kq ap : Pos} {e val : Expr} {α γ : Type} {f : α → D} {x kx qx : Str} {l : Nat}
end
end DL
namespace SrtO
open PySem PyProof.Rows Srt PySem.W
mutual
theorem reads_lt {h : Heap} : ∀ {d : PyData} {v : Value} {as : List Addr}, Reads h v d as → alike d d = true → ∀ a ∈ as, a < h.objs.size
  | _, _, _, .none, _ => fun _ m => nomatch m
  | _, _, _, .bool _, _ => fun _ m => nomatch m
  | _, _, _, .int _ _, _ => fun _ m => nomatch m
  | _, _, _, .str _ _, _ => fun _ m => nomatch m
  | _, _, _, .list h1 h2 h3 h4, al => fun a m => by
    rcases List.mem_cons.mp m with rfl | m
    · exact Heap.lt_size h1
    · exact readsAll_lt h4 (by simpa [alike] using al) a m
  | _, _, _, .tuple h1 h2 h3 h4, al => fun a m => readsAll_lt h4 (by simpa [alike] using al) a m
  | _, _, _, .dict _ _ _ _ _, al => absurd al (by simp [alike])
theorem readsAll_lt {h : Heap} : ∀ {ds : List PyData} {vs : List Value} {as : List Addr}, ReadsAll h vs ds as → alikeAll ds ds = true → ∀ a ∈ as, a < h.objs.size
  | _, _, _, .nil, _ => fun _ m => nomatch m
  | _, _, _, .cons h1 h2, al => fun a m => by
    rcases List.mem_append.mp m with m | m
    · exact reads_lt h1 (alike_all_cons al).1 a m
    · exact readsAll_lt h2 (alike_all_cons al).2 a m
end
section
variable {prog : Program} {w : World} {A : Around} {E : Value → Shared → Prop} {s : Shared} {β : Type} {bs : List β} {enc : β → PyData} {R : Value → β → Prop}
end
end SrtO
namespace DL
open PySem PySem.Spec L2 PySem.W PyProof.Rows
section
variable {X : Cx} {α : Type} {f : α → D}
def rSortTD (K : PySem.W.Frag) (f : α → D) : List V → Hp → VK → Prop := fun vs H Q => ∃ (xs : List α) (a : Addr) (G : Hp) (ys : List V), vs = [V.ref a] ∧ Ex G H ∧ SqT K H a ys ∧ RpAll K G ys (xs.map f) ∧ SortOk f xs ∧
  ∀ (zs : List V) (p : Addr), RpAll K G zs ((srtD f xs).map f) → H p = none → Q (.ref p) (upd H p (.lst zs))
end
section
variable {K : PySem.W.Frag} {B : Base} {ρ : List Slot}
end
section
variable {X : Cx} {B : Base} {ρ : List Slot} {pos px : Pos} {e2 : Expr} {β γ : Type} {f : β → D} {x : Str} {l : Nat} {kvs : List (Int × β)}
end
section
variable {X : Cx} {B : Base} {ρ : List Slot} {a b e : Expr} {rest : List Expr} {pos : Pos}
end
end DL
namespace DL
open PySem PySem.Spec L2
section
variable {X : Cx} {B : Base} {ρ : List Slot} {e a o o2 e2 tg it val : Expr} {pos pos' ap cp : Pos} {β γ : Type} {f : β → D}
end
end DL
namespace L2
open PySem PySem.Spec PyProof.Rows
section
variable {X : Cx}
def rLenSetT (P : Program) (w : World) : List V → Hp → VK → Prop := fun xs H Q => ∃ (p : Addr) (L : List (Addr × List Int)), xs = [V.ref p] ∧ H p = some (SetTO P w p L) ∧ (∀ q ∈ L, SqT X.K H q.1 (q.2.map V.int)) ∧ ((L.map (·.2)).Nodup → Q (.int L.length) H)
end
end L2
namespace DL
open PySem PySem.Spec L2
def nubP : List (Int × Int) → List (Int × Int)
  | [] => []
  | x :: l => if x ∈ l then nubP l else x :: nubP l
theorem nodup_leA {α : Type} [DecidableEq α] : ∀ {l m : List α}, l.Nodup → (∀ x ∈ l, x ∈ m) → l.length ≤ m.length
  | [], _, _, _ => Nat.zero_le _
  | x :: l, m, nd, h => by
    obtain ⟨h1, h2⟩ := List.nodup_cons.mp nd
    have hx := h x List.mem_cons_self
    have := nodup_leA (l := l) (m := m.erase x) h2 fun y hy => (List.mem_erase_of_ne (fun (e : y = x) => h1 (e ▸ hy))).mpr (h y (List.mem_cons_of_mem _ hy))
    rw [List.length_erase_of_mem hx] at this
    have := List.length_pos_of_mem hx
    rw [List.length_cons]
    omega
class PrEnc (f : Int × Int → D) : Prop where
  sq : ∀ {K : PySem.W.Frag} {G : Hp} {v : V} {x : Int × Int}, Rp K G v (f x) → ∃ a, v = .ref a ∧ SqT K G a [V.int x.1, V.int x.2]
instance prEnc_K2 : PrEnc eK2 := ⟨fun h => by
  obtain ⟨a, e, ha⟩ := h.key_inv
  exact ⟨a, e, .inl (.inl ha)⟩⟩
instance prEnc_P2 : PrEnc (eP2 D.int D.int) := ⟨fun {K G v x} h => by
  obtain ⟨a, us, e, ha, hr⟩ := Rp.tup_inv (ds := [D.int x.1, D.int x.2]) h
  have := RpAll.ints (ns := [x.1, x.2]) hr
  subst this
  exact ⟨a, e, ha⟩⟩
section
variable {X : Cx} {B : Base} {ρ : List Slot} {pos : Pos} {a : Expr}
end
end DL
namespace L2
open PySem PySem.Spec PyProof.Rows
section
variable {X : Cx} {e : Expr} {te : TE} {p apos cpos pos : Pos}
def tListVals (te : TE) : TE := fun σ H Q => te σ H fun x H1 => ∃ (d : Addr) (kvs : List (Key × V)), x = .ref d ∧ Rd H1 d (.dK kvs) ∧ ∀ q, H1 q = none → Q (.ref q) (upd H1 q (.lst (kvs.map (·.2))))
end
end L2
namespace DL
open PySem PySem.Spec L2
section
variable {X : Cx} {B : Base} {ρ : List Slot} {e : Expr} {β γ : Type} {f : β → D}
end
end DL
namespace RZ
open PySem PySem.W DL
open PySem.Sem (wp)
section
variable {prog : Program} {w : World} {A : Around} {E : Value → Shared → Prop} {s : Shared}
end
end RZ
namespace L2
open PySem PySem.Spec PyProof.Rows RZ
section
variable {X : Cx} {pins : List (Addr × Obj)} {σ : St} {A1 : Around} {a e it S : Addr}
def ESt (e it a : Addr) (i : Nat) (h : Heap) (H : Hp) : Prop :=
  h.IsTupleIter it a i ∧ e ≠ it ∧ ((∃ old, IsEnum h e it ((i : Nat) : Int) old) ∨ ∃ T f ls old, IsEnumHeld h e it ((i : Nat) : Int) old T f ∧ H T = some (.tup ls))
def numbV : Nat → List V → List (V × V)
  | _, [] => []
  | i, x :: xs => (.int (i : Nat), x) :: numbV (i + 1) xs
end
section
variable {X : Cx} {e : Expr} {ta : TA}
def tLEnum (K : PySem.W.Frag) (ta : TA) : TE := fun σ H Q => ta σ H fun vs H1 => ∃ a xs, vs = [.ref a] ∧ SqT K H1 a xs ∧ ∀ S, H1 S = none → kZip S (fun H2 => Q (.ref S) H2) (numbV 0 xs) [] (upd H1 S (.lst []))
end
end L2
namespace L2
open PySem PySem.Spec PyProof.Rows
section
variable {X : Cx}
def rLenD (K : PySem.W.Frag) : List V → Hp → VK → Prop := fun xs H Q => ∃ (a : Addr) (kvs : List (Key × V)), xs = [V.ref a] ∧ Rd H a (.dK kvs) ∧ Q (.int kvs.length) H
theorem cr_lenDr : CallR X (.builtin "len") (rLenD X.K) := by
  intro pins s σ H xs us Q I r h
  obtain ⟨a, kvs, rfl, ha, q⟩ := h
  obtain ⟨u, rfl, ru⟩ := vals1 r
  cases ru
  exact d_len I ha fun t s' I' => ⟨.int kvs.length, H, I', ⟨t, rfl⟩, q⟩
end
end L2
namespace DL
open PySem PySem.Spec L2
section
variable {K : PySem.W.Frag} {B : Base} {ρ : List Slot} {β : Type} {f : β → D}
end
end DL
namespace DL
open PySem PySem.Spec L2
section
variable {K : PySem.W.Frag} {B : Base} {σ : L2.St} {ρ : List Slot} {α : Type} {f : α → D}
end
section
variable {X : Cx} {B : Base} {ρ : List Slot} {e : Expr} {α : Type}
end
end DL
namespace DL
open PySem PySem.Spec L2
section
variable {α γ : Type}
end
section
variable {X : Cx} {B : Base} {ρ : List Slot} {e : Expr} {α β γ : Type}
end
end DL
namespace L2
open PySem PySem.Spec PyProof.Rows
section
variable {X : Cx} {a b c d : Expr} {ta tb tc td : TE} {pos : Pos}
def tChain3 (r r' r'' : R2) (ta tb tc td : TE) : TE := fun σ H Q => ta σ H fun x H1 => tb σ H1 fun y H2 => r x y H2 fun z H3 => ∃ k, z = .bl k ∧
  if k = true then tc σ H3 fun x2 H4 => r' y x2 H4 fun z2 H5 => ∃ k2, z2 = .bl k2 ∧ if k2 = true then td σ H5 fun x3 H6 => r'' x2 x3 H6 Q else Q (.bl false) H5 else Q (.bl false) H3
end
end L2
namespace DL
open PySem PySem.Spec L2
section
variable {X : Cx} {B : Base} {ρ : List Slot} {a b c d e : Expr}
end
end DL
namespace DL
open PySem PySem.Spec L2
section
variable {K : PySem.W.Frag} {B : Base} {G H : Hp} {σ : L2.St} {ρ : List Slot}
end
section
variable {X : Cx} {B : Base} {ρ : List Slot}
def tAli (K : PySem.W.Frag) (B : Base) (ρ : List Slot) {β : Type} (m : R β) (v : β → Int) (i j l k : Nat) (rows : List (List Int)) (ρ2 : β → List Slot) : TE := fun σ H Q => ∃ G w a, En K B G H σ ρ [] ∧ σ[j]? = some (some w) ∧ σ[i]? = some (some (.ref a)) ∧ At H w [k] (.ref a) ∧
  m.post (fun b => ∀ G1 H1, Ex G G1 → En K B G1 H1 σ ((ρ2 b).set j (.own l (oLL D.int rows))) [] → At H1 w [k] (.ref a) → Q (.int (v b)) H1) B.rs
end
end DL
namespace DL
open PySem PySem.Spec L2
def baseMv (mv : Nat) (H G : Hp) (As : List (List Addr)) (vs : List V) (rs : Exn → Prop) : Base := ⟨fun a => match decide (a ∈ As.getD mv []) with | true => none | false => H a, G, fun l => match l with | 0 => [] | n + 1 => As.getD n [], rfl, fun l => match l with | 0 => none | n + 1 => vs[n]?, rs⟩
def spMv (K : PySem.W.Frag) (mv : Nat) {α β : Type} (ins : α → List Slot) (m : α → R β) (sl : β → Slot) (outs : β → List Slot) : Sp := fun vs H Q _ =>
  ∃ (a : α) (G : Hp) (As : List (List Addr)), En K (baseMv mv H G As vs fun _ => False) G H (vs.map some) (ins a) [] ∧
    (m a).post (fun b => ∀ v G' H', En K (baseMv mv H G As vs fun _ => False) G' H' (vs.map some) (outs b) [(v, sl b)] → Q v H') fun _ => False
def relMv (mv : Nat) : Nat → List Slot → List Slot
  | _, [] => []
  | n, .own l o :: r => (match n == mv with | true => .own 0 o | false => .own l o) :: relMv mv (n + 1) r
  | n, .val d :: r => .val d :: relMv mv (n + 1) r
  | n, .non :: r => .non :: relMv mv (n + 1) r
  | n, .ali j p :: r => .ali j p :: relMv mv (n + 1) r
def goodOutMv (mv : Nat) : Nat → List Ar → List Slot → Bool
  | _, [], [] => true
  | n, .val _ :: as, _ :: os => goodOutMv mv (n + 1) as os
  | n, .slot _ :: as, s :: os => (match n == mv with | true => true | false => isOwnL (n + 1) s) && goodOutMv mv (n + 1) as os
  | _, _, _ => false
def backMv (mv : Nat) (ρ0 : List Slot) : Nat → List Slot → List Ar → List Slot → List Slot
  | _, ρ, [], _ => ρ
  | _, ρ, _, [] => ρ
  | n, ρ, .val _ :: as, _ :: os => backMv mv ρ0 (n + 1) ρ as os
  | n, ρ, .slot i :: as, s :: os => backMv mv ρ0 (n + 1) (match n == mv with | true => ρ | false => ρ.set i (relab s ρ0[i]?)) as os
def isNew (ρ : List Slot) : Option Ar → Bool
  | some (.slot i) => (match ρ[i]? with | some (.own 0 _) => true | _ => false)
  | _ => false
theorem baseMv_no {mv : Nat} {H G : Hp} {As : List (List Addr)} {vs : List V} {rs : Exn → Prop} {a : Addr} (h : a ∉ As.getD mv []) : (baseMv mv H G As vs rs).H0 a = H a := by
  show (match decide (a ∈ As.getD mv []) with | true => none | false => H a) = _
  rw [decide_eq_false h]
theorem baseMv_in {mv : Nat} {H G : Hp} {As : List (List Addr)} {vs : List V} {rs : Exn → Prop} {a : Addr} (h : a ∈ As.getD mv []) : (baseMv mv H G As vs rs).H0 a = none := by
  show (match decide (a ∈ As.getD mv []) with | true => none | false => H a) = _
  rw [decide_eq_true h]
theorem baseMv_none {mv : Nat} {H G : Hp} {As : List (List Addr)} {vs : List V} {rs : Exn → Prop} {a : Addr} (h : H a = none) : (baseMv mv H G As vs rs).H0 a = none := by
  by_cases c : a ∈ As.getD mv []
  · exact baseMv_in c
  · rw [baseMv_no c, h]
section
variable {K : PySem.W.Frag} {B B' : Base} {G G' H H' : Hp}
theorem Cells.relMv {As : List (List Addr)} {vs : List V} {rs : Exn → Prop} {mv : Nat} {H0 G0 : Hp} : ∀ {as : List Ar} {ρ : List Slot} {σ : L2.St} {A : List Addr} (n : Nat), Cells K (baseOf H0 G0 As vs rs) G H σ (insAt n ρ as) A → Cells K (baseMv mv H0 G0 As vs rs) G H σ (relMv mv n (insAt n ρ as)) A
  | [], ρ, σ, A, n, h => by
    cases h
    exact .nil
  | .val d :: as, ρ, σ, A, n, h => by
    cases h with
    | cons c r =>
      cases c with
      | val h => exact .cons (.val h) (Cells.relMv (as := as) (n + 1) r)
  | .slot i :: as, ρ, σ, A, n, h => by
    have key : ∀ s : Slot, (s = .non ∨ ∃ o, s = .own (n + 1) o) → ∀ {σ A}, Cells K (baseOf H0 G0 As vs rs) G H σ (s :: insAt (n + 1) (ρ.set i .non) as) A → Cells K (baseMv mv H0 G0 As vs rs) G H σ (DL.relMv mv n (s :: insAt (n + 1) (ρ.set i .non) as)) A := by
      rintro s (rfl | ⟨o, rfl⟩) σ A h
      · cases h with
        | cons c r =>
          cases c
          exact .cons .non (Cells.relMv (as := as) (n + 1) r)
      · cases h with
        | cons c r =>
          cases c with
          | own hO hl hp =>
            refine .cons ?_ (Cells.relMv (as := as) (n + 1) r)
            cases e : n == mv with
            | true =>
              have e := beq_iff_eq.mp e
              subst e
              refine .own hO (fun a m => .inr ?_) (.inl rfl)
              rcases hl a m with z | z
              · exact baseMv_in z
              · exact baseMv_none z
            | false =>
              refine .own hO (fun a m => ?_) hp
              rcases hl a m with z | z
              · exact .inl z
              · exact .inr (baseMv_none z)
    refine key _ ?_ h
    split
    · exact .inr ⟨_, rfl⟩
    · exact .inl rfl
theorem Cells.backMv {σ : L2.St} {G0 : Hp} {mv : Nat} (ρ0 : List Slot) : ∀ {as : List Ar} {vs : List V} {os ρ : List Slot} {A A' : List Addr} (n : Nat), ArOk K G0 σ vs as → Cells K B' G' H' (vs.map some) os A' → Cells K B G' H' σ ρ A → goodOutMv mv n as os = true →
    (slotsOf as).Nodup → (∀ i ∈ slotsOf as, ρ[i]? = some .non) → (∀ (k i : Nat), n + k ≠ mv → as[k]? = some (.slot i) → ∃ l o, ρ0[i]? = some (.own l o) ∧ (∀ a, (a ∈ B'.Mo (n + 1 + k) ∨ B'.H0 a = none) → a ∈ B.Mo l ∨ B.H0 a = none) ∧ ∀ v, σ[i]? = some (some v) → l = 0 ∨ B.pv l = some v) →
    ∃ A2 C, Cells K B G' H' σ (DL.backMv mv ρ0 n ρ as os) A2 ∧ A2.Perm (C ++ A) ∧ C.Sublist A'
  | [], _, os, ρ, A, A', n, .nil, _, h, _, _, _, _ => ⟨A, [], by rw [DL.backMv]; exact h, List.Perm.refl _, List.nil_sublist _⟩
  | .val d :: as, v :: vs, os, ρ, A, A', n, .val r q, c, h, g, nd, hn, hl => by
    cases c with
    | @cons _ s A1 _ os A2 c1 cr =>
      obtain ⟨A3, C, h1, h2, h3⟩ := Cells.backMv ρ0 (n + 1) q cr h (by simpa [goodOutMv] using g) (by simpa [slotsOf] using nd) (by simpa [slotsOf] using hn) (fun k i hk e => by
        obtain ⟨l, o, e1, e2⟩ := hl (k + 1) i (by omega) (by simpa using e)
        rw [show n + 1 + (k + 1) = n + 1 + 1 + k by omega] at e2
        exact ⟨l, o, e1, e2⟩)
      exact ⟨A3, C, by rw [DL.backMv]; exact h1, h2, h3.trans (List.sublist_append_right _ _)⟩
  | .slot j :: as, v :: vs, os, ρ, A, A', n, .slot e0 q, c, h, g, nd, hn, hl => by
    cases c with
    | @cons _ s A1 _ os A2 c1 cr =>
      have g2 : (match n == mv with | true => true | false => isOwnL (n + 1) s) = true ∧ goodOutMv mv (n + 1) as os = true := by simpa [goodOutMv] using g
      have nd' : j ∉ slotsOf as ∧ (slotsOf as).Nodup := by simpa [slotsOf] using nd
      have hl' : ∀ (k i : Nat), n + 1 + k ≠ mv → as[k]? = some (.slot i) → ∃ l o, ρ0[i]? = some (.own l o) ∧ (∀ a, (a ∈ B'.Mo (n + 1 + 1 + k) ∨ B'.H0 a = none) → a ∈ B.Mo l ∨ B.H0 a = none) ∧ ∀ v, σ[i]? = some (some v) → l = 0 ∨ B.pv l = some v := fun k i hk e => by
        obtain ⟨l, o, e1, e2⟩ := hl (k + 1) i (by omega) (by simpa using e)
        rw [show n + 1 + (k + 1) = n + 1 + 1 + k by omega] at e2
        exact ⟨l, o, e1, e2⟩
      cases en : n == mv with
      | true =>
        obtain ⟨A3, C, h1, h2, h3⟩ := Cells.backMv ρ0 (n + 1) q cr h g2.2 nd'.2 (fun i m => hn i (by simp [slotsOf, m])) hl'
        refine ⟨A3, C, ?_, h2, h3.trans (List.sublist_append_right _ _)⟩
        rw [DL.backMv, en]
        exact h1
      | false =>
        rw [en] at g2
        obtain ⟨o, rfl⟩ := isOwnL_inv g2.1
        cases c1 with
        | own hO hr _ =>
          obtain ⟨l, o0, e1, e2, e3⟩ := hl 0 j (fun z => by
            have := beq_iff_eq.mpr (show n = mv by omega)
            rw [en] at this
            cases this) rfl
          have hj : ρ[j]? = some .non := hn j (by simp [slotsOf])
          obtain ⟨A4, c4, p4⟩ := h.put1 (l := l) hj e0 hO ⟨fun a m => e2 a (by simpa using hr a m), e3 _ e0⟩
          obtain ⟨A3, C, h1, h2, h3⟩ := Cells.backMv ρ0 (n + 1) q cr c4 g2.2 nd'.2 (fun i m => by
            have hij : j ≠ i := fun z => nd'.1 (z ▸ m)
            rw [List.getElem?_set_ne hij]
            exact hn i (by simp [slotsOf, m])) hl'
          refine ⟨A3, A1 ++ C, ?_, ?_, h3.append_left A1⟩
          · rw [DL.backMv, e1, en]
            exact h1
          · have p5 := h2.trans (p4.append_left C)
            refine p5.trans ?_
            rw [← List.append_assoc]
            exact List.perm_append_comm.append_right A
end
section
variable {K : PySem.W.Frag} {B : Base} {G H : Hp} {σ : L2.St} {ρ : List Slot} {as : List Ar} {vs : List V}
end
section
variable {X : Cx} {B : Base} {ρ : List Slot} {e : Expr} {es : List Expr} {pos : Pos} {CX : CXT} {k : Nat} {f : Addr} {fd : FuncData} {ps : List Str} {EE : XK} {x : Str} {p : Pos}
end
section
variable {P : Program} {w : World} {K : PySem.W.Frag} {mg : Str → Option Value} {base : Heap} {x : Str} {st : Stmt} {f : Addr} {fd : FuncData} {N ps : List Str} {k : Nat}
end
end DL
namespace DL
open PySem PySem.Spec L2
section
variable {X : Cx} {B : Base} {ρ : List Slot} {e : Expr}
end
section
variable {X : Cx} {B : Base} {ρ : List Slot} {e0 : Expr} {es : List Expr} {pos : Pos} {CX : CXT} {k : Nat} {f : Addr} {fd : FuncData} {ps : List Str} {EE : XK} {x : Str} {p : Pos}
end
mutual
def Flat1 : D → Prop
  | .none => True
  | .bool _ => True
  | .int _ => True
  | .str _ => True
  | .tuple ds => FlatL1 ds
  | .row ds => FlatL1 ds
  | .key _ => True
  | .list ds => ∀ d ∈ ds, ∃ i, d = .int i
  | _ => False
def FlatL1 : List D → Prop
  | [] => True
  | d :: ds => Flat1 d ∧ FlatL1 ds
end
def FlatO1 : OT → Prop
  | .dat d => Flat1 d
  | .lst os => ∀ o ∈ os, ∃ d, o = .dat d ∧ Flat1 d
  | _ => False
section
variable {K : PySem.W.Frag} {G1 G2 H1 : Hp} {A : List Addr}
mutual
theorem Rp.less1 (k : ∀ a u, G1 a = some u → mutO u = false → G2 a = some u) (k1 : ∀ a ws ds, G1 a = some (.lst ws) → RpAll K G1 ws ds → (∀ d ∈ ds, ∃ i, d = .int i) → G2 a = some (.lst ws)) : ∀ {v : V} {d : D}, Rp K G1 v d → Flat1 d → Rp K G2 v d
  | _, _, .non, _ => .non
  | _, _, .bl b, _ => .bl b
  | _, _, .int i, _ => .int i
  | _, _, .str x, _ => .str x
  | _, _, .tup h r, f => .tup (SqT.less k h) (RpAll.less1 k k1 r (by rw [Flat1] at f; exact f))
  | _, _, .row h d r, f => .row (k _ _ h rfl) d (RpAll.less1 k k1 r (by rw [Flat1] at f; exact f))
  | _, _, .key h, _ => .key (k _ _ h rfl)
  | _, _, .lst (ds := ds) h r, f => by
    have f' : ∀ d ∈ ds, ∃ i, d = .int i := by rw [Flat1] at f; exact f
    refine .lst ?_ (RpAll.ints1 r f')
    rcases h with h | ⟨o, h⟩
    · exact .inl (k1 _ _ _ h r f')
    · exact .inr ⟨o, k _ _ h rfl⟩
  | _, _, .scr h, f => by
    rw [Flat1] at f <;> first | exact f.elim | (intros; exact D.noConfusion)
  | _, _, .dK h r, f => by
    rw [Flat1] at f <;> first | exact f.elim | (intros; exact D.noConfusion)
  | _, _, .dT h r, f => by
    rw [Flat1] at f <;> first | exact f.elim | (intros; exact D.noConfusion)
  | _, _, .ddk h r, f => by
    rw [Flat1] at f <;> first | exact f.elim | (intros; exact D.noConfusion)
  | _, _, .ddt h r, f => by
    rw [Flat1] at f <;> first | exact f.elim | (intros; exact D.noConfusion)
  | _, _, .any z, _ => .any z
theorem RpAll.less1 (k : ∀ a u, G1 a = some u → mutO u = false → G2 a = some u) (k1 : ∀ a ws ds, G1 a = some (.lst ws) → RpAll K G1 ws ds → (∀ d ∈ ds, ∃ i, d = .int i) → G2 a = some (.lst ws)) : ∀ {v : List V} {d : List D}, RpAll K G1 v d → FlatL1 d → RpAll K G2 v d
  | _, _, .nil, _ => .nil
  | _, _, .cons h r, f => .cons (Rp.less1 k k1 h (by rw [FlatL1] at f; exact f.1)) (RpAll.less1 k k1 r (by rw [FlatL1] at f; exact f.2))
theorem RpAll.ints1 : ∀ {v : List V} {ds : List D}, RpAll K G1 v ds → (∀ d ∈ ds, ∃ i, d = .int i) → RpAll K G2 v ds
  | _, _, .nil, _ => .nil
  | _, _, .cons h r, f => .cons (by
      obtain ⟨i, rfl⟩ := f _ List.mem_cons_self
      cases h
      exact .int i) (RpAll.ints1 r fun d m => f d (List.mem_cons_of_mem _ m))
end
theorem OwnAll.less1 (k : ∀ a u, G1 a = some u → mutO u = false → G2 a = some u) (k1 : ∀ a ws ds, G1 a = some (.lst ws) → RpAll K G1 ws ds → (∀ d ∈ ds, ∃ i, d = .int i) → G2 a = some (.lst ws)) : ∀ {os : List OT} {v : List V} {A : List Addr}, OwnAll K G1 H1 v os A → (∀ o ∈ os, ∃ d, o = .dat d ∧ Flat1 d) → OwnAll K G2 H1 v os A
  | [], _, _, h, _ => by
    cases h
    exact .nil
  | o :: os, _, _, h, f => by
    cases h with
    | cons h r =>
      obtain ⟨d, rfl, fd⟩ := f _ List.mem_cons_self
      refine .cons ?_ (OwnAll.less1 k k1 r fun o m => f o (List.mem_cons_of_mem _ m))
      cases h with
      | dat h => exact .dat (h.less1 k k1 fd)
theorem Own.less1 (k : ∀ a u, G1 a = some u → mutO u = false → G2 a = some u) (k1 : ∀ a ws ds, G1 a = some (.lst ws) → RpAll K G1 ws ds → (∀ d ∈ ds, ∃ i, d = .int i) → G2 a = some (.lst ws)) {v : V} {o : OT} {A : List Addr} (h : Own K G1 H1 v o A) (f : FlatO1 o) : Own K G2 H1 v o A := by
  cases h with
  | dat h => exact .dat (h.less1 k k1 (by rw [FlatO1] at f; exact f))
  | lst h r => exact .lst h (OwnAll.less1 k k1 r (by rw [FlatO1] at f; exact f))
  | dk h r => exact (by rw [FlatO1] at f <;> first | exact f.elim | (intros; exact OT.noConfusion))
  | dt h r => exact (by rw [FlatO1] at f <;> first | exact f.elim | (intros; exact OT.noConfusion))
  | tp h r => exact (by rw [FlatO1] at f <;> first | exact f.elim | (intros; exact OT.noConfusion))
  | dko h hk r => exact (by rw [FlatO1] at f <;> first | exact f.elim | (intros; exact OT.noConfusion))
  | obj h g n hk r => exact (by rw [FlatO1] at f <;> first | exact f.elim | (intros; exact OT.noConfusion))
end
section
variable {K : PySem.W.Frag} {B B' : Base} {G G' H H' G1 G2 H1 : Hp}
end
section
variable {X : Cx} {B : Base} {ρ : List Slot} {pos : Pos} {e : Expr}
end
section
variable {X : Cx} {B : Base} {ρ : List Slot}
end
section
variable {X : Cx} {B : Base} {ρ : List Slot} {pos : Pos} {e : Expr}
end
end DL
namespace DL
open PySem PySem.Spec L2
def k2r {β : Type} (xs : List ((Int × Int) × β)) : List ((List Int) × β) := xs.map fun p => ([p.1.1, p.1.2], p.2)
end DL
namespace L2
open PySem PySem.Spec PyProof.Rows
section
variable {X : Cx}
def rLenTF : List V → Hp → VK → Prop := fun xs H Q => ∃ (p : Addr) (o : Obj) (kvs : List (List Key × V)), xs = [.ref p] ∧ H p = some (.frz o (.dT kvs)) ∧ Q (.int ((kvs.length : Nat) : Int)) H
end
end L2
namespace DL
open PySem PySem.Spec L2
section
variable {K : PySem.W.Frag} {B : Base} {ρ : List Slot} {β : Type} {f : β → D}
end
end DL
namespace DL
open PySem PySem.Spec L2
section
variable {K : PySem.W.Frag}
end
end DL
namespace RZ
open PySem
open PySem.Sem (wp)
structure Leg (prog : Program) (w : World) (i l : Addr) (xs : Array Value) where
  St : Heap → Nat → Prop
  keep : ∀ {h h' : Heap} {k : Nat}, St h k → (∀ o, h.get? i = some o → h'.get? i = some o) → (∀ o, h.get? l = some o → h'.get? l = some o) → St h' k
  item : ∀ {A : Around} {E Q : Value → Shared → Prop} {s : Shared} {k : Nat} {x : Value}, St s.heap k → xs[k]? = some x → (∀ h', St h' (k + 1) → Heap.SameBut i s.heap h' → Q x { s with heap := h' }) →
    wpAny (model prog w) A (Builtin.SmallTypes.nextOf (.ref i)) Q E s
  stop : ∀ {A : Around} {E Q : Value → Shared → Prop} {s : Shared} {k : Nat}, A.handled = none → St s.heap k → xs[k]? = none →
    (∀ h' e, Heap.ExtBut i s.heap h' → (∃ o, h'.get? e = some o ∧ o.cls = .type "StopIteration") → E (.ref e) { s with heap := h' }) → wpAny (model prog w) A (Builtin.SmallTypes.nextOf (.ref i)) Q E s
section
variable {prog : Program} {w : World}
theorem isList_at {h h' : Heap} {a : Addr} {xs : Array Value} (x : h.IsList a xs) (e : ∀ o, h.get? a = some o → h'.get? a = some o) : h'.IsList a xs := by
  obtain ⟨o, ho, r⟩ := x
  exact ⟨o, e _ ho, r⟩
theorem isTuple_at {h h' : Heap} {a : Addr} {xs : Array Value} (x : h.IsTuple a xs) (e : ∀ o, h.get? a = some o → h'.get? a = some o) : h'.IsTuple a xs := by
  obtain ⟨o, ho, r⟩ := x
  exact ⟨o, e _ ho, r⟩
def legL (prog : Program) (w : World) (i l : Addr) (xs : Array Value) (ne : l ≠ i) : Leg prog w i l xs where
  St := fun h k => h.IsListIter i l k ∧ h.IsList l xs
  keep := fun ⟨a, b⟩ e1 e2 => ⟨a.at e1, isList_at b e2⟩
  item := fun ⟨a, b⟩ hx q => wpAny_nextOf_list_item a b hx fun h' a' sb => q h' ⟨a', isList_at b fun o e => sb.extBut _ _ ne e⟩ sb
  stop := fun hh ⟨a, b⟩ hx q => wpAny_nextOf_list_end hh a b hx q
def legT (prog : Program) (w : World) (i l : Addr) (xs : Array Value) (ne : l ≠ i) : Leg prog w i l xs where
  St := fun h k => h.IsTupleIter i l k ∧ h.IsTuple l xs
  keep := fun ⟨a, b⟩ e1 e2 => ⟨a.at e1, isTuple_at b e2⟩
  item := fun ⟨a, b⟩ hx q => nextOf_tuple_item a b hx fun h' a' sb => q h' ⟨a', isTuple_at b fun o e => sb.extBut _ _ ne e⟩ sb
  stop := fun hh ⟨a, b⟩ hx q => nextOf_tuple_end hh a b hx q
end
section
variable {prog : Program} {w : World} {A : Around} {E : Value → Shared → Prop} {s : Shared}
variable {z TI TO i1 i2 l1 l2 : Addr} {xs ys : Array Value} {L1 : Leg prog w i1 l1 xs} {L2 : Leg prog w i2 l2 ys}
def Stay (cs : List Addr) (h h' : Heap) : Prop := ∀ c o, c ∉ cs → h.get? c = some o → h'.get? c = some o
end
end RZ
namespace RZ
open PySem
open PySem.Sem (wp)
def zl1 (h : Heap) (l1 : Addr) : Heap := h.push { cls := .type "list_iterator", data := .fields #[.ref l1, .int 0 0] }
def zl2 (h : Heap) (l1 l2 : Addr) : Heap := (zl1 h l1).push { cls := .type "tuple_iterator", data := .fields #[.ref l2, .int 0 0] }
def zl3 (h : Heap) (l1 l2 : Addr) : Heap := (zl2 h l1 l2).push { cls := .type "tuple", data := .seq #[.ref h.objs.size, .ref (zl1 h l1).objs.size] }
def zl4 (h : Heap) (l1 l2 : Addr) : Heap := (zl3 h l1 l2).push { cls := .type "tuple", data := .seq #[.none, .none] }
def zl5 (h : Heap) (l1 l2 : Addr) : Heap := (zl4 h l1 l2).push { cls := .type "zip", data := .fields #[.none, .bool false, .bool false, .ref (zl2 h l1 l2).objs.size, .ref (zl3 h l1 l2).objs.size] }
section
variable {prog : Program} {w : World} {A : Around} {E : Value → Shared → Prop} {s : Shared}
end
end RZ
namespace L2
open PySem PySem.Spec PyProof.Rows RZ
section
variable {X : Cx} {pins : List (Addr × Obj)} {σ : St} {H : Hp} {s : Shared} {a : Addr} {xs : List V}
end
section
variable {X : Cx} {pins : List (Addr × Obj)} {σ : St} {A1 : Around} {a b z TI TO i1 i2 S : Addr}
def ZStL (z TI TO i1 i2 a b : Addr) (i : Nat) (h : Heap) (H : Hp) : Prop :=
  IsPair h TI (.ref i1) (.ref i2) ∧ h.IsListIter i1 a i ∧ h.IsTupleIter i2 b i ∧ ((IsZip h z TI TO .none ∧ ∃ x y, IsPair h TO x y) ∨ ∃ T f ls, IsZipHeld h z TI TO T f ∧ H T = some (.tup ls)) 
end
section
variable {X : Cx} {e e2 : Expr} {ta : TA}
def tLZipL (K : PySem.W.Frag) (ta : TA) : TE := fun σ H Q => ta σ H fun vs H1 => ∃ a b xs ys, vs = [.ref a, .ref b] ∧ Rd H1 a (.lst xs) ∧ SqT K H1 b ys ∧ ∀ S, H1 S = none → kZip S (fun H2 => Q (.ref S) H2) (xs.zip ys) [] (upd H1 S (.lst []))
end
end L2
namespace DL
open PySem PySem.Spec L2
section
variable {X : Cx} {B : Base} {ρ : List Slot} {e e2 : Expr} {α γ : Type}
end
end DL
namespace HashT
theorem st2_inj {x y x' y' : Nat} (hx : x < 40) (hy : y < 40) (hx' : x' < 40) (hy' : y' < 40) (e : st (st 2870177450012600261 x) y = st (st 2870177450012600261 x') y') : x = x' ∧ y = y' := by
  by_cases q : (x, y) = (x', y')
  · injection q with q1 q2
    exact ⟨q1, q2⟩
  · have h := V_V hx hy hx' hy' q
    have k : V x y = V x' y' := by unfold V; rw [e]
    omega
def okP (p : Nat × Nat) : Bool := !((st (st 2870177450012600261 p.1) p.2 + 2870177450013471924) % M == M - 1)
theorem all_ne2 : prs.all okP = true := by decide +kernel
theorem nm2 {x y : Nat} (hx : x < 40) (hy : y < 40) : (st (st 2870177450012600261 x) y + 2870177450013471924) % M ≠ M - 1 := by
  have h : okP (x, y) = true := List.all_eq_true.mp all_ne2 _ (prs_mem hx hy)
  intro e
  unfold okP at h
  rw [e, beq_self_eq_true] at h
  cases h
open PySem in
theorem hash_is2 {x y : Nat} (hx : x < 40) (hy : y < 40) : Builtin.Tuple.tupleHashOf [(x : Int), (y : Int)] = fin ((st (st 2870177450012600261 x) y + 2870177450013471924) % M) := by
  have e1 : (2 : Nat) ^ 64 = M := by decide
  have e4 : (2 ^^^ (2870177450012600261 ^^^ 3527539) : Nat) = 2870177450013471924 := by decide
  rw [tho, List.foldl_cons, List.foldl_cons, List.foldl_nil, stp_nat _ hx, stp_nat _ hy, e1]
  show fin ((_ + (2 ^^^ (2870177450012600261 ^^^ 3527539))) % M) = _
  rw [e4]
open PySem in
theorem hash_inj2 {x y x' y' : Nat} (hx : x < 40) (hy : y < 40) (hx' : x' < 40) (hy' : y' < 40) (e : reduceHash (Builtin.Tuple.tupleHashOf [(x : Int), (y : Int)]) = reduceHash (Builtin.Tuple.tupleHashOf [(x' : Int), (y' : Int)])) : x = x' ∧ y = y' := by
  have mp : 0 < M := by decide
  have lt : ∀ a h, st a h < M := fun a h => Nat.mod_lt _ mp
  have red : ∀ {x y : Nat}, x < 40 → y < 40 → reduceHash (Builtin.Tuple.tupleHashOf [(x : Int), (y : Int)]) = (if (st (st 2870177450012600261 x) y + 2870177450013471924) % M < 9223372036854775808 then (((st (st 2870177450012600261 x) y + 2870177450013471924) % M : Nat) : Int) else (((st (st 2870177450012600261 x) y + 2870177450013471924) % M : Nat) : Int) - 18446744073709551616) := fun {x y} hx hy => by
    have n := nm2 hx hy
    have l := Nat.mod_lt (st (st 2870177450012600261 x) y + 2870177450013471924) mp
    rw [hash_is2 hx hy]
    generalize (st (st 2870177450012600261 x) y + 2870177450013471924) % M = acc at n l
    rw [fin_of l n]
    unfold M at l n
    by_cases k : acc < 9223372036854775808
    · rw [if_pos k, red_of (by omega) (by omega) (by omega)]
    · rw [if_neg k, red_of (by omega) (by omega) (by omega)]
  rw [red hx hy, red hx' hy'] at e
  have l1 := lt (st 2870177450012600261 x) y
  have l2 := lt (st 2870177450012600261 x') y'
  have k : st (st 2870177450012600261 x) y = st (st 2870177450012600261 x') y' := by
    generalize st (st 2870177450012600261 x) y = A at *
    generalize st (st 2870177450012600261 x') y' = A' at *
    unfold M at *
    split at e <;> split at e <;> omega
  exact st2_inj hx hy hx' hy' k
end HashT
namespace L2
open PySem PySem.Spec PyProof.Rows
section
variable {X : Cx}
def k2 (k : List Key) : Prop := ∃ x y : Nat, x < 40 ∧ y < 40 ∧ k = [Sum.inl (x : Int), Sum.inl (y : Int)]
def rDCopyT2 : List V → Hp → VK → Prop := fun vs H Q => ∃ (a : Addr) (ks : List (List Key × V)), vs = [.ref a] ∧ Rd H a (.dT ks) ∧ (∀ kv ∈ ks, k2 kv.1) ∧ ∀ p, H p = none → Q (.ref p) (upd H p (.dT ks))
end
end L2
namespace DL
open PySem PySem.Spec L2
section
variable {B : Base} {β : Type} {f : β → D} {ρ : List Slot}
def row2 (r : List Int) : Bool := decide (r.length = 2) && r.all fun x => decide (0 ≤ x) && decide (x < 40)
end
end DL
namespace PySem.W
open PySem PySem.Calls PyProof.Rows PyProof.V PySem.Spec
section
variable {prog : Program} {w : World} {A : Around} {E : Value → Shared → Prop} {s : Shared} {K : Type} [DecidableEq K] {knd : HeapKind prog w K}
end
end PySem.W
namespace L2
open PySem PySem.Spec PyProof.Rows
section
variable {X : Cx}
def rNeT : R2 := fun x y H Q => ∃ a b, ∃ ks : List (List Key × V), x = .ref a ∧ y = .ref b ∧ Rd H a (.dT ks) ∧ Rd H b (.dT ks) ∧ (∀ p ∈ ks, flatB p.2 = true) ∧ Q (.bl false) H
end
end L2
namespace DL
open PySem PySem.Spec L2
section
variable {B : Base}
end
end DL
namespace DL
open PySem PySem.Calls PyProof.Rows PySem.Spec L2
section
variable {X : Cx}
def rInDT (K : PySem.W.Frag) : R2 := fun x y H Q => ∃ d ds, Dp K H x d ∧ Dp K H y (.tuple ds) ∧ SeqAt.shaped d = true ∧ SeqAt.shaped (.tuple ds) = true ∧ Q (.bl (ds.any fun z => PyData.eqv z d)) H
def rNotInDT (K : PySem.W.Frag) : R2 := fun x y H Q => ∃ d ds, Dp K H x d ∧ Dp K H y (.tuple ds) ∧ SeqAt.shaped d = true ∧ SeqAt.shaped (.tuple ds) = true ∧ Q (.bl (!ds.any fun z => PyData.eqv z d)) H
end
section
variable {K : PySem.W.Frag} {B : Base} {α : Type} [DecidableEq α] {n : Nat} {f : α → D}
end
end DL
namespace L2
open PySem PySem.Spec PyProof.Rows RZ
section
variable {X : Cx} {pins : List (Addr × Obj)} {σ : St} {A1 : Around} {a it S : Addr}
end
section
variable {X : Cx}
def tListRev (te : TE) : TE := fun σ H Q => te σ H fun v H1 => ∃ (a : Addr) (xs : List V), v = .ref a ∧ Rd H1 a (.lst xs) ∧ ∀ q, H1 q = none → Q (.ref q) (upd H1 q (.lst xs.reverse))
end
end L2
namespace DL
open PySem PySem.Spec L2
section
variable {X : Cx} {B : Base} {ρ : List Slot} {e : Expr} {α β : Type}
end
end DL
namespace DL
open PySem PySem.Spec L2
def two2 (r : List Int) : Int × Int := (r.getD 0 0, r.getD 1 0)
section
variable {X : Cx} {B : Base} {ρ : List Slot} {tg e : Expr} {γ : Type}
end
end DL
namespace DL
open PySem PySem.Spec L2 PyProof.Rows
def Itz3 (K : PySem.W.Frag) (a b c : Addr) : It :=
  ⟨fun i H => ∃ (xs ys zs : List V) (x y z : V), SqL K H a xs ∧ SqL K H b ys ∧ SqL K H c zs ∧ xs[i]? = some x ∧ ys[i]? = some y ∧ zs[i]? = some z,
    fun i H v H' => ∃ T x y z, v = .ref T ∧ H T = none ∧ H' = upd H T (.tup [x, y, z]) ∧ (∀ xs, SqL K H a xs → xs[i]? = some x) ∧ (∀ ys, SqL K H b ys → ys[i]? = some y) ∧ ∀ zs, SqL K H c zs → zs[i]? = some z,
    fun i H => ∃ xs ys zs : List V, SqL K H a xs ∧ SqL K H b ys ∧ SqL K H c zs ∧ (xs.length ≤ i ∨ ys.length ≤ i ∨ zs.length ≤ i)⟩
def iZip3 (K : PySem.W.Frag) (ta : TA) : TI := fun σ H R => ta σ H fun vs H1 => ∃ a b c xs ys zs, vs = [.ref a, .ref b, .ref c] ∧ SqL K H1 a xs ∧ SqL K H1 b ys ∧ SqL K H1 c zs ∧ R (Itz3 K a b c) H1
section
variable {α β γ δ : Type} {X : Cx} {B : Base} {ρ : List Slot} {e e2 e3 : Expr} {pos : Pos}
end
@[reducible] def eP6 {α β γ δ ε ζ : Type} (f : α → D) (g : β → D) (h : γ → D) (i : δ → D) (j : ε → D) (k : ζ → D) (p : α × β × γ × δ × ε × ζ) : D := .tuple [f p.1, g p.2.1, h p.2.2.1, i p.2.2.2.1, j p.2.2.2.2.1, k p.2.2.2.2.2]
end DL
namespace DL
open PySem PySem.Spec L2 PyProof.Rows
theorem rp_strs {K : PySem.W.Frag} {G : Hp} : ∀ zs : List Str, RpAll K G (zs.map V.str) (zs.map D.str)
  | [] => .nil
  | z :: zs => .cons (.str z) (rp_strs zs)
section
variable {X : Cx} {B : Base} {ρ : List Slot} {e obj : Expr} {pos : Pos}
theorem je_split {ap : Pos} {β : Type} {m : R β} {a : β → Str} {b : Str} {ρ' : β → List Slot} (ho : JE X B ρ obj m (fun g => .val (.str (a g))) ρ') (he : ∀ g, JP X B (ρ' g) e (.str b)) (hst : starEach [e] X.env = (false, eval e X.env) :: starEach [] X.env := by rfl)
    (base : attributeBase obj "split" X.env (eval obj X.env) = eval obj X.env := by rfl)
    (few : ((backTo pos (starEach [e] X.env)).all (fun x => !x.1) && (backToKw pos (keywordEach [] X.env)).all (fun x => x.1.isSome) && decide ([e].length + ([] : List Keyword).length + (if ([] : List Keyword).isEmpty then 0 else 1) < 30)) = true := by rfl)
    (line : (ap.endLine == pos.line) = true := by rfl) (pl : (backTo pos (starEach [] X.env)).any (·.1) = false := by rfl) :
    JE X B ρ (.Call (.Attribute obj "split" ap) [e] [] pos) (m.bind fun g => (R.guard ((b.length == 0) = false ∧ (a g).length + 2 ≤ sizeLine)).bind fun _ => .ok g) (fun g => .val (eL D.str (Txt.split (a g) b))) ρ' := by
  have he' : PE X e (fun σ H Q => ∃ g, tJ X.K B (ρ' g) (.ok ()) (fun _ => .val (.str b)) (fun _ => ρ' g) σ H Q) := ⟨fun pins s σ H Q I ⟨g, q⟩ => (he g).run pins s σ H Q I q⟩
  refine PE_imp (pe_bm PySem.F.plainAttrs_str PySem.F.slot_str_split PySem.F.type_str_split mt_split ho (pa_cons he' pa_nil hst) base few line hst pl) fun σ H Q ⟨G, E, q⟩ => ⟨G, E, R.post_mono (R.post_bind.mp q) fun g q v G1 H1 x1 E1 => ?_⟩
  have ev := E1.top.str_inv
  subst ev
  refine ⟨rfl, g, G1, E1.pop, fun w G2 H2 x2 E2 => ?_⟩
  have ew := E2.top.str_inv
  subst ew
  obtain ⟨⟨h1, h2⟩, q⟩ := R.post_guard (R.post_bind.mp q)
  exact ⟨a g, b, rfl, rfl, h1, h2, fun p hp => q _ (upd G2 p _) _ (x1.trans (x2.trans (Ex.new (E2.sub.back hp)))) ((E2.pop.new hp _).push (.lst (.inl upd_same) (rp_strs _)))⟩
end
end DL
namespace DL
open PySem PySem.Spec L2 PySem.W PyProof.Rows
end DL
namespace DL
open PySem PySem.Spec L2
section
variable {β : Type}
@[reducible] def odZ (f : β → D) (kvs : List (Str × β)) : OT := .dk (kvs.map fun p => (Sum.inr p.1, f p.2))
@[reducible] def eDZ (f : β → D) (kvs : List (Str × β)) : D := .ddk (kvs.map fun p => (D.str p.1, f p.2))
def hasZ (k : Str) (kvs : List (Str × β)) : Bool := kvs.any fun p => decide (p.1 = k)
def putZ (kvs : List (Str × β)) (k : Str) (v : β) : List (Str × β) := if hasZ k kvs = true then kvs.map (fun p => if p.1 = k then (p.1, v) else p) else kvs ++ [(k, v)]
def lookZ (kvs : List (Str × β)) (k : Str) : Option β := (kvs.find? fun p => decide (p.1 = k)).map (·.2)
end
section
variable {K : PySem.W.Frag} {G : Hp} {β : Type} {f : β → D}
theorem inr_dec (a k : Str) : decide ((Sum.inr a : Key) = Sum.inr k) = decide (a = k) := decide_eq_decide.mpr ⟨fun h => Sum.inr.inj h, fun h => by rw [h]⟩
theorem rpe_anyZ {kvs : List (Key × V)} {ds : List (Str × β)} (h : RpE K G kvs (ds.map fun p => (Sum.inr p.1, f p.2))) (k : Str) : (kvs.any fun kv => decide (kv.1 = Sum.inr k)) = hasZ k ds := by
  induction ds generalizing kvs with
  | nil =>
    cases h
    rfl
  | cons d ds ih =>
    cases h with
    | cons h1 h2 =>
      rw [List.any_cons, ih h2]
      show (decide ((Sum.inr d.1 : Key) = Sum.inr k) || hasZ k ds) = _
      rw [inr_dec]
      rfl
theorem rpe_putZ {kvs : List (Key × V)} {ds : List (Str × β)} (h : RpE K G kvs (ds.map fun p => (Sum.inr p.1, f p.2))) {k : Str} {v : V} {d : β} (r : Rp K G v (f d)) : RpE K G (putK kvs (Sum.inr k) v) ((putZ ds k d).map fun p => (Sum.inr p.1, f p.2)) := by
  unfold putK putZ
  rw [rpe_anyZ h k]
  by_cases e : hasZ k ds = true
  · rw [if_pos e, if_pos e]
    clear e
    induction ds generalizing kvs with
    | nil =>
      cases h
      exact .nil
    | cons x ds ih =>
      cases h with
      | @cons _ w _ _ _ h1 h2 =>
        rw [List.map_cons, List.map_cons, List.map_cons]
        by_cases e : x.1 = k
        · rw [if_pos (show (Sum.inr x.1 : Key) = Sum.inr k by rw [e]), if_pos e]
          exact .cons r (ih h2)
        · rw [if_neg (show ¬ (Sum.inr x.1 : Key) = Sum.inr k from fun z => e (Sum.inr.inj z)), if_neg e]
          exact .cons h1 (ih h2)
  · rw [if_neg e, if_neg e, List.map_append]
    exact rpe_append h (.cons r .nil)
theorem rpk_rpeZ : ∀ {kvs : List (Str × β)} {ks : List (Key × V)}, RpK K G ks (kvs.map fun p => (D.str p.1, f p.2)) → RpE K G ks (kvs.map fun p => ((Sum.inr p.1 : Key), f p.2))
  | [], _, h => by
    cases h
    exact .nil
  | p :: kvs, ks, h => by
    rw [List.map_cons] at h ⊢
    generalize hx : (D.str p.1, f p.2) = x at h
    cases h with
    | @cons k v r d ds h1 h2 =>
      cases k with
      | inr i =>
        injection hx with e1 e2
        injection e1 with e1
        subst e2
        rw [e1]
        exact .cons h1 (rpk_rpeZ h2)
      | inl x =>
        injection hx with e1 e2
        cases e1
theorem Rp.ddz_inv {v : V} {kvs : List (Str × β)} (h : Rp K G v (eDZ f kvs)) : ∃ a o ks, v = .ref a ∧ G a = some (.frz o (.dK ks)) ∧ RpE K G ks (kvs.map fun p => ((Sum.inr p.1 : Key), f p.2)) := by
  unfold eDZ at h
  generalize hx : (kvs.map fun p => (D.str p.1, f p.2)) = x at h
  cases h with
  | ddk h r =>
    subst hx
    exact ⟨_, _, _, rfl, h, rpk_rpeZ r⟩
  | any z =>
    cases kvs with
    | nil => cases hx
    | cons p t =>
      rw [List.map_cons] at hx
      injection hx with hx _
      injection hx with hx _
      cases hx
  | ddt h r =>
    cases kvs with
    | nil => cases hx
    | cons p t =>
      rw [List.map_cons] at hx
      injection hx with hx _
      injection hx with hx _
      cases hx
theorem rpe_lookZ {kvs : List (Key × V)} {ds : List (Str × β)} (h : RpE K G kvs (ds.map fun p => ((Sum.inr p.1 : Key), f p.2))) {k : Str} {b : β} (e : lookZ ds k = some b) : ∃ v, valV kvs (Sum.inr k) = some v ∧ Rp K G v (f b) := by
  induction ds generalizing kvs with
  | nil => cases e
  | cons d ds ih =>
    cases h with
    | @cons _ w _ _ _ h1 h2 =>
      by_cases hd : d.1 = k
      · rw [lookZ, List.find?_cons, decide_eq_true hd] at e
        cases e
        exact ⟨w, valV_pos (p := (Sum.inr d.1, w)) (by rw [hd]), h1⟩
      · have e' : lookZ ds k = some b := by
          rw [lookZ, List.find?_cons, decide_eq_false hd] at e
          exact e
        obtain ⟨v, a1, a2⟩ := ih h2 e'
        exact ⟨v, by rw [valV_neg (p := (Sum.inr d.1, w)) (fun z => hd (Sum.inr.inj z))]; exact a1, a2⟩
end
section
variable {K : PySem.W.Frag} {X : Cx} {B : Base} {ρ : List Slot} {e a o o2 e2 tg it val : Expr} {pos pos' ap cp : Pos} {β γ : Type} {f : β → D}
theorem je_frzZ {m : R γ} {kvs : γ → List (Str × β)} {ρ' : γ → List Slot} (h : JE X B ρ e m (fun b => .own 0 (odZ f (kvs b))) ρ') (hal : ∀ b, noAlis (ρ' b) = true := by intro _; rfl) : JE X B ρ e m (fun b => .val (eDZ f (kvs b))) ρ' :=
  PE_imp (pe_frz h) fun σ H Q ⟨G, E, q⟩ => ⟨G, E, R.post_mono q fun b k v G' H' x E' => by
    obtain ⟨d, ks, hv, hd, lk⟩ := E'.lockDK (hal b)
    refine ⟨d, _, hv, hd, trivial, fun od => ?_⟩
    obtain ⟨G2, x2, E2⟩ := lk od
    rw [List.map_map] at E2
    exact k v G2 _ (x.trans x2) E2⟩
theorem od_dgetZ {K : PySem.W.Frag} {kvs : List (Str × β)} {k : Str} : OpD K B rDGet (eDZ f kvs) (.str k) (R.some (lookZ kvs k)) (fun b => .val (f b)) := fun G H σ ρ vx vy Q E hx hy q => by
  obtain ⟨a, o, ks, rfl, h1, h2⟩ := hx.ddz_inv
  rw [hy.str_inv]
  obtain ⟨b, hb, q⟩ := R.post_some q
  obtain ⟨v, e1, e2⟩ := rpe_lookZ h2 hb
  exact ⟨a, v, rfl, .inl ⟨ks, Sum.inr k, .inr ⟨o, E.sub _ _ h1⟩, rfl, e1.symm⟩, q v G H (Ex.refl G) (E.push e2)⟩
theorem od_dinFZ {K : PySem.W.Frag} {kvs : List (Str × β)} {k : Str} {c : Bool} : OpD K B (rDIn c) (.str k) (eDZ f kvs) (.ok ()) (fun _ => .val (.bool (if c then hasZ k kvs else !hasZ k kvs))) := fun G H σ ρ vx vy Q E hx hy q => by
  obtain ⟨a, o, ks, rfl, h1, h2⟩ := hy.ddz_inv
  rw [hx.str_inv]
  refine ⟨a, _, rfl, .inl ⟨ks, Sum.inr k, .inr ⟨o, E.sub _ _ h1⟩, rfl, rfl⟩, ?_⟩
  rw [valV_some, rpe_anyZ h2]
  exact q _ G H (Ex.refl G) (E.push (.bl _))
theorem j1_dputZ (i : Nat) {x : Str} {px : Pos} {l : Nat} {f : β → D} {kvs : List (Str × β)} {k : Str} {v : β} (hu : X.A.units + 64 < cLine) (h : ρ[i]? = some (.own l (odZ f kvs)) := by rfl) (hk : JP X B ρ o2 (.str k)) (hv : JP X B ρ val (f v)) (hal : noAlis ρ = true := by rfl) (hN : X.N[i]? = some x := by rfl)
    (hvi : Vis X.env.scope x := by first | exact Or.inl rfl | exact Or.inr (Or.inl rfl) | exact Or.inr (Or.inr rfl)) (hd : (x == ("__debug__" : Str)) = false := by decide) (hcd : (x == ("__classdict__" : Str)) = false := by decide)
    (hs : swapsWith val (some (.Subscript (.Name x px) o2 pos')) pos.line X.env = pure false := by rfl) :
    J1 X B ρ (.Assign [.Subscript (.Name x px) o2 pos'] val pos) (R.guard (kvs.length < sizeLine)) (fun _ => ρ.set i (.own l (odZ f (putZ kvs k v)))) :=
  PS_imp (ps_dput (by omega) (pv (X := X) (pos := px) i hN hvi hd hcd) hk hv hs) fun Dn σ H ⟨G, E, q⟩ => by
    obtain ⟨hc, q⟩ := R.post_guard q
    refine ⟨G, E, fun w G1 H1 x1 E1 => ?_⟩
    obtain ⟨p, kv, g1, g2, g3, _⟩ := E1.pop.ownDK h hal
    refine ⟨.ref p, g1, G1, E1.pop, fun y G2 H2 x2 E2 => ?_⟩
    have hy := E2.top.str_inv
    subst hy
    obtain ⟨p', kv', f1, f2, f3, f4⟩ := E2.pop.ownDK h hal
    have ep : p' = p := by
      have z := f1.symm.trans g1
      injection z with z
      injection z with z
      injection z
    subst ep
    have hl : kv'.length < sizeLine := by
      rw [rpe_len f3, List.length_map]
      exact hc
    exact ⟨p', _, rfl, DPut.k (k := Sum.inr k) (v := w) f2 hl, q σ G2 _ (x1.trans x2) (f4 _ _ (rpe_putZ f3 (E1.top.ex x2)))⟩
theorem cb_lenDz {kvs : List (Str × β)} : CbD K B ρ (rLenD K) [.val (eDZ f kvs)] (.ok ()) (fun _ => .val (.int ((kvs.length : Nat) : Int))) := fun G H σ vs Q E ok q => by
  obtain ⟨v, rfl, r⟩ := ok.one
  obtain ⟨p, o, ks, rfl, h1, h2⟩ := r.ddz_inv
  refine ⟨p, ks, rfl, .inr ⟨o, E.sub _ _ h1⟩, ?_⟩
  have hl : ks.length = kvs.length := by rw [rpe_len h2, List.length_map]
  rw [hl]
  exact q _ G _ (Ex.refl G) (E.push (.int _))
theorem je_newZ : JE X B ρ (.Dict [] [] pos) (.ok ()) (fun _ => .own 0 (odZ f ([] : List (Str × β)))) (fun _ => ρ) :=
  PE_imp pe_dnewK fun σ H Q ⟨G, E, q⟩ p hp => q _ G _ (Ex.refl G) (E.newDK hp .nil)
theorem od_dinZ1 {kvs : List (Str × β)} {k : Str} : OpD K B (rDIn true) (.str k) (eDZ f kvs) (.ok ()) (fun _ => .val (.bool (hasZ k kvs))) := od_dinFZ (c := true)
end
end DL
namespace DL
open PySem PySem.Spec L2 PyProof.Rows
def IteZ (x : Str) : It :=
  ⟨fun i _ => i < x.cps.size, fun i H v H' => ∃ T c, v = .ref T ∧ H T = none ∧ H' = upd H T (.tup [.int (i : Nat), .str ⟨#[c]⟩]) ∧ x.cps[i]? = some c, fun i _ => x.cps.size ≤ i⟩
theorem turn_enumZ {P : Program} {w : World} {K : PySem.W.Frag} {elts : List Expr} {kk : Nat} {tpos : Pos} (x : Str) (t : Tok) (e it : Addr) :
    Turn P w K (.Tuple elts kk tpos) (IteZ x) [e, it] e (fun i h => (∃ old, IsEnum h e it ((i : Nat) : Int) old) ∧ h.IsStrIter it (strIterType x) x t i ∧ e ≠ it ∧ i ≤ x.cps.size) where
  mem := by simp
  obj := fun i h st b hb => by
    obtain ⟨⟨old, ge⟩, ⟨o, go, gc, gd⟩, _⟩ := st
    rcases (show b = e ∨ b = it by simpa using hb) with z | z
    · subst z
      exact ⟨_, ge, fun v q => nomatch q⟩
    · subst z
      exact ⟨o, go, fun v q => by
        rw [gd] at q
        cases q⟩
  keep := fun i h h' st k => by
    obtain ⟨⟨old, ge⟩, ⟨o, go, gr⟩, hne, hi⟩ := st
    exact ⟨⟨old, k e (by simp) _ ge⟩, ⟨o, k it (by simp) o go, gr⟩, hne, hi⟩
  item := by
    intro X hP hw hK hc i pins s σ H E I hf st hg
    subst hP hw hK
    obtain ⟨⟨old, ge⟩, ti, hne, _⟩ := st
    have hg : i < x.cps.size := hg
    have hel : e < s.heap.objs.size := Heap.lt_size ge
    have hil : it < s.heap.objs.size := by
      obtain ⟨_, q, _⟩ := ti
      exact Heap.lt_size q
    have hh : X.A.in1.handled = none := I.ok.hd hc
    refine wpAny_pyNext_enum_itemD (PySem.Draws.text (prog := X.prog) (w := X.w) hh it x t) ge ti hg hne (by simp [hne]) fun y h' tk hy ho hst' hT hsz hk => ?_
    obtain ⟨c, u, hcx, rfl⟩ := hy
    refine ⟨_, rfl, wpAny_letOwnedTupleGo_enum (s := { s with heap := h', toks := tk + 1 }) ho fun h'' he' sb => ?_⟩
    have hT2 : h''.get? s.heap.objs.size = some { cls := .type "tuple", data := .seq #[.int i tk, .str ⟨#[c]⟩ u] } := (sb.2 _ (Nat.ne_of_gt hel)).trans hT
    have fresh : ObjOk X.prog X.w (upd H s.heap.objs.size (.tup [.int (i : Nat), .str ⟨#[c]⟩])) h'' s.heap.objs.size (.tup [.int (i : Nat), .str ⟨#[c]⟩]) := ⟨show 2 ≤ sizeLine by decide, [.int i tk, .str ⟨#[c]⟩ u], .cons ⟨_, rfl⟩ (.cons ⟨_, rfl⟩ .nil), ⟨_, hT2, rfl, _, rfl⟩⟩
    have J : Inv X pins σ (upd H s.heap.objs.size (.tup [.int (i : Nat), .str ⟨#[c]⟩])) { s with heap := h'', toks := tk + 1 } :=
      I.turnedNew (ch := [e, it]) (fun b ob hb q => (sb.2 b fun z => hb (by simp [z])).trans (hk b ob (fun z => hb (by simp [z])) (fun z => hb (by simp [z])) q)) hf (Nat.le_refl _) fresh
    refine ⟨.ref s.heap.objs.size, _, J, rfl, ⟨_, c, rfl, I.hok.fresh (Nat.le_refl _), rfl, hcx⟩, ⟨⟨.str ⟨#[c]⟩ u, ?_⟩, ?_, hne, hg⟩, fun b hb => ?_⟩
    · rw [show ((i + 1 : Nat) : Int) = (i : Int) + 1 by omega]
      exact he'
    · obtain ⟨o, go, gr⟩ := hst'
      exact ⟨o, (sb.2 it (Ne.symm hne)).trans go, gr⟩
    · have hb' : b < s.heap.objs.size := by
        rcases (show b = e ∨ b = it by simpa using hb) with z | z <;> (rw [z]; assumption)
      rw [upd_ne (Nat.ne_of_lt hb')]
      exact (hf b hb).1
  done := by
    intro X hP hw hK hc i pins s σ H E I hf st hg
    subst hP hw hK
    obtain ⟨⟨old, ge⟩, ti, hne, hin⟩ := st
    have ei : i = x.cps.size := Nat.le_antisymm hin hg
    have hh : X.A.in1.handled = none := I.ok.hd hc
    rw [ei] at ti
    exact wpAny_pyNext_enum_endD (PySem.Draws.text (prog := X.prog) (w := X.w) hh it x t) ge ti fun h' eb => ⟨rfl, I.turnedL (t' := s.toks) (ch := [e, it]) (fun b o hb q => eb b o (fun z => hb (by simp [z])) q) hf⟩
  self := fun A i s Q E st h => by
    obtain ⟨⟨old, ge⟩, _⟩ := st
    exact wpAny_pyIter_enum ge h
def iEnumZ (ta : TA) : TI := fun σ H R => ta σ H fun vs H1 => ∃ x : Str, vs = [.str x] ∧ R (IteZ x) H1
theorem pi_enumZ {X : Cx} {e : Expr} {ta : TA} {p pos tpos : Pos} {elts : List Expr} {kk : Nat} (gl : Gl X "enumerate") (nm : X.mg "enumerate" = none) (ha : PA X [e] ta) (hs : starEach [e] X.env = [(false, eval e X.env)] := by rfl) :
    PI X (.Tuple elts kk tpos) (.Call (.Name "enumerate" p) [e] [] pos) (iEnumZ ta) := by
  refine ⟨fun pins s σ H R I h => Call_ (ld_blt I gl nm boot_enumerate (PyProof.Rows.callWith_type1 (thn (ha.run pos pins s σ H _ I h) fun us s1 ⟨vs, H1, I1, r1, q1⟩ => ?_) hs rfl))⟩
  obtain ⟨x, rfl, q⟩ := q1
  cases r1 with
  | cons r rr =>
    cases rr
    obtain ⟨t, rfl⟩ := r
    refine call_enumerate_str fun h' ge ti hsz hk => wpAny_pyIter_enum ge ?_
    have I2 : Inv X pins σ H1 { s1 with heap := h' } := I1.kept (t' := s1.toks) hk
    refine ⟨s1.heap.objs.size + 1, [s1.heap.objs.size + 1, s1.heap.objs.size], _, _, H1, rfl, I2, turn_enumZ x t (s1.heap.objs.size + 1) s1.heap.objs.size, ⟨⟨.none, ge⟩, ti, Nat.succ_ne_self _, Nat.zero_le _⟩, fun b hb => ?_, q⟩
    have le : s1.heap.objs.size ≤ b := by
      rcases (show b = s1.heap.objs.size + 1 ∨ b = s1.heap.objs.size by simpa using hb) with z | z
      · exact z ▸ Nat.le_succ _
      · exact z ▸ Nat.le_refl _
    exact I1.fpOk le (I1.hok.fresh le)
def dwn (i j : Int) : List Int := (List.range (i - j).toNat).map fun (k : Nat) => i - (k : Int)
section
variable {X : Cx} {B : Base} {ρ : List Slot} {pos : Pos} {a b c e tg it : Expr}
theorem ji_enumZ {β : Type} {m : R β} {z : β → Str} {ρ' : β → List Slot} {p tpos : Pos} {elts : List Expr} {kk : Nat} (hg : Gl X "enumerate") (hm : X.mg "enumerate" = none) (h : JE X B ρ e m (fun b => .val (.str (z b))) ρ') (hst : starEach [e] X.env = (false, eval e X.env) :: starEach [] X.env := by rfl) (hs : starEach [e] X.env = [(false, eval e X.env)] := by rfl) :
    JI X B ρ (.Tuple elts kk tpos) (.Call (.Name "enumerate" p) [e] [] pos) m (fun b => (enumL (sgs (z b))).map (eP2 D.int D.str)) ρ' :=
  PI_imp (pi_enumZ hg hm (pa_cons h pa_nil hst) hs) fun σ H Q ⟨G, E, q⟩ => ⟨G, E, R.post_mono q fun b q1 v G' H' x E' => by
    have ev := E'.top.str_inv
    subst ev
    have hl : (sgs (z b)).length = (z b).cps.size := by rw [sgs, List.length_map, Array.length_toList]
    have hl2 : ((enumL (sgs (z b))).map (eP2 D.int D.str)).length = (z b).cps.size := by rw [List.length_map, enumL_len, hl]
    refine ⟨z b, rfl, q1 _ G' H' x E'.pop ⟨fun i H hi e => by rw [hl2] at hi; exact hi, fun i H hi e => by rw [hl2] at hi; exact hi, fun B i G1 H1 σ ρ w H' e E hy d hd => ?_⟩⟩
    obtain ⟨T, c, rfl, hT, rfl, hc⟩ := hy
    rw [List.getElem?_map, enumL_get, sgs, List.getElem?_map, Array.getElem?_toList, hc] at hd
    injection hd with hd
    subst hd
    have e1 := Ex.new (o := HO.tup [.int (i : Nat), .str ⟨#[c]⟩]) (E.sub.back hT)
    exact ⟨_, e1, E.new hT _, .tup (.inl (.inl upd_same)) (.cons (.int _) (.cons (.str _) .nil))⟩⟩
theorem ji_rngD {p : Pos} {β : Type} {m : R β} {as : β → List Ar} (i j : β → Int) {ρ' : β → List Slot} (hm : X.mg "range" = none) (h : JA X B ρ [a, b, c] m as ρ') (ha : ∀ b, as b = [.val (.int (i b)), .val (.int (j b)), .val (.int (-1))] := by intro _; rfl) (hg : Gl X "range" := by rfl)
    (hs : starEach [a, b, c] X.env = (false, eval a X.env) :: starEach [b, c] X.env := by rfl) (hpl : (backTo pos (starEach [b, c] X.env)).any (·.1) = false := by rfl) :
    JI X B ρ tg (.Call (.Name "range" p) [a, b, c] [] pos) (m.bind fun b => (R.guard (rngOk (i b) ∧ rngOk (j b))).bind fun _ => .ok b) (fun b => (dwn (i b) (j b)).map D.int) ρ' :=
  PI_imp (pi_range3 hg hm h hs hpl) fun σ H Q ⟨G, E, q⟩ => ⟨G, E, R.post_mono (R.post_bind.mp q) fun b q1 vs G' H' x E' ok => by
    obtain ⟨hc, q2⟩ := R.post_guard (R.post_bind.mp q1)
    rw [ha b] at ok
    cases ok with
    | val r ok =>
      cases ok with
      | val r2 ok =>
        cases ok with
        | val r3 ok =>
          cases ok
          have hl : ((dwn (i b) (j b)).map D.int).length = (i b - j b).toNat := by rw [List.length_map, dwn, List.length_map, List.length_range]
          refine ⟨i b, j b, -1, (i b - j b).toNat, by rw [r.int_inv, r2.int_inv, r3.int_inv], RgC.neg hc.1.1 hc.1.2 hc.2.1 hc.2.2, q2 _ G' H' x E' ⟨fun k H hi e => by rw [hl] at hi; exact hi, fun k H hi e => by rw [hl] at hi; exact hi, fun B k G1 H1 σ ρ w H' e E hy d hd => ?_⟩⟩
          obtain ⟨rfl, rfl⟩ := hy
          rw [List.getElem?_map, dwn, List.getElem?_map] at hd
          cases hk : (List.range (i b - j b).toNat)[k]? with
          | none => rw [hk] at hd; cases hd
          | some k' =>
            have ek : k' = k := by
              have := (List.getElem?_eq_some_iff.mp hk).2
              rw [List.getElem_range] at this
              exact this.symm
            rw [hk, ek] at hd
            injection hd with hd
            subst hd
            refine ⟨_, Ex.refl _, E, ?_⟩
            rw [show i b + ((k : Nat) : Int) * -1 = i b - (k : Int) by omega]
            exact .int _⟩
end
end DL
namespace DL
open PySem L2
section
variable {α β γ N N1 L T S : Type}
theorem bind_ok (a : α) (f : α → R β) : (R.ok a).bind f = f a := rfl
theorem lt_eq (v : α) (k : α → β) : lt v k = k v := rfl
theorem bind_okN (a : α) (f : α → R β) : (R.ok a).bind f = f a := Eq.trans (Eq.refl _) (Eq.refl _)
theorem bindF_nx (n : N1) (k : N1 → R (Fl N L T)) : bindF (.ok (.nx n)) k = k n := rfl
theorem bindF_rt (t : T) (k : N1 → R (Fl N L T)) : bindF (.ok (.rt t)) k = .ok (.rt t) := rfl
theorem fin0_rt (t : T) : fin0 (.ok (.rt t) : R (Fl N L T)) = .ok t := rfl
theorem guard_ok {c : Prop} [Decidable c] (h : c) : R.guard c = .ok () := if_pos h
theorem some_ok (a : α) : R.some (.some a) = .ok a := rfl
theorem or2_ok (a : α) (f : α → Bool) (m : R Bool) : or2 (.ok a) f m = if f a = true then .ok true else m := rfl
theorem op2_ok {δ : Type} (a : α) (f : α → R β) (g : α → β → R δ) : op2 (.ok a) f g = (f a).bind fun y => (g a y).bind fun z => .ok (a, y, z) := rfl
end
theorem mulx {i j : Int} (a : Nat) (hi : i.natAbs < 2 ^ a) (hj : j.natAbs < 2 ^ a) (h : a ≤ 67108864 := by decide) : CMulX i j := mulx_ok hi hj (by omega)
theorem div_ok {i j : Int} (h : j ≠ 0) (hj : j.natAbs < 2 ^ 8000) : divOk i j := by
  refine ⟨h, PyProof.noPylong_of_log2 ?_⟩
  have := (Nat.log2_lt (n := j.natAbs) (k := 8000) (by omega)).mpr hj
  omega
theorem divp_ok' {i j : Int} (h : 0 < j) (hj : j < 2 ^ 8000) : CDivP i j := ⟨h, (div_ok (i := i) (j := j) (by omega) (by omega)).2⟩
theorem mem_rng {lo hi x : Int} (h : x ∈ rng lo hi) : lo ≤ x ∧ x < hi := by
  unfold rng at h
  obtain ⟨k, hk, rfl⟩ := List.mem_map.mp h
  have := List.mem_range.mp hk
  omega
theorem cell_ok (ns : List Int) (k : Int) (h0 : 0 ≤ k) : ∃ c, atI (cut ns (some k) (some (k + (1 : Int))) ++ [(0 : Int)]) (0 : Int) = some c ∧ (cut ns (some k) (some (k + (1 : Int)))).length ≤ 1 := by
  have hc : (cut ns (some k) (some (k + 1))).length ≤ 1 := by
    unfold cut
    rw [List.length_take]
    simp only [HT.sIx]
    rw [if_neg (by omega), if_neg (by omega)]
    omega
  generalize cut ns (some k) (some (k + 1)) = l at *
  match l, hc with
  | [], _ => exact ⟨0, rfl, by simp⟩
  | [c], _ => exact ⟨c, rfl, by simp⟩
theorem line_ok {n : Nat} (h : n ≤ 1000) : n ≤ sizeLine := Nat.le_of_lt (small1000 h)
end DL
namespace DL
open PySem L2
def Ok {α : Type} (m : R α) (P : α → Prop) : Prop := ∃ a, m = .ok a ∧ P a
def fl {N L T : Type} (Pn : N → Prop) (Pc Pb : L → Prop) (Pt : T → Prop) : Fl N L T → Prop
  | .nx n => Pn n
  | .ct l => Pc l
  | .bk l => Pb l
  | .rt t => Pt t
abbrev fn {N L T : Type} (Pn : N → Prop) (Pt : T → Prop) : Fl N L T → Prop := fl Pn (fun _ => False) (fun _ => False) Pt
namespace Ok
section
variable {α β γ δ ε N N1 L T S : Type}
theorem ret {a : α} {P : α → Prop} (h : P a) : Ok (.ok a) P := ⟨a, rfl, h⟩
theorem mono {m : R α} {P Q : α → Prop} (h : Ok m P) (k : ∀ a, P a → Q a) : Ok m Q := let ⟨a, e, p⟩ := h; ⟨a, e, k a p⟩
theorem bind {m : R α} {f : α → R β} {P : α → Prop} {Q : β → Prop} (h : Ok m P) (k : ∀ a, P a → Ok (f a) Q) : Ok (m.bind f) Q := by
  obtain ⟨a, rfl, p⟩ := h
  exact k a p
theorem bind1 {m : R α} {f : α → R β} {Q : β → Prop} {a : α} (h : m = .ok a) (k : Ok (f a) Q) : Ok (m.bind f) Q := by
  rw [h]
  exact k
theorem of_eq {m : R α} {a : α} {Q : α → Prop} (h : m = .ok a) (k : Q a) : Ok m Q := ⟨a, h, k⟩
theorem eq {m : R α} {a : α} (h : Ok m (fun b => b = a)) : m = .ok a := by
  obtain ⟨b, e, rfl⟩ := h
  exact e
theorem grdB {c : Prop} [Decidable c] {f : Unit → R β} {Q : β → Prop} (h : c) (k : Ok (f ()) Q) : Ok ((R.guard c).bind f) Q := bind1 (guard_ok h) k
theorem okB {a : α} {f : α → R β} {Q : β → Prop} (k : Ok (f a) Q) : Ok ((R.ok a).bind f) Q := k
theorem ltI {v : α} {k : α → R β} {Q : β → Prop} (h : Ok (k v) Q) : Ok (lt v k) Q := h
theorem ite {b : Bool} {m m' : R α} {Q : α → Prop} (h1 : b = true → Ok m Q) (h2 : b = false → Ok m' Q) : Ok (if b = true then m else m') Q := by
  cases b with
  | true => exact h1 rfl
  | false => exact h2 rfl
theorem iteT {b : Bool} {m m' : R α} {Q : α → Prop} (h : b = true) (h1 : Ok m Q) : Ok (if b = true then m else m') Q := by rw [if_pos h]; exact h1
theorem iteF {b : Bool} {m m' : R α} {Q : α → Prop} (h : b = false) (h1 : Ok m' Q) : Ok (if b = true then m else m') Q := by rw [if_neg (by rw [h]; decide)]; exact h1
theorem bF {m : R (Fl N1 L T)} {k : N1 → R (Fl N L T)} {Pn : N1 → Prop} {Qn : N → Prop} {Pc Pb : L → Prop} {Pt : T → Prop} (h : Ok m (fl Pn Pc Pb Pt)) (r : ∀ n, Pn n → Ok (k n) (fl Qn Pc Pb Pt)) : Ok (bindF m k) (fl Qn Pc Pb Pt) := by
  obtain ⟨a, rfl, p⟩ := h
  cases a with
  | nx n => exact r n p
  | ct n => exact ⟨_, rfl, p⟩
  | bk n => exact ⟨_, rfl, p⟩
  | rt n => exact ⟨_, rfl, p⟩
theorem nx {n : N} {Pn : N → Prop} {Pc Pb : L → Prop} {Pt : T → Prop} (h : Pn n) : Ok (.ok (.nx n) : R (Fl N L T)) (fl Pn Pc Pb Pt) := ⟨_, rfl, h⟩
theorem rt {n : T} {Pn : N → Prop} {Pc Pb : L → Prop} {Pt : T → Prop} (h : Pt n) : Ok (.ok (.rt n) : R (Fl N L T)) (fl Pn Pc Pb Pt) := ⟨_, rfl, h⟩
theorem ct {n : L} {Pn : N → Prop} {Pc Pb : L → Prop} {Pt : T → Prop} (h : Pc n) : Ok (.ok (.ct n) : R (Fl N L T)) (fl Pn Pc Pb Pt) := ⟨_, rfl, h⟩
theorem bk {n : L} {Pn : N → Prop} {Pc Pb : L → Prop} {Pt : T → Prop} (h : Pb n) : Ok (.ok (.bk n) : R (Fl N L T)) (fl Pn Pc Pb Pt) := ⟨_, rfl, h⟩
theorem f0 {m : R (Fl N L T)} {P : T → Prop} (h : Ok m (fl (fun _ => False) (fun _ => False) (fun _ => False) P)) : Ok (fin0 m) P := by
  obtain ⟨a, rfl, p⟩ := h
  cases a with
  | rt t => exact ⟨t, rfl, p⟩
  | nx _ => exact p.elim
  | ct _ => exact p.elim
  | bk _ => exact p.elim
theorem and2 {ma : R α} {xa : α → Bool} {mb : R Bool} {P : α → Prop} {Q : Bool → Prop} (h : Ok ma P) (k1 : ∀ a, P a → xa a = true → Ok mb Q) (k2 : ∀ a, P a → xa a = false → Q false) : Ok (DL.and2 ma xa mb) Q := by
  obtain ⟨a, rfl, p⟩ := h
  unfold DL.and2
  cases e : xa a with
  | true => exact bind1 rfl (iteT e (k1 a p e))
  | false => exact bind1 rfl (iteF e (ret (k2 a p e)))
theorem or2 {ma : R α} {xa : α → Bool} {mb : R Bool} {P : α → Prop} {Q : Bool → Prop} (h : Ok ma P) (k1 : ∀ a, P a → xa a = true → Q true) (k2 : ∀ a, P a → xa a = false → Ok mb Q) : Ok (DL.or2 ma xa mb) Q := by
  obtain ⟨a, rfl, p⟩ := h
  unfold DL.or2
  cases e : xa a with
  | true => exact bind1 rfl (iteT e (ret (k1 a p e)))
  | false => exact bind1 rfl (iteF e (k2 a p e))
theorem op2 {ma : R α} {mb : α → R β} {mr : α → β → R γ} {P : α → Prop} {P2 : α → β → Prop} {Q : α × β × γ → Prop} (h : Ok ma P) (k : ∀ a, P a → Ok (mb a) (P2 a)) (r : ∀ a b, P a → P2 a b → Ok (mr a b) fun c => Q (a, b, c)) : Ok (DL.op2 ma mb mr) Q := by
  unfold DL.op2
  refine h.bind fun a pa => (k a pa).bind fun b pb => (r a b pa pb).bind fun c q => ret q
theorem forR {f : α → S → R (Fl S S T)} (I : Nat → S → Prop) {Pn : S → Prop} {Pc Pb : L → Prop} {Pt : T → Prop} {xs : List α} {s : S} (h0 : I 0 s)
    (hs : ∀ i x s, xs[i]? = some x → I i s → Ok (f x s) (fl (I (i + 1)) (I (i + 1)) Pn Pt)) (hn : ∀ s, I xs.length s → Pn s) : Ok (DL.forR f xs s : R (Fl S L T)) (fl Pn Pc Pb Pt) := by
  have go : ∀ (ys : List α) (i : Nat) (s : S), (∀ k, ys[k]? = xs[i + k]?) → i + ys.length = xs.length → I i s → Ok (DL.forR f ys s : R (Fl S L T)) (fl Pn Pc Pb Pt) := by
    intro ys
    induction ys with
    | nil =>
      intro i s hk hl h
      rw [List.length_nil, Nat.add_zero] at hl
      exact ⟨_, rfl, hn s (hl ▸ h)⟩
    | cons y ys ih =>
      intro i s hk hl h
      have h1 := hs i y s (by rw [← Nat.add_zero i, ← hk 0]; rfl) h
      have nxt : ∀ s', I (i + 1) s' → Ok (DL.forR f ys s' : R (Fl S L T)) (fl Pn Pc Pb Pt) := fun s' h' => ih (i + 1) s' (fun k => by
        have := hk (k + 1)
        rw [show i + 1 + k = i + (k + 1) by omega, ← this]
        rfl) (by rw [List.length_cons] at hl; omega) h'
      obtain ⟨a, e, p⟩ := h1
      rw [DL.forR, e]
      cases a with
      | nx s' => exact nxt s' p
      | ct s' => exact nxt s' p
      | bk s' => exact ⟨_, rfl, p⟩
      | rt t => exact ⟨_, rfl, p⟩
  exact go xs 0 s (fun k => by rw [Nat.zero_add]) (by rw [Nat.zero_add]) h0
theorem forC {f : α → S → R (Fl S S T)} (I : S → Prop) {Pc Pb : L → Prop} {Pt : T → Prop} {xs : List α} {s : S} (h0 : I s)
    (hs : ∀ x ∈ xs, ∀ s, I s → Ok (f x s) (fl I I I Pt)) : Ok (DL.forR f xs s : R (Fl S L T)) (fl I Pc Pb Pt) :=
  forR (fun _ => I) h0 (fun i x s e h => hs x (List.mem_of_getElem? e) s h) fun _ h => h
theorem whR {c : S → R Bool} {f : S → R (Fl S S T)} (I : S → Prop) (μ : S → Nat) {Pn : S → Prop} {Pc Pb : L → Prop} {Pt : T → Prop} {s : S} (h0 : I s)
    (hs : ∀ s, I s → ∃ b, c s = .ok b ∧ (b = true → Ok (f s) (fl (fun s' => I s' ∧ μ s' < μ s) (fun s' => I s' ∧ μ s' < μ s) Pn Pt)) ∧ (b = false → Pn s)) : Ok (DL.whR c f s : R (Fl S L T)) (fl Pn Pc Pb Pt) := by
  have go : ∀ (n : Nat) (s : S), μ s < n → I s → ∃ r : Fl S L T, (DL.whN c f n s : R (Fl S L T)) = .ok r ∧ fl Pn Pc Pb Pt r := by
    intro n
    induction n with
    | zero => intro s h; omega
    | succ n ih =>
      intro s hm h
      obtain ⟨b, e, h1, h2⟩ := hs s h
      rw [DL.whN, e]
      cases b with
      | false => exact ⟨_, rfl, h2 rfl⟩
      | true =>
        obtain ⟨a, e2, p⟩ := h1 rfl
        simp only [R.bind, if_true, e2]
        cases a with
        | nx s' => exact ih s' (by have := p.2; omega) p.1
        | ct s' => exact ih s' (by have := p.2; omega) p.1
        | bk s' => exact ⟨_, rfl, p⟩
        | rt t => exact ⟨_, rfl, p⟩
  obtain ⟨r, e, p⟩ := go (μ s + 1) s (Nat.lt_succ_self _) h0
  refine ⟨r, ?_, p⟩
  rw [whR_of (n := μ s + 1) (by rw [e]; exact fun z => nomatch z)]
  exact e
theorem compF {c : α → S → R δ} {bn : δ → Bool} {me : α → S → R ε} {v : ε → γ} {st : ε → S} {x : α} {s : S} {P : δ → Prop} {Q : Option γ × S → Prop} (h : Ok (c x s) P) (k1 : ∀ d, P d → bn d = true → Ok (me x s) fun y => Q (some (v y), st y)) (k2 : ∀ d, P d → bn d = false → Q (none, s)) :
    Ok (DL.compF c bn me v st x s) Q := by
  unfold DL.compF
  refine h.bind fun d p => ite (fun e => (k1 d p e).bind fun y q => ret q) fun e => ret (k2 d p e)
theorem compR {f : α → S → R (Option γ × S)} (I : Nat → List γ → S → Prop) {xs : List α} {s : S} (h0 : I 0 [] s)
    (hs : ∀ i x acc s, xs[i]? = some x → I i acc s → Ok (f x s) fun p => I (i + 1) (match p.1 with | some v => acc ++ [v] | none => acc) p.2) : Ok (DL.compR f xs [] s) fun p => I xs.length p.1 p.2 := by
  have go : ∀ (ys : List α) (i : Nat) (acc : List γ) (s : S), (∀ k, ys[k]? = xs[i + k]?) → i + ys.length = xs.length → I i acc s → Ok (DL.compR f ys acc s) fun p => I xs.length p.1 p.2 := by
    intro ys
    induction ys with
    | nil =>
      intro i acc s hk hl h
      rw [List.length_nil, Nat.add_zero] at hl
      exact ⟨_, rfl, hl ▸ h⟩
    | cons y ys ih =>
      intro i acc s hk hl h
      have h1 := hs i y acc s (by rw [← Nat.add_zero i, ← hk 0]; rfl) h
      rw [DL.compR]
      refine h1.bind fun p q => ih (i + 1) _ _ (fun k => by
        have := hk (k + 1)
        rw [show i + 1 + k = i + (k + 1) by omega, ← this]
        rfl) (by rw [List.length_cons] at hl; omega) q
  exact go xs 0 [] s (fun k => by rw [Nat.zero_add]) (by rw [Nat.zero_add]) h0
end
end Ok
theorem rng_get {lo hi : Int} {i : Nat} {x : Int} (h : (rng lo hi)[i]? = some x) : x = lo + i ∧ x < hi := by
  unfold rng at h
  rw [List.getElem?_map] at h
  cases e : (List.range (hi - lo).toNat)[i]? with
  | none => rw [e] at h; cases h
  | some k =>
    rw [e] at h
    have h : lo + (k : Int) = x := by simpa using h
    obtain ⟨h1, h2⟩ := List.getElem?_eq_some_iff.mp e
    rw [List.getElem_range] at h2
    rw [List.length_range] at h1
    omega
theorem rng_len (lo hi : Int) : (rng lo hi).length = (hi - lo).toNat := by
  unfold rng
  rw [List.length_map, List.length_range]
theorem atI_nat {α : Type} {l : List α} {k : Int} {x : α} (h0 : 0 ≤ k) (h : l[k.toNat]? = some x) : atI l k = some x := by
  have hl := (List.getElem?_eq_some_iff.mp h).1
  unfold atI ixN
  rw [if_pos h0, if_pos (by omega)]
  exact h
theorem atI_ok {α : Type} {l : List α} {k : Int} (h0 : 0 ≤ k) (h : k < l.length) : ∃ x, atI l k = some x ∧ l[k.toNat]? = some x ∧ x ∈ l := by
  have hk : k.toNat < l.length := by omega
  exact ⟨l[k.toNat], atI_nat h0 (List.getElem?_eq_getElem hk), List.getElem?_eq_getElem hk, List.getElem_mem hk⟩
end DL
namespace W
open PySem PySem.Spec L2 DL
def topS (i : Nat) : Stmt := PySem.Challenge.pw_restdraw_k91_pictures_there_and_back.main.body.getD i (.Pass ⟨0, 0, 0, 0⟩)
abbrev s_law_digit : Stmt := topS 14
abbrev s_law_spots : Stmt := topS 15
abbrev s_law_pot : Stmt := topS 13
abbrev s_law_line : Stmt := topS 16
abbrev s_law_text : Stmt := topS 17
abbrev s_picture : Stmt := topS 9
abbrev s_law_is_told : Stmt := topS 18
abbrev s_spots_in : Stmt := topS 10
abbrev s_read_picture : Stmt := topS 11
abbrev s_law : Stmt := topS 19
def e_law_digit : He.DefD := ⟨("_law_digit", none), "_law_digit", "_law_digit", defArgs s_law_digit, defBody s_law_digit, defScope s_law_digit, [], []⟩
def e_law_spots : He.DefD := ⟨("_law_spots", none), "_law_spots", "_law_spots", defArgs s_law_spots, defBody s_law_spots, defScope s_law_spots, [], []⟩
def e_law_pot : He.DefD := ⟨("_law_pot", none), "_law_pot", "_law_pot", defArgs s_law_pot, defBody s_law_pot, defScope s_law_pot, [], []⟩
def e_law_line : He.DefD := ⟨("_law_line", none), "_law_line", "_law_line", defArgs s_law_line, defBody s_law_line, defScope s_law_line, [], []⟩
def e_law_text : He.DefD := ⟨("_law_text", none), "_law_text", "_law_text", defArgs s_law_text, defBody s_law_text, defScope s_law_text, [], []⟩
def e_picture : He.DefD := ⟨("picture", none), "picture", "picture", defArgs s_picture, defBody s_picture, defScope s_picture, [], []⟩
def e_law_is_told : He.DefD := ⟨("_law_is_told", none), "_law_is_told", "_law_is_told", defArgs s_law_is_told, defBody s_law_is_told, defScope s_law_is_told, [], []⟩
def e_spots_in : He.DefD := ⟨("spots_in", none), "spots_in", "spots_in", defArgs s_spots_in, defBody s_spots_in, defScope s_spots_in, [], []⟩
def e_read_picture : He.DefD := ⟨("read_picture", none), "read_picture", "read_picture", defArgs s_read_picture, defBody s_read_picture, defScope s_read_picture, [], []⟩
def e_law : He.DefD := ⟨("law", none), "law", "law", defArgs s_law, defBody s_law, defScope s_law, [], []⟩
def fnL : List He.DefD := [e_law_digit, e_law_spots, e_law_pot, e_law_line, e_law_text, e_picture, e_law_is_told, e_spots_in, e_read_picture, e_law]
def faL : List He.Fa := [.glo "_law_digit", .glo "_law_spots", .glo "_law_pot", .glo "_law_line", .glo "_law_text", .glo "picture", .glo "_law_is_told", .glo "spots_in", .glo "read_picture", .glo "law", .free "abs", .free "bool", .free "divmod", .free "enumerate", .free "int", .free "isinstance", .free "len", .free "max", .free "min", .free "range", .free "str", .free "tuple", .int "LEAST" 3, .int "MOST_X" 76, .int "MOST_Y" 40, .str "NONE_HERE" ".", .str "SIGNS" "abcdefghijklmnopqrstuvwxyzABCDEFGHIJKLMN"]
abbrev Rw : PySem.W.OpenRow := PySem.W.OpenLaw.row PySem.Challenge.rw_restdraw_k91_pictures_there_and_back
abbrev hkL : PySem.W.Hook := He.hookD 4 faL fnL
def obL (s : PySem.W.SharedT) : He.AlD := He.obsDG 4 faL fnL (HandSHeadRun.getT s)
theorem ob_eqL (s : PySem.W.SharedT) : obL s = hkL.obs s.abs := He.obsDG_eq (HandSHeadRun.getT_eq s)
theorem runL (w : World) : HandSHeadRun.RunEq Rw (PySem.W.view Rw.prog [19]) hkL obL 6000 ["DrawError", "NoText", "SIGNS", "NONE_HERE", "LEAST", "MOST_X", "MOST_Y", "picture", "spots_in", "read_picture", "_law_pot", "_law_digit", "_law_spots", "_law_line", "_law_text", "_law_is_told"] w := by
  intro os
  kernel_rfl
structure Top (K : PySem.W.Frag) (mg : Str → Option Value) where
  law_digit : DT K mg "_law_digit" (topS 14) ["_law_pot_here", "_law_many"]
  law_spots : DT K mg "_law_spots" (topS 15) ["_law_pot_here"]
  law_pot : DT K mg "_law_pot" (topS 13) ["_law_script", "_law_k"]
  law_line : DT K mg "_law_line" (topS 16) ["_law_some", "_law_y", "_law_wide"]
  law_text : DT K mg "_law_text" (topS 17) ["_law_some"]
  picture : DT K mg "picture" (topS 9) ["some"]
  law_is_told : DT K mg "_law_is_told" (topS 18) ["_law_found", "_law_some"]
  spots_in : DT K mg "spots_in" (topS 10) ["text"]
  read_picture : DT K mg "read_picture" (topS 11) ["text"]
  law : DT K mg "law" (topS 19) ["_law_script"]
  z_abs : mg "abs" = none
  z_bool : mg "bool" = none
  z_divmod : mg "divmod" = none
  z_enumerate : mg "enumerate" = none
  z_int : mg "int" = none
  z_isinstance : mg "isinstance" = none
  z_len : mg "len" = none
  z_max : mg "max" = none
  z_min : mg "min" = none
  z_range : mg "range" = none
  z_str : mg "str" = none
  z_tuple : mg "tuple" = none
  g_LEAST : ∃ t, mg "LEAST" = some (.int 3 t)
  g_MOST_X : ∃ t, mg "MOST_X" = some (.int 76 t)
  g_MOST_Y : ∃ t, mg "MOST_Y" = some (.int 40 t)
  g_NONE_HERE : ∃ t, mg "NONE_HERE" = some (.str "." t)
  g_SIGNS : ∃ t, mg "SIGNS" = some (.str "abcdefghijklmnopqrstuvwxyzABCDEFGHIJKLMN" t)
theorem sc_law_digit : FnScope ["_law_pot_here", "_law_many", "_law_digit_here"] ["_law_pot_here", "_law_many"] (defScope s_law_digit) := ⟨rfl, rfl, rfl, by decide +kernel, rfl, by decide +kernel, by decide +kernel⟩
noncomputable def mb_law_digit (v_pot_here : (List Int)) (v_many : Int) : R (Fl Unit Unit (Int × (List Int))) :=
(bindF ((R.some (atI v_pot_here (0 : Int))).bind fun (b18 : Int) => if (decide (b18 > (0 : Int))) = true then ((((R.some (atI v_pot_here (0 : Int))).bind fun (c20 : Int) => (R.guard (CDivP c20 v_many)).bind fun (z21 : Unit) => R.ok (c20, z21)).bind fun (b22 : (Int × Unit)) => ((R.some (ixN (List.length v_pot_here) (0 : Int))).bind fun (j23 : Nat) => (R.ok ()).bind fun (c_ : Unit) => R.ok (j23, c_)).bind fun (p24 : (Nat × Unit)) => R.ok (b22, p24)).bind fun (p25 : (Int × Unit) × (Nat × Unit)) =>
(R.ok (.rt ((p25.1.1 / v_many, p25.1.1 % v_many).2, (List.set v_pot_here p25.2.1 ((p25.1.1 / v_many, p25.1.1 % v_many).1)))))) else (R.ok (.nx ()))) fun n26 =>
(((R.some (atI v_pot_here (1 : Int))).bind fun (b36 : Int) => (R.some (ixN (List.length v_pot_here) (1 : Int))).bind fun (j37 : Nat) => R.ok (b36, j37)).bind fun (p38 : Int × Nat) =>
(((op2 (R.some (atI (List.set v_pot_here p38.2 (((p38.1 * (48271 : Int)) + (39373 : Int)) % (2147483647 : Int))) (1 : Int))) (fun (x39 : Int) => (R.some (atI (List.set v_pot_here p38.2 (((p38.1 * (48271 : Int)) + (39373 : Int)) % (2147483647 : Int))) (1 : Int)))) (fun (x39 : Int) (y40 : Int) => R.guard (CMulX x39 y40))).bind fun (x47 : (Int × Int × Unit)) => (R.guard (v_many ≠ (0 : Int))).bind fun (z49 : Unit) => R.ok (x47, z49)).bind fun (b50 : ((Int × Int × Unit) × Unit)) => R.ok (.rt ((Int.fmod (((b50.1.1 * b50.1.2.1) % (2147483629 : Int)) / (3 : Int)) v_many), (List.set v_pot_here p38.2 (((p38.1 * (48271 : Int)) + (39373 : Int)) % (2147483647 : Int))))))))
noncomputable def m_law_digit (a : ((List Int) × Int)) : R (Int × (List Int)) := fin0 (mb_law_digit a.1 a.2)
abbrev i_law_digit (a : ((List Int) × Int)) : List Slot := [.own 1 ((oL D.int) a.1), .val (D.int a.2)]
abbrev l_law_digit (b : (Int × (List Int))) : Slot := .val (D.int b.1)
abbrev o_law_digit (b : (Int × (List Int))) : List Slot := [.own 1 ((oL D.int) b.2), .non]
theorem ok_law_digit {P : Program} {w : World} {K : PySem.W.Frag} {mg : Str → Option Value} {base : Heap} (T : Top K mg) : FnG P w K mg base CX0 1 T.law_digit.a T.law_digit.d ["_law_pot_here", "_law_many"] (spM K i_law_digit m_law_digit l_law_digit o_law_digit) := by
  show FnG P w K mg base CX0 (0 + 1) T.law_digit.a T.law_digit.d ["_law_pot_here", "_law_many"] (spM K i_law_digit (fun (a : ((List Int) × Int)) => fin0 (mb_law_digit a.1 a.2)) l_law_digit o_law_digit)
  refine fn_ok (n1 := fun _ => []) (c1 := fun _ => []) (k1 := fun _ => []) (ins := i_law_digit) (sl := l_law_digit) (outs := o_law_digit) (fun (a : ((List Int) × Int)) => mb_law_digit a.1 a.2) 1 T.law_digit.f sc_law_digit rfl (fun _ => rfl) (fun _ => rfl) (fun _ => rfl) (fun cdv A outer s H E hr B hB a => ?_)
  show JSs _ B _ _ (mb_law_digit a.1 a.2) _
  unfold mb_law_digit
  exact ((js_cons (ρ1 := fun (n26 : Unit) => [.own 1 ((oL D.int) a.1), .val (D.int a.2), .non]) (js_if (jt_opL (ρa := fun _ => _) (bn := fun (x15 : Int) => (decide (x15 > (0 : Int)))) (xa := fun (x15 : Int) => D.int x15) (y := fun (x15 : Int) => D.int (0 : Int)) (fun _ _ ha hb => pt_cmpR op_gt ha hb (nomark _)) (je_ixO 0 (xs := a.1) (en := D.int) (k := (0 : Int)) rfl jp_int) (fun x15 => jp_int) (fun x15 => od_gt)) (fun b18 => (js_consQ1 (fun (p25 : (Int × Unit) × (Nat × Unit)) => [.own 1 ((oL D.int) (List.set a.1 p25.2.1 ((p25.1.1 / a.2, p25.1.1 % a.2).1))), .val (D.int a.2), .val (D.int ((p25.1.1 / a.2, p25.1.1 % a.2).2))]) (j1_asg (d := fun (b22 : (Int × Unit)) => (eP2 D.int D.int) (b22.1 / a.2, b22.1 % a.2)) (je_cb2 (ρa := fun _ => _) (s := fun (c20 : Int) (z21 : Unit) => .val ((eP2 D.int D.int) (c20 / a.2, c20 % a.2))) (fun _ ht => pe_callB call_divmodW (by rfl) T.z_divmod (by decide +kernel) ht) (ja_el (ρa := fun _ => _) (xa := fun (x19 : Int) => D.int x19) (je_ixO 0 (xs := a.1) (en := D.int) (k := (0 : Int)) rfl jp_int) (fun x19 => (ja_p (jp_var 1) ja_nil))) (fun c20 => cb_divmod)) (fun b22 => jg_tup rfl (jgs_cons (jg_sub 0 (xs := a.1) (en := D.int) (y := (b22.1 / a.2, b22.1 % a.2).1) (k := (0 : Int)) rfl jp_int) (fun j23 => (jgs_p (jg_name 2 sc_law_digit.nd) jgs_nil))))) fun p25 =>
(js_one (js_retP ((p25.1.1 / a.2, p25.1.1 % a.2).2, (List.set a.1 p25.2.1 ((p25.1.1 / a.2, p25.1.1 % a.2).1))) [true, false, false] (jp_var 2))))) (fun b18 => (js_nil [true, true, true] ()))) fun n26 =>
(js_consQ1 (fun (p38 : Int × Nat) => [.own 1 ((oL D.int) (List.set a.1 p38.2 (((p38.1 * (48271 : Int)) + (39373 : Int)) % (2147483647 : Int)))), .val (D.int a.2), .non]) (j1_asg (d := fun (b36 : Int) => D.int (((b36 * (48271 : Int)) + (39373 : Int)) % (2147483647 : Int))) (je_opL (ρa := fun _ => _) (s := fun (x33 : Int) => (.val (D.int (((x33 * (48271 : Int)) + (39373 : Int)) % (2147483647 : Int))))) (xa := fun (x33 : Int) => D.int ((x33 * (48271 : Int)) + (39373 : Int))) (y := fun (x33 : Int) => D.int (2147483647 : Int)) (fun _ _ ha hb => pe_op op_mod ha hb) (je_opL (ρa := fun _ => _) (s := fun (x30 : Int) => (.val (D.int ((x30 * (48271 : Int)) + (39373 : Int))))) (xa := fun (x30 : Int) => D.int (x30 * (48271 : Int))) (y := fun (x30 : Int) => D.int (39373 : Int)) (fun _ _ ha hb => pe_op op_add ha hb) (je_opL (ρa := fun _ => _) (s := fun (x27 : Int) => (.val (D.int (x27 * (48271 : Int))))) (xa := fun (x27 : Int) => D.int x27) (y := fun (x27 : Int) => D.int (48271 : Int)) (fun _ _ ha hb => pe_op op_mul ha hb) (je_ixO 0 (xs := a.1) (en := D.int) (k := (1 : Int)) rfl jp_int) (fun x27 => jp_int) (fun x27 => od_mulC)) (fun x30 => jp_int) (fun x30 => od_add)) (fun x33 => jp_int) (fun x33 => od_modC)) (fun b36 => (jg_sub 0 (xs := a.1) (en := D.int) (y := (((b36 * (48271 : Int)) + (39373 : Int)) % (2147483647 : Int))) (k := (1 : Int)) rfl jp_int))) fun p38 =>
(js_one (js_ret (fun (b50 : ((Int × Int × Unit) × Unit)) => ((Int.fmod (((b50.1.1 * b50.1.2.1) % (2147483629 : Int)) / (3 : Int)) a.2), (List.set a.1 p38.2 (((p38.1 * (48271 : Int)) + (39373 : Int)) % (2147483647 : Int))))) [true, false, true] (je_opLG (ρa := fun _ => _) (s := fun (x47 : (Int × Int × Unit)) (z49 : Unit) => (.val (D.int (Int.fmod (((x47.1 * x47.2.1) % (2147483629 : Int)) / (3 : Int)) a.2)))) (xa := fun (x47 : (Int × Int × Unit)) => D.int (((x47.1 * x47.2.1) % (2147483629 : Int)) / (3 : Int))) (y := fun (x47 : (Int × Int × Unit)) => D.int a.2) (fun _ _ ha hb => pe_op op_modN ha hb) (je_opL (ρa := fun _ => _) (s := fun (x44 : (Int × Int × Unit)) => (.val (D.int (((x44.1 * x44.2.1) % (2147483629 : Int)) / (3 : Int))))) (xa := fun (x44 : (Int × Int × Unit)) => D.int ((x44.1 * x44.2.1) % (2147483629 : Int))) (y := fun (x44 : (Int × Int × Unit)) => D.int (3 : Int)) (fun _ _ ha hb => pe_op op_fdiv ha hb) (je_opL (ρa := fun _ => _) (s := fun (x41 : (Int × Int × Unit)) => (.val (D.int ((x41.1 * x41.2.1) % (2147483629 : Int))))) (xa := fun (x41 : (Int × Int × Unit)) => D.int (x41.1 * x41.2.1)) (y := fun (x41 : (Int × Int × Unit)) => D.int (2147483629 : Int)) (fun _ _ ha hb => pe_op op_mod ha hb) (je_op2 (ρa := fun _ => _) (ρb := fun _ _ => _) (s := fun (x39 : Int) (y40 : Int) (z0 : Unit) => (.val (D.int (x39 * y40)))) (xa := fun (x39 : Int) => D.int x39) (xb := fun (x39 : Int) (y40 : Int) => D.int y40) (fun _ _ ha hb => pe_op op_mulX ha hb) (je_ixO 0 (xs := (List.set a.1 p38.2 (((p38.1 * (48271 : Int)) + (39373 : Int)) % (2147483647 : Int)))) (en := D.int) (k := (1 : Int)) rfl jp_int) (fun x39 => (je_ixO 0 (xs := (List.set a.1 p38.2 (((p38.1 * (48271 : Int)) + (39373 : Int)) % (2147483647 : Int)))) (en := D.int) (k := (1 : Int)) rfl jp_int)) (fun x39 y40 => od_mul)) (fun x41 => jp_int) (fun x41 => od_modC)) (fun x44 => jp_int) (fun x44 => od_fdivC)) (fun x47 => (jp_var 1)) (fun x47 => od_mod)))))))
theorem sc_law_spots : FnScope ["_law_pot_here", "_law_wide", "_law_high", "_law_many", "_law_found", "_law_spot", "_law_at"] ["_law_pot_here"] (defScope s_law_spots) := ⟨rfl, rfl, rfl, by decide +kernel, rfl, by decide +kernel, by decide +kernel⟩
noncomputable def mb_law_spots (v_pot_here : (List Int)) : R (Fl Unit Unit ((List (Int × Int)) × (List Int))) :=
(((m_law_digit (v_pot_here, (6 : Int))).bind fun (y14 : (Int × (List Int))) => (R.some (atI [((4 : Int), (3 : Int)), ((9 : Int), (9 : Int)), ((76 : Int), (40 : Int)), ((76 : Int), (0 : Int)), ((0 : Int), (40 : Int)), ((2 : Int), (40 : Int))] y14.1)).bind fun (z52 : (Int × Int)) => R.ok (y14, z52)).bind fun (b54 : ((Int × (List Int)) × (Int × Int))) =>
(((R.guard (CMulX (b54.2.1 + (1 : Int)) (b54.2.2 + (1 : Int)))).bind fun (x67 : Unit) => (((m_law_digit (b54.1.2, (2 : Int))).bind fun (y73 : (Int × (List Int))) => (R.some (atI [(4 : Int), (38 : Int)] y73.1)).bind fun (z75 : Int) => R.ok (y73, z75)).bind fun (c77 : ((Int × (List Int)) × Int)) => (m_law_digit (c77.1.2, c77.2)).bind fun (z78 : (Int × (List Int))) => R.ok (c77, z78)).bind fun (z82 : (((Int × (List Int)) × Int) × (Int × (List Int)))) => R.ok (x67, z82)).bind fun (b86 : (Unit × (((Int × (List Int)) × Int) × (Int × (List Int))))) => lt (min ((b54.2.1 + (1 : Int)) * (b54.2.2 + (1 : Int))) ((3 : Int) + b86.2.2.1)) fun v_many_85 =>
((R.ok ()).bind fun (b88 : Unit) => lt ([] : List (Int × Int)) fun v_found_87 =>
(bindF (whR (fun (s89 : ((List Int) × (List (Int × Int)))) => R.ok (decide (((List.length s89.2 : Nat) : Int) < v_many_85))) (fun s89 =>
(((m_law_digit (s89.1, (b54.2.1 + (1 : Int)))).bind fun (x100 : (Int × (List Int))) => (m_law_digit (x100.2, (b54.2.2 + (1 : Int)))).bind fun (z105 : (Int × (List Int))) => R.ok (x100, z105)).bind fun (b108 : ((Int × (List Int)) × (Int × (List Int)))) => lt (b108.1.1, b108.2.1) fun v_spot_107 =>
(bindF (whR (fun (s109 : (Int × Int)) => R.ok (hasL s109 s89.2)) (fun s109 =>
((op2 (R.guard (CMulX s109.1 (b54.2.2 + (1 : Int)))) (fun (x135 : Unit) => R.guard (CMulX (b54.2.1 + (1 : Int)) (b54.2.2 + (1 : Int)))) (fun (x135 : Unit) (y136 : Unit) => R.guard (((b54.2.1 + (1 : Int)) * (b54.2.2 + (1 : Int))) ≠ (0 : Int)))).bind fun (b144 : (Unit × Unit × Unit)) => lt (Int.fmod (((s109.1 * (b54.2.2 + (1 : Int))) + s109.2) + (1 : Int)) ((b54.2.1 + (1 : Int)) * (b54.2.2 + (1 : Int)))) fun v_at_143 =>
(((R.guard (divOk v_at_143 (b54.2.2 + (1 : Int)))).bind fun (x149 : Unit) => (R.guard ((b54.2.2 + (1 : Int)) ≠ (0 : Int))).bind fun (z155 : Unit) => R.ok (x149, z155)).bind fun (b158 : (Unit × Unit)) => lt ((Int.fdiv v_at_143 (b54.2.2 + (1 : Int))), (Int.fmod v_at_143 (b54.2.2 + (1 : Int)))) fun v_spot_157 =>
(R.ok (.nx v_spot_157))))) v_spot_107) fun n110 =>
(((R.ok ()).bind fun (b159 : Unit) => (R.guard (List.length s89.2 < sizeLine)).bind fun _ => R.ok b159).bind fun (b160 : Unit) =>
(R.ok (.nx (b108.2.2, (s89.2 ++ [n110])))))))) (b86.2.2.2, v_found_87)) fun n90 =>
(R.ok (.rt (n90.2, n90.1)))))))
noncomputable def m_law_spots (a : (List Int)) : R ((List (Int × Int)) × (List Int)) := fin0 (mb_law_spots a)
abbrev i_law_spots (a : (List Int)) : List Slot := [.own 1 ((oL D.int) a)]
abbrev l_law_spots (b : ((List (Int × Int)) × (List Int))) : Slot := .val ((eT eK2) b.1)
abbrev o_law_spots (b : ((List (Int × Int)) × (List Int))) : List Slot := [.own 1 ((oL D.int) b.2)]
theorem ok_law_spots {P : Program} {w : World} {K : PySem.W.Frag} {mg : Str → Option Value} {base : Heap} (T : Top K mg) : FnG P w K mg base CX0 2 T.law_spots.a T.law_spots.d ["_law_pot_here"] (spM K i_law_spots m_law_spots l_law_spots o_law_spots) := by
  show FnG P w K mg base CX0 (1 + 1) T.law_spots.a T.law_spots.d ["_law_pot_here"] (spM K i_law_spots (fun (a : (List Int)) => fin0 (mb_law_spots a)) l_law_spots o_law_spots)
  refine fn_ok (n1 := fun _ => []) (c1 := fun _ => []) (k1 := fun _ => []) (ins := i_law_spots) (sl := l_law_spots) (outs := o_law_spots) (fun (a : (List Int)) => mb_law_spots a) 6 T.law_spots.f sc_law_spots rfl (fun _ => rfl) (fun _ => rfl) (fun _ => rfl) (fun cdv A outer s H E hr B hB a => ?_)
  show JSs _ B _ _ (mb_law_spots a) _
  unfold mb_law_spots
  exact ((js_consQ1 (fun (b54 : ((Int × (List Int)) × (Int × Int))) => [.own 1 ((oL D.int) b54.1.2), .val (D.int b54.2.1), .val (D.int b54.2.2), .non, .non, .non, .non]) (j1_asgN (d := fun (b54 : ((Int × (List Int)) × (Int × Int))) => (eP2 D.int D.int) b54.2) (je_wk (d := fun (b53 : ((Int × (List Int)) × (Int × Int))) => eK2 b53.2) (d' := fun (b53 : ((Int × (List Int)) × (Int × Int))) => (eP2 D.int D.int) b53.2) (fun b53 => (fun _ => wk_K2 _) (b53.2)) (je_opRG (s := fun (y14 : (Int × (List Int))) (z52 : (Int × Int)) => (.val (eK2 z52))) (xb := fun (y14 : (Int × (List Int))) => D.int y14.1) (fun _ _ ha hb => pe_ix ix_list ha hb (fun _ _ => rfl)) (je_frzL (v := fun (b12 : Unit) => [((4 : Int), (3 : Int)), ((9 : Int), (9 : Int)), ((76 : Int), (40 : Int)), ((76 : Int), (0 : Int)), ((0 : Int), (40 : Int)), ((2 : Int), (40 : Int))]) (je_lstT eK2 (fun (b11 : Unit) => ([((4 : Int), (3 : Int)), ((9 : Int), (9 : Int)), ((76 : Int), (40 : Int)), ((76 : Int), (0 : Int)), ((0 : Int), (40 : Int)), ((2 : Int), (40 : Int))] : List (Int × Int))) (ja_p (je_tupK (p := fun (b5 : Unit) => ((4 : Int), (3 : Int))) (ja_p jp_int (ja_p jp_int ja_nil))) (ja_p (je_tupK (p := fun (b6 : Unit) => ((9 : Int), (9 : Int))) (ja_p jp_int (ja_p jp_int ja_nil))) (ja_p (je_tupK (p := fun (b7 : Unit) => ((76 : Int), (40 : Int))) (ja_p jp_int (ja_p jp_int ja_nil))) (ja_p (je_tupK (p := fun (b8 : Unit) => ((76 : Int), (0 : Int))) (ja_p jp_int (ja_p jp_int ja_nil))) (ja_p (je_tupK (p := fun (b9 : Unit) => ((0 : Int), (40 : Int))) (ja_p jp_int (ja_p jp_int ja_nil))) (ja_p (je_tupK (p := fun (b10 : Unit) => ((2 : Int), (40 : Int))) (ja_p jp_int (ja_p jp_int ja_nil))) ja_nil)))))))) (je_callQ (ins := i_law_digit) (mf := m_law_digit) (sl := l_law_digit) (outs := o_law_digit) (ok_law_digit T) (hr.mono (by decide)) (by rfl) T.law_digit.g T.law_digit.f.kp T.law_digit.b pass0 (arg := (a, (6 : Int))) (fun (b51 : (Int × (List Int))) => [.own 1 ((oL D.int) b51.2), .non, .non, .non, .non, .non, .non]) (ja_s 0 (ja_p jp_int ja_nil)) hB) (fun y14 => od_ixLm))) (fun b54 => jg_tup rfl (jgs_p (jg_name 1 sc_law_spots.nd) (jgs_p (jg_name 2 sc_law_spots.nd) jgs_nil)))) fun b54 =>
(js_setEQ 3 D.int (fun (b86 : (Unit × (((Int × (List Int)) × Int) × (Int × (List Int))))) => (min ((b54.2.1 + (1 : Int)) * (b54.2.2 + (1 : Int))) ((3 : Int) + b86.2.2.1))) (fun (b86 : (Unit × (((Int × (List Int)) × Int) × (Int × (List Int))))) (v_many_85 : Int) => [.own 1 ((oL D.int) b86.2.2.2), .val (D.int b54.2.1), .val (D.int b54.2.2), .val (D.int v_many_85), .non, .non, .non]) sc_law_spots.nd (je_cbN (s := fun (c83 : (Unit × (((Int × (List Int)) × Int) × (Int × (List Int))))) => .val (D.int (min ((b54.2.1 + (1 : Int)) * (b54.2.2 + (1 : Int))) ((3 : Int) + c83.2.2.1)))) (fun _ ht => pe_callB (call_min2 rfl) (by rfl) T.z_min (by decide +kernel) ht) (ja_e (ρa := fun _ => _) (xa := fun (x67 : Unit) => D.int ((b54.2.1 + (1 : Int)) * (b54.2.2 + (1 : Int)))) (je_op (fun _ _ ha hb => pe_op op_mulX ha hb) (je_op (fun _ _ ha hb => pe_op op_add ha hb) (jp_var 1) jp_int od_add) (je_op (fun _ _ ha hb => pe_op op_add ha hb) (jp_var 2) jp_int od_add) od_mul) (fun x67 => (ja_el (xa := fun (x81 : (((Int × (List Int)) × Int) × (Int × (List Int)))) => D.int ((3 : Int) + x81.2.1)) (je_opR (s := fun (y69 : (((Int × (List Int)) × Int) × (Int × (List Int)))) => (.val (D.int ((3 : Int) + y69.2.1)))) (xb := fun (y69 : (((Int × (List Int)) × Int) × (Int × (List Int)))) => D.int y69.2.1) (fun _ _ ha hb => pe_op op_add ha hb) jp_int (je_callQE (ins := i_law_digit) (mf := m_law_digit) (sl := l_law_digit) (outs := o_law_digit) (ok_law_digit T) (hr.mono (by decide)) (by rfl) T.law_digit.g T.law_digit.f.kp T.law_digit.b pass0 (arg := fun (c77 : ((Int × (List Int)) × Int)) => (c77.1.2, c77.2)) (fun (b79 : ((Int × (List Int)) × Int) × (Int × (List Int))) => [.own 1 ((oL D.int) b79.2.2), .val (D.int b54.2.1), .val (D.int b54.2.2), .non, .non, .non, .non]) (ja_s 0 (ja_el (xa := fun (x76 : ((Int × (List Int)) × Int)) => D.int x76.2) (je_opRG (s := fun (y73 : (Int × (List Int))) (z75 : Int) => (.val (D.int z75))) (xb := fun (y73 : (Int × (List Int))) => D.int y73.1) (fun _ _ ha hb => pe_ix ix_list ha hb (fun _ _ => rfl)) (je_frzL (v := fun (b71 : Unit) => [(4 : Int), (38 : Int)]) (je_lstT D.int (fun (b70 : Unit) => ([(4 : Int), (38 : Int)] : List Int)) (ja_p jp_int (ja_p jp_int ja_nil)))) (je_callQ (ins := i_law_digit) (mf := m_law_digit) (sl := l_law_digit) (outs := o_law_digit) (ok_law_digit T) (hr.mono (by decide)) (by rfl) T.law_digit.g T.law_digit.f.kp T.law_digit.b pass0 (arg := (b54.1.2, (2 : Int))) (fun (b74 : (Int × (List Int))) => [.own 1 ((oL D.int) b74.2), .val (D.int b54.2.1), .val (D.int b54.2.2), .non, .non, .non, .non]) (ja_s 0 (ja_p jp_int ja_nil)) hB) (fun y73 => od_ixLm)) (fun x76 => ja_nil))) hB) (fun y69 => od_add)) (fun x81 => ja_nil)))) (fun c83 => cb_min)) fun b86 v_many_85 =>
(js_setOQ 4 (oL eK2) (fun (b88 : Unit) => ([] : List (Int × Int))) (fun (b88 : Unit) (v_found_87 : (List (Int × Int))) => [.own 1 ((oL D.int) b86.2.2.2), .val (D.int b54.2.1), .val (D.int b54.2.2), .val (D.int v_many_85), .own 0 ((oL eK2) v_found_87), .non, .non]) sc_law_spots.nd (je_lstT eK2 (fun (_ : Unit) => ([] : List (Int × Int))) ja_nil) fun b88 v_found_87 =>
(js_cons (ρ1 := fun (n90 : ((List Int) × (List (Int × Int)))) => [.own 1 ((oL D.int) n90.1), .val (D.int b54.2.1), .val (D.int b54.2.2), .val (D.int v_many_85), .own 0 ((oL eK2) n90.2), .non, .non]) (js_while (fun (s89 : ((List Int) × (List (Int × Int)))) => [.own 1 ((oL D.int) s89.1), .val (D.int b54.2.1), .val (D.int b54.2.2), .val (D.int v_many_85), .own 0 ((oL eK2) s89.2), .non, .non]) PassesOwn.never (b86.2.2.2, v_found_87) [true, true, true, true, true, true, true] rfl (fun s89 => (jt_pb (jt_op (fun _ _ ha hb => pt_cmpR op_lt ha hb (nomark _)) (je_bor 4 (d := (eL eK2) s89.2) (ρ1 := fun (b92 : Unit) => [.own 1 ((oL D.int) s89.1), .val (D.int b54.2.1), .val (D.int b54.2.2), .val (D.int v_many_85), .val ((eL eK2) s89.2), .non, .non]) (ρ2 := fun (b92 : Unit) => [.own 1 ((oL D.int) s89.1), .val (D.int b54.2.1), .val (D.int b54.2.2), .val (D.int v_many_85), .non, .non, .non]) (ρ' := fun (b92 : Unit) => [.own 1 ((oL D.int) s89.1), .val (D.int b54.2.1), .val (D.int b54.2.2), .val (D.int v_many_85), .own 0 ((oL eK2) s89.2), .non, .non]) (sl := fun (b92 : Unit) => .val (D.int ((List.length s89.2 : Nat) : Int))) rfl (toD_oL _ _) (fun _ hB93 => (have hB := noRs hB93 hB; (je_cb (fun _ ht => pe_callB call_len_seq (by rfl) T.z_len (by decide +kernel) ht) (ja_p (je_wk (d := fun (b91 : Unit) => (eL eK2) s89.2) (d' := fun (b91 : Unit) => (eL (eP2 D.int D.int)) s89.2) (fun b91 => (fun _ => wk_L (f := eK2) (g := (eP2 D.int D.int)) (fun _ => wk_K2 _) _) (s89.2)) (jp_var 4)) ja_nil) cb_lenLm))) (fun (b92 : Unit) => (.cons (.o (fl_oL fl_int s89.1)) (.cons .k (.cons .k (.cons .k (.cons .f (.cons .f (.cons .f .nil)))))))) (fun (b92 : Unit) => fl_int ((List.length s89.2 : Nat) : Int)) (fun _ => rfl)) (jp_var 3) od_lt))) (fun s89 =>
(js_setEQ 5 eK2 (fun (b108 : ((Int × (List Int)) × (Int × (List Int)))) => (b108.1.1, b108.2.1)) (fun (b108 : ((Int × (List Int)) × (Int × (List Int)))) (v_spot_107 : (Int × Int)) => [.own 1 ((oL D.int) b108.2.2), .val (D.int b54.2.1), .val (D.int b54.2.2), .val (D.int v_many_85), .own 0 ((oL eK2) s89.2), .val (eK2 v_spot_107), .non]) sc_law_spots.nd (je_tupK (p := fun (b106 : ((Int × (List Int)) × (Int × (List Int)))) => (b106.1.1, b106.2.1)) (ja_e (xa := fun (x100 : (Int × (List Int))) => D.int x100.1) (je_callQ (ins := i_law_digit) (mf := m_law_digit) (sl := l_law_digit) (outs := o_law_digit) (ok_law_digit T) (hr.mono (by decide)) (by rfl) T.law_digit.g T.law_digit.f.kp T.law_digit.b pass0 (arg := (s89.1, (b54.2.1 + (1 : Int)))) (fun (b99 : (Int × (List Int))) => [.own 1 ((oL D.int) b99.2), .val (D.int b54.2.1), .val (D.int b54.2.2), .val (D.int v_many_85), .own 0 ((oL eK2) s89.2), .non, .non]) (ja_s 0 (ja_p (je_op (fun _ _ ha hb => pe_op op_add ha hb) (jp_var 1) jp_int od_add) ja_nil)) hB) (fun x100 => (ja_el (xa := fun (x104 : (Int × (List Int))) => D.int x104.1) (je_callQ (ins := i_law_digit) (mf := m_law_digit) (sl := l_law_digit) (outs := o_law_digit) (ok_law_digit T) (hr.mono (by decide)) (by rfl) T.law_digit.g T.law_digit.f.kp T.law_digit.b pass0 (arg := (x100.2, (b54.2.2 + (1 : Int)))) (fun (b103 : (Int × (List Int))) => [.own 1 ((oL D.int) b103.2), .val (D.int b54.2.1), .val (D.int b54.2.2), .val (D.int v_many_85), .own 0 ((oL eK2) s89.2), .non, .non]) (ja_s 0 (ja_p (je_op (fun _ _ ha hb => pe_op op_add ha hb) (jp_var 2) jp_int od_add) ja_nil)) hB) (fun x104 => ja_nil))))) fun b108 v_spot_107 =>
(js_cons (ρ1 := fun (n110 : (Int × Int)) => [.own 1 ((oL D.int) b108.2.2), .val (D.int b54.2.1), .val (D.int b54.2.2), .val (D.int v_many_85), .own 0 ((oL eK2) s89.2), .val (eK2 n110), .non]) (js_while (fun (s109 : (Int × Int)) => [.own 1 ((oL D.int) b108.2.2), .val (D.int b54.2.1), .val (D.int b54.2.2), .val (D.int v_many_85), .own 0 ((oL eK2) s89.2), .val (eK2 s109), .non]) PassesOwn.never v_spot_107 [true, true, true, true, true, true, true] rfl (fun s109 => (jt_pb (jt_bor 4 (d := (eL eK2) s89.2) (ρ1 := fun (b116 : Unit) => [.own 1 ((oL D.int) b108.2.2), .val (D.int b54.2.1), .val (D.int b54.2.2), .val (D.int v_many_85), .val ((eL eK2) s89.2), .val (eK2 s109), .non]) (ρ2 := fun (b116 : Unit) => [.own 1 ((oL D.int) b108.2.2), .val (D.int b54.2.1), .val (D.int b54.2.2), .val (D.int v_many_85), .non, .val (eK2 s109), .non]) (ρ' := fun (b116 : Unit) => [.own 1 ((oL D.int) b108.2.2), .val (D.int b54.2.1), .val (D.int b54.2.2), .val (D.int v_many_85), .own 0 ((oL eK2) s89.2), .val (eK2 s109), .non]) (bn := fun (b116 : Unit) => (hasL s109 s89.2)) rfl (toD_oL _ _) (fun _ hB117 => (have hB := noRs hB117 hB; (jt_op (fun _ _ ha hb => pt_cmpR (op_inD (un65 hr)) ha hb (by rfl)) (je_wk (d := fun (b111 : Unit) => eK2 s109) (d' := fun (b111 : Unit) => (eP2 D.int D.int) s109) (fun b111 => (fun _ => wk_K2 _) (s109)) (jp_var 5)) (je_wk (d := fun (b115 : Unit) => (eL eK2) s89.2) (d' := fun (b115 : Unit) => (eL (eP2 D.int D.int)) s89.2) (fun b115 => (fun _ => wk_L (f := eK2) (g := (eP2 D.int D.int)) (fun _ => wk_K2 _) _) (s89.2)) (jp_var 4)) (od_inL (ee_p2 ee_int ee_int))))) (fun (b116 : Unit) => (.cons (.o (fl_oL fl_int b108.2.2)) (.cons .k (.cons .k (.cons .k (.cons .f (.cons .k (.cons .f .nil)))))))) (fun _ => rfl)))) (fun s109 =>
(js_setEQ 6 D.int (fun (b144 : (Unit × Unit × Unit)) => (Int.fmod (((s109.1 * (b54.2.2 + (1 : Int))) + s109.2) + (1 : Int)) ((b54.2.1 + (1 : Int)) * (b54.2.2 + (1 : Int))))) (fun (b144 : (Unit × Unit × Unit)) (v_at_143 : Int) => [.own 1 ((oL D.int) b108.2.2), .val (D.int b54.2.1), .val (D.int b54.2.2), .val (D.int v_many_85), .own 0 ((oL eK2) s89.2), .val (eK2 s109), .val (D.int v_at_143)]) sc_law_spots.nd (je_op2 (ρa := fun _ => _) (ρb := fun _ _ => _) (s := fun (x135 : Unit) (y136 : Unit) (z0 : Unit) => (.val (D.int (Int.fmod (((s109.1 * (b54.2.2 + (1 : Int))) + s109.2) + (1 : Int)) ((b54.2.1 + (1 : Int)) * (b54.2.2 + (1 : Int))))))) (xa := fun (x135 : Unit) => D.int (((s109.1 * (b54.2.2 + (1 : Int))) + s109.2) + (1 : Int))) (xb := fun (x135 : Unit) (y136 : Unit) => D.int ((b54.2.1 + (1 : Int)) * (b54.2.2 + (1 : Int)))) (fun _ _ ha hb => pe_op op_modN ha hb) (je_opL (ρa := fun _ => _) (s := fun (x132 : Unit) => (.val (D.int (((s109.1 * (b54.2.2 + (1 : Int))) + s109.2) + (1 : Int))))) (xa := fun (x132 : Unit) => D.int ((s109.1 * (b54.2.2 + (1 : Int))) + s109.2)) (y := fun (x132 : Unit) => D.int (1 : Int)) (fun _ _ ha hb => pe_op op_add ha hb) (je_opL (ρa := fun _ => _) (s := fun (x126 : Unit) => (.val (D.int ((s109.1 * (b54.2.2 + (1 : Int))) + s109.2)))) (xa := fun (x126 : Unit) => D.int (s109.1 * (b54.2.2 + (1 : Int)))) (y := fun (x126 : Unit) => D.int s109.2) (fun _ _ ha hb => pe_op op_add ha hb) (je_op (fun _ _ ha hb => pe_op op_mulX ha hb) (je_op (fun _ _ ha hb => pe_ix ix_tup ha hb (fun _ _ => rfl)) (je_wk (d := fun (b119 : Unit) => eK2 s109) (d' := fun (b119 : Unit) => (eP2 D.int D.int) s109) (fun b119 => (fun _ => wk_K2 _) (s109)) (jp_var 5)) jp_int (od_ixTs rfl)) (je_op (fun _ _ ha hb => pe_op op_add ha hb) (jp_var 2) jp_int od_add) od_mul) (fun x126 => (je_op (fun _ _ ha hb => pe_ix ix_tup ha hb (fun _ _ => rfl)) (je_wk (d := fun (b128 : Unit) => eK2 s109) (d' := fun (b128 : Unit) => (eP2 D.int D.int) s109) (fun b128 => (fun _ => wk_K2 _) (s109)) (jp_var 5)) jp_int (od_ixTs rfl))) (fun x126 => od_add)) (fun x132 => jp_int) (fun x132 => od_add)) (fun x135 => (je_op (fun _ _ ha hb => pe_op op_mulX ha hb) (je_op (fun _ _ ha hb => pe_op op_add ha hb) (jp_var 1) jp_int od_add) (je_op (fun _ _ ha hb => pe_op op_add ha hb) (jp_var 2) jp_int od_add) od_mul)) (fun x135 y136 => od_mod)) fun b144 v_at_143 =>
(js_setEQ 5 eK2 (fun (b158 : (Unit × Unit)) => ((Int.fdiv v_at_143 (b54.2.2 + (1 : Int))), (Int.fmod v_at_143 (b54.2.2 + (1 : Int))))) (fun (b158 : (Unit × Unit)) (v_spot_157 : (Int × Int)) => [.own 1 ((oL D.int) b108.2.2), .val (D.int b54.2.1), .val (D.int b54.2.2), .val (D.int v_many_85), .own 0 ((oL eK2) s89.2), .val (eK2 v_spot_157), .val (D.int v_at_143)]) sc_law_spots.nd (je_tupK (p := fun (b156 : (Unit × Unit)) => ((Int.fdiv v_at_143 (b54.2.2 + (1 : Int))), (Int.fmod v_at_143 (b54.2.2 + (1 : Int))))) (ja_e (ρ' := fun _ _ => _) (ρa := fun _ => _) (xa := fun (x149 : Unit) => D.int (Int.fdiv v_at_143 (b54.2.2 + (1 : Int)))) (je_op (fun _ _ ha hb => pe_op op_fdivZ ha hb) (jp_var 6) (je_op (fun _ _ ha hb => pe_op op_add ha hb) (jp_var 2) jp_int od_add) od_fdiv) (fun x149 => (ja_el (ρa := fun _ => _) (xa := fun (x154 : Unit) => D.int (Int.fmod v_at_143 (b54.2.2 + (1 : Int)))) (je_op (fun _ _ ha hb => pe_op op_modN ha hb) (jp_var 6) (je_op (fun _ _ ha hb => pe_op op_add ha hb) (jp_var 2) jp_int od_add) od_mod) (fun x154 => ja_nil))))) fun b158 v_spot_157 =>
(js_nil [true, true, true, true, true, true, false] v_spot_157))))) fun n110 =>
(js_consQ1 (fun (b160 : Unit) => [.own 1 ((oL D.int) b108.2.2), .val (D.int b54.2.1), .val (D.int b54.2.2), .val (D.int v_many_85), .own 0 ((oL eK2) (s89.2 ++ [n110])), .val (eK2 n110), .non]) (j1_expr (je_app 4 (f := eK2) (y := fun (b159 : Unit) => n110) (ρ' := fun (b159 : Unit) => [.own 1 ((oL D.int) b108.2.2), .val (D.int b54.2.1), .val (D.int b54.2.2), .val (D.int v_many_85), .own 0 ((oL eK2) s89.2), .val (eK2 n110), .non]) (fun (b159 : Unit) => s89.2) (jp_var 5))) fun b160 =>
(js_nil [true, true, true, true, true, false, true] (b108.2.2, (s89.2 ++ [n110])))))))) fun n90 =>
(js_one (js_retP (n90.2, n90.1) [true, false, false, false, false, true, true] (je_wk (d := fun (b163 : Unit) => (eR eK2) n90.2) (d' := fun (b163 : Unit) => (eT eK2) n90.2) (fun b163 => (fun _ => wk_R _ _) (n90.2)) (je_bor 4 (d := (eL eK2) n90.2) (ρ1 := fun (b161 : Unit) => [.own 1 ((oL D.int) n90.1), .val (D.int b54.2.1), .val (D.int b54.2.2), .val (D.int v_many_85), .val ((eL eK2) n90.2), .non, .non]) (ρ2 := fun (b161 : Unit) => [.own 1 ((oL D.int) n90.1), .val (D.int b54.2.1), .val (D.int b54.2.2), .val (D.int v_many_85), .non, .non, .non]) (ρ' := fun (b161 : Unit) => [.own 1 ((oL D.int) n90.1), .val (D.int b54.2.1), .val (D.int b54.2.2), .val (D.int v_many_85), .own 0 ((oL eK2) n90.2), .non, .non]) (sl := fun (b161 : Unit) => .val ((eR eK2) n90.2)) rfl (toD_oL _ _) (fun _ hB162 => (have hB := noRs hB162 hB; (je_cb (fun _ ht => pe_callTy cr_tupF (by rfl) T.z_tuple (by decide +kernel) ht) (ja_p (jp_var 4) ja_nil) cb_tupF))) (fun (b161 : Unit) => (.cons (.o (fl_oL fl_int n90.1)) (.cons .k (.cons .k (.cons .k (.cons .f (.cons .f (.cons .f .nil)))))))) (fun (b161 : Unit) => (fl_R fl_K2) n90.2) (fun _ => rfl))))))))))
theorem sc_law_pot : FnScope ["_law_script", "_law_k", "_law_cell"] ["_law_script", "_law_k"] (defScope s_law_pot) := ⟨rfl, rfl, rfl, by decide +kernel, rfl, by decide +kernel, by decide +kernel⟩
noncomputable def mb_law_pot (v_script : List Int) (v_k : Int) : R (Fl Unit Unit (List Int)) :=
(((R.guard (List.length (cut v_script (some v_k) (some (v_k + (1 : Int)))) + List.length [(0 : Int)] ≤ sizeLine)).bind fun (x174 : Unit) => (R.some (atI ((cut v_script (some v_k) (some (v_k + (1 : Int)))) ++ [(0 : Int)]) (0 : Int))).bind fun (z176 : Int) => R.ok (x174, z176)).bind fun (b178 : (Unit × Int)) => lt b178.2 fun v_cell_177 =>
(R.ok (.rt [(max (0 : Int) (v_cell_177 - ((10 : Int) ^ (Int.toNat (18 : Int))))), (((((if v_cell_177 < 0 then -v_cell_177 else v_cell_177) + ((7919 : Int) * v_k)) + (3 : Int)) % (2147483629 : Int)) + (1 : Int))])))
noncomputable def m_law_pot (a : (List Int × Int)) : R (List Int) := fin0 (mb_law_pot a.1 a.2)
abbrev i_law_pot (a : (List Int × Int)) : List Slot := [.val (D.scr a.1), .val (D.int a.2)]
abbrev l_law_pot (b : (List Int)) : Slot := .own 0 ((oL D.int) b)
abbrev o_law_pot (b : (List Int)) : List Slot := [.non, .non]
theorem ok_law_pot {P : Program} {w : World} {K : PySem.W.Frag} {mg : Str → Option Value} {base : Heap} (T : Top K mg) : FnG P w K mg base CX0 1 T.law_pot.a T.law_pot.d ["_law_script", "_law_k"] (spM K i_law_pot m_law_pot l_law_pot o_law_pot) := by
  show FnG P w K mg base CX0 (0 + 1) T.law_pot.a T.law_pot.d ["_law_script", "_law_k"] (spM K i_law_pot (fun (a : (List Int × Int)) => fin0 (mb_law_pot a.1 a.2)) l_law_pot o_law_pot)
  refine fn_ok (n1 := fun _ => []) (c1 := fun _ => []) (k1 := fun _ => []) (ins := i_law_pot) (sl := l_law_pot) (outs := o_law_pot) (fun (a : (List Int × Int)) => mb_law_pot a.1 a.2) 1 T.law_pot.f sc_law_pot rfl (fun _ => rfl) (fun _ => rfl) (fun _ => rfl) (fun cdv A outer s H E hr B hB a => ?_)
  show JSs _ B _ _ (mb_law_pot a.1 a.2) _
  unfold mb_law_pot
  exact ((js_setEQ 2 D.int (fun (b178 : (Unit × Int)) => b178.2) (fun (b178 : (Unit × Int)) (v_cell_177 : Int) => [.val (D.scr a.1), .val (D.int a.2), .val (D.int v_cell_177)]) sc_law_pot.nd (je_opLG (ρa := fun _ => _) (s := fun (x174 : Unit) (z176 : Int) => (.val (D.int z176))) (xa := fun (x174 : Unit) => (eL D.int) ((cut a.1 (some a.2) (some (a.2 + (1 : Int)))) ++ [(0 : Int)])) (y := fun (x174 : Unit) => D.int (0 : Int)) (fun _ _ ha hb => pe_ix ix_list ha hb (fun _ _ => rfl)) (je_frzL (v := fun (b173 : Unit) => ((cut a.1 (some a.2) (some (a.2 + (1 : Int)))) ++ [(0 : Int)])) (je_op (fun _ _ ha hb => pe_op op_catR ha hb) (je_frzL (v := fun (b166 : Unit) => (cut a.1 (some a.2) (some (a.2 + (1 : Int))))) (je_slS (jp_var 0) (fun _ => (jo_some (jp_var 1))) (fun _ => (jo_some (je_op (fun _ _ ha hb => pe_op op_add ha hb) (jp_var 1) jp_int od_add))))) (je_frzL (v := fun (b172 : Unit) => [(0 : Int)]) (je_lstT D.int (fun (b171 : Unit) => ([(0 : Int)] : List Int)) (ja_p jp_int ja_nil))) od_catm)) (fun x174 => jp_int) (fun x174 => od_ixLm)) fun b178 v_cell_177 =>
(js_one (js_retP [(max (0 : Int) (v_cell_177 - ((10 : Int) ^ (Int.toNat (18 : Int))))), (((((if v_cell_177 < 0 then -v_cell_177 else v_cell_177) + ((7919 : Int) * a.2)) + (3 : Int)) % (2147483629 : Int)) + (1 : Int))] [false, false, false] (je_lstT D.int (fun (b193 : Unit) => ([(max (0 : Int) (v_cell_177 - ((10 : Int) ^ (Int.toNat (18 : Int))))), (((((if v_cell_177 < 0 then -v_cell_177 else v_cell_177) + ((7919 : Int) * a.2)) + (3 : Int)) % (2147483629 : Int)) + (1 : Int))] : List Int)) (ja_p (je_cb (fun _ ht => pe_callB (call_max2 rfl) (by rfl) T.z_max (by decide +kernel) ht) (ja_p jp_int (ja_p (je_op (fun _ _ ha hb => pe_op op_sub ha hb) (jp_var 2) (je_op (fun _ _ ha hb => pe_op op_pow ha hb) jp_int jp_int od_powC) od_sub) ja_nil)) cb_max) (ja_p (je_op (fun _ _ ha hb => pe_op op_add ha hb) (je_op (fun _ _ ha hb => pe_op op_mod ha hb) (je_op (fun _ _ ha hb => pe_op op_add ha hb) (je_op (fun _ _ ha hb => pe_op op_add ha hb) (je_cb (fun _ ht => pe_callB call_abs (by rfl) T.z_abs (by decide +kernel) ht) (ja_p (jp_var 2) ja_nil) cb_abs) (je_op (fun _ _ ha hb => pe_op op_mul ha hb) jp_int (jp_var 1) od_mulC) od_add) jp_int od_add) jp_int od_modC) jp_int od_add) ja_nil)))))))
theorem sc_law_line : FnScope ["_law_some", "_law_y", "_law_wide", "_law_line_here", "_law_place", "_law_spot"] ["_law_some", "_law_y", "_law_wide"] (defScope s_law_line) := ⟨rfl, rfl, rfl, by decide +kernel, rfl, by decide +kernel, by decide +kernel⟩
noncomputable def mb_law_line (v_some : (List (Int × Int))) (v_y : Int) (v_wide : Int) : R (Fl Unit Unit Str) :=
(((R.ok ()).bind fun (x236 : Unit) => (R.ok ()).bind fun (y237 : Unit) => (R.guard (-(2 ^ 63) ≤ v_wide ∧ v_wide < 2 ^ 63 ∧ List.length [Str.ofString "."] * Int.toNat v_wide ≤ sizeLine)).bind fun _ => R.ok (x236, y237)).bind fun (b240 : (Unit × Unit)) => lt (repL [Str.ofString "."] v_wide) fun v_line_here_239 =>
(bindF (forR (fun (x245 : (Int × (Int × Int))) (s243 : (List Str)) =>
(bindF (if (decide (x245.2.2 = v_y)) = true then (((sgAt (Str.ofString "abcdefghijklmnopqrstuvwxyzABCDEFGHIJKLMN") x245.1).bind fun (b270 : Str) => (R.some (ixN (List.length s243) x245.2.1)).bind fun (j274 : Nat) => R.ok (b270, j274)).bind fun (p275 : Str × Nat) =>
(R.ok (.nx (List.set s243 p275.2 p275.1)))) else (R.ok (.nx s243))) fun n276 =>
(R.ok (.nx n276)))) (enumL v_some) v_line_here_239) fun n244 =>
((((R.ok ()).bind fun (b277 : Unit) => (R.guard ((List.map (fun (z : Str) => Str.length z) n244).sum + List.length n244 * Str.length (Str.ofString "") ≤ 16777216)).bind fun _ => R.ok b277).bind fun (x280 : Unit) => (R.guard (Str.length (Txt.join (Str.ofString "") n244) + Str.length (Str.ofString "\n") ≤ sizeLine)).bind fun (z282 : Unit) => R.ok (x280, z282)).bind fun (b283 : (Unit × Unit)) => R.ok (.rt ((Txt.join (Str.ofString "") n244) ++ (Str.ofString "\n"))))))
noncomputable def m_law_line (a : ((List (Int × Int)) × Int × Int)) : R Str := fin0 (mb_law_line a.1 a.2.1 a.2.2)
abbrev i_law_line (a : ((List (Int × Int)) × Int × Int)) : List Slot := [.val ((eT eK2) a.1), .val (D.int a.2.1), .val (D.int a.2.2)]
abbrev l_law_line (b : Str) : Slot := .val (D.str b)
abbrev o_law_line (b : Str) : List Slot := [.non, .non, .non]
theorem ok_law_line {P : Program} {w : World} {K : PySem.W.Frag} {mg : Str → Option Value} {base : Heap} (T : Top K mg) : FnG P w K mg base CX0 1 T.law_line.a T.law_line.d ["_law_some", "_law_y", "_law_wide"] (spM K i_law_line m_law_line l_law_line o_law_line) := by
  show FnG P w K mg base CX0 (0 + 1) T.law_line.a T.law_line.d ["_law_some", "_law_y", "_law_wide"] (spM K i_law_line (fun (a : ((List (Int × Int)) × Int × Int)) => fin0 (mb_law_line a.1 a.2.1 a.2.2)) l_law_line o_law_line)
  refine fn_ok (n1 := fun _ => []) (c1 := fun _ => []) (k1 := fun _ => []) (ins := i_law_line) (sl := l_law_line) (outs := o_law_line) (fun (a : ((List (Int × Int)) × Int × Int)) => mb_law_line a.1 a.2.1 a.2.2) 3 T.law_line.f sc_law_line rfl (fun _ => rfl) (fun _ => rfl) (fun _ => rfl) (fun cdv A outer s H E hr B hB a => ?_)
  show JSs _ B _ _ (mb_law_line a.1 a.2.1 a.2.2) _
  unfold mb_law_line
  exact ((js_setOQ 3 (oL D.str) (fun (b240 : (Unit × Unit)) => (repL [Str.ofString "."] a.2.2)) (fun (b240 : (Unit × Unit)) (v_line_here_239 : (List Str)) => [.val ((eT eK2) a.1), .val (D.int a.2.1), .val (D.int a.2.2), .own 0 ((oL D.str) v_line_here_239), .non, .non]) sc_law_line.nd (je_rep (f := D.str) (xs := fun (x236 : Unit) => [Str.ofString "."]) (k := fun (x236 : Unit) (y237 : Unit) => a.2.2) (ρa := fun _ => _) (ρ' := fun _ _ => _) (je_lstT D.str (fun (b235 : Unit) => ([Str.ofString "."] : List Str)) (ja_p jp_str ja_nil)) (fun _ hB238 x236 => (have hB := noRs hB238 hB; (jp_var 2)))) fun b240 v_line_here_239 =>
(js_cons (ρ1 := fun (n244 : (List Str)) => [.val ((eT eK2) a.1), .val (D.int a.2.1), .val (D.int a.2.2), .own 0 ((oL D.str) n244), .non, .non]) (js_forP (en := (eP2 D.int eK2)) (fun (s243 : (List Str)) => [.val ((eT eK2) a.1), .val (D.int a.2.1), .val (D.int a.2.2), .own 0 ((oL D.str) s243), .non, .non]) (fun (x245 : (Int × (Int × Int))) (s243 : (List Str)) => [.val ((eT eK2) a.1), .val (D.int a.2.1), .val (D.int a.2.2), .own 0 ((oL D.str) s243), .val (D.int x245.1), .val (eK2 x245.2)]) PassesOwn.never rfl (ji_enumT (f := eK2) (xs := fun (b241 : Unit) => a.1) (by rfl) T.z_enumerate (jp_var 0)) [true, true, true, true, true, true] rfl (fun x245 s243 => (jg_tup rfl (jgs_p (jg_name 4 sc_law_line.nd) (jgs_p (jg_name 5 sc_law_line.nd) jgs_nil)))) (fun x245 s243 =>
(js_cons (ρ1 := fun (n276 : (List Str)) => [.val ((eT eK2) a.1), .val (D.int a.2.1), .val (D.int a.2.2), .own 0 ((oL D.str) n276), .val (D.int x245.1), .val (eK2 x245.2)]) (js_ifP (jt_op (fun _ _ ha hb => pt_cmpR op_eq ha hb (nomark _)) (je_op (fun _ _ ha hb => pe_ix ix_tup ha hb (fun _ _ => rfl)) (je_wk (d := fun (b246 : Unit) => eK2 x245.2) (d' := fun (b246 : Unit) => (eP2 D.int D.int) x245.2) (fun b246 => (fun _ => wk_K2 _) (x245.2)) (jp_var 5)) jp_int (od_ixTs rfl)) (jp_var 1) od_eqI) (js_consQ1 (fun (p275 : Str × Nat) => [.val ((eT eK2) a.1), .val (D.int a.2.1), .val (D.int a.2.2), .own 0 ((oL D.str) (List.set s243 p275.2 p275.1)), .val (D.int x245.1), .val (eK2 x245.2)]) (j1_asg (d := fun (b270 : Str) => D.str b270) (je_op (fun _ _ ha hb => pe_ix ix_str ha hb (fun _ _ => rfl)) jp_str (jp_var 4) od_ixS) (fun b270 => (jg_sub 3 (xs := s243) (en := D.str) (y := b270) (k := x245.2.1) rfl (je_op (fun _ _ ha hb => pe_ix ix_tup ha hb (fun _ _ => rfl)) (je_wk (d := fun (b271 : Unit) => eK2 x245.2) (d' := fun (b271 : Unit) => (eP2 D.int D.int) x245.2) (fun b271 => (fun _ => wk_K2 _) (x245.2)) (jp_var 5)) jp_int (od_ixTs rfl))))) fun p275 =>
(js_nil [true, true, true, true, true, true] (List.set s243 p275.2 p275.1))) (js_nil [true, true, true, true, true, true] s243)) fun n276 =>
(js_nil [true, true, true, true, false, false] n276)))) fun n244 =>
(js_one (js_ret (fun (b283 : (Unit × Unit)) => ((Txt.join (Str.ofString "") n244) ++ (Str.ofString "\n"))) [false, false, false, false, true, true] (je_opLG (ρa := fun _ => _) (s := fun (x280 : Unit) (z282 : Unit) => (.val (D.str ((Txt.join (Str.ofString "") n244) ++ (Str.ofString "\n"))))) (xa := fun (x280 : Unit) => D.str (Txt.join (Str.ofString "") n244)) (y := fun (x280 : Unit) => D.str (Str.ofString "\n")) (fun _ _ ha hb => pe_op op_add_str ha hb) (je_bor 3 (d := (eL D.str) n244) (ρ1 := fun (b278 : Unit) => [.val ((eT eK2) a.1), .val (D.int a.2.1), .val (D.int a.2.2), .val ((eL D.str) n244), .non, .non]) (ρ2 := fun (b278 : Unit) => [.val ((eT eK2) a.1), .val (D.int a.2.1), .val (D.int a.2.2), .non, .non, .non]) (ρ' := fun (b278 : Unit) => [.val ((eT eK2) a.1), .val (D.int a.2.1), .val (D.int a.2.2), .own 0 ((oL D.str) n244), .non, .non]) (sl := fun (b278 : Unit) => .val (D.str (Txt.join (Str.ofString "") n244))) rfl (toD_oL _ _) (fun _ hB279 => (have hB := noRs hB279 hB; (je_join (ys := fun (b277 : Unit) => n244) jp_str (jp_var 3)))) (fun (b278 : Unit) => (.cons .k (.cons .k (.cons .k (.cons .f (.cons .f (.cons .f .nil))))))) (fun (b278 : Unit) => fl_str (Txt.join (Str.ofString "") n244)) (fun _ => rfl)) (fun x280 => jp_str) (fun x280 => od_addS)))))))
theorem sc_law_text : FnScope ["_law_some", "_law_wide", "_law_high", "_law_spot", "_law_k"] ["_law_some"] (defScope s_law_text) := ⟨rfl, rfl, rfl, by decide +kernel, rfl, by decide +kernel, by decide +kernel⟩
noncomputable def mb_law_text (v_some : (List (Int × Int))) : R (Fl Unit Unit Str) :=
((((R.ok ()).bind fun (b201 : Unit) => (R.guard (List.length v_some ≤ sizeLine)).bind fun _ => R.ok b201).bind fun (c210 : Unit) => (R.guard ((List.map (fun (x203 : (Int × Int)) => x203.1) (List.filter (fun (x203 : (Int × Int)) => true) v_some)) ≠ [])).bind fun (z211 : Unit) => R.ok (c210, z211)).bind fun (b214 : (Unit × Unit)) => lt ((1 : Int) + (maxL (List.map (fun (x203 : (Int × Int)) => x203.1) (List.filter (fun (x203 : (Int × Int)) => true) v_some)))) fun v_wide_213 =>
((((R.ok ()).bind fun (b217 : Unit) => (R.guard (List.length v_some ≤ sizeLine)).bind fun _ => R.ok b217).bind fun (c226 : Unit) => (R.guard ((List.map (fun (x219 : (Int × Int)) => x219.2) (List.filter (fun (x219 : (Int × Int)) => true) v_some)) ≠ [])).bind fun (z227 : Unit) => R.ok (c226, z227)).bind fun (b230 : (Unit × Unit)) => lt ((1 : Int) + (maxL (List.map (fun (x219 : (Int × Int)) => x219.2) (List.filter (fun (x219 : (Int × Int)) => true) v_some)))) fun v_high_229 =>
((((R.guard (rngOk v_high_229)).bind fun (b231 : Unit) => (R.guard (List.length (rng 0 v_high_229) ≤ sizeLine)).bind fun _ => compR (compF (fun (x233 : Int) (s232 : Unit) => R.ok ()) (fun (z289 : Unit) => true) (fun (x233 : Int) (s232 : Unit) => ((m_law_line (v_some, ((v_high_229 - (1 : Int)) - x233), v_wide_213)).bind fun (y288 : Str) => R.ok (y288, ()))) Prod.fst Prod.snd) (rng 0 v_high_229) [] ()).bind fun (b292 : ((List Str) × Unit)) => (R.guard ((List.map (fun (z : Str) => Str.length z) b292.1).sum + List.length b292.1 * Str.length (Str.ofString "") ≤ 16777216)).bind fun _ => R.ok b292).bind fun (b293 : ((List Str) × Unit)) => R.ok (.rt (Txt.join (Str.ofString "") b293.1)))))
noncomputable def m_law_text (a : (List (Int × Int))) : R Str := fin0 (mb_law_text a)
abbrev i_law_text (a : (List (Int × Int))) : List Slot := [.val ((eT eK2) a)]
abbrev l_law_text (b : Str) : Slot := .val (D.str b)
abbrev o_law_text (b : Str) : List Slot := [.non]
theorem ok_law_text {P : Program} {w : World} {K : PySem.W.Frag} {mg : Str → Option Value} {base : Heap} (T : Top K mg) : FnG P w K mg base CX0 2 T.law_text.a T.law_text.d ["_law_some"] (spM K i_law_text m_law_text l_law_text o_law_text) := by
  show FnG P w K mg base CX0 (1 + 1) T.law_text.a T.law_text.d ["_law_some"] (spM K i_law_text (fun (a : (List (Int × Int))) => fin0 (mb_law_text a)) l_law_text o_law_text)
  refine fn_ok (n1 := fun _ => []) (c1 := fun _ => []) (k1 := fun _ => []) (ins := i_law_text) (sl := l_law_text) (outs := o_law_text) (fun (a : (List (Int × Int))) => mb_law_text a) 4 T.law_text.f sc_law_text rfl (fun _ => rfl) (fun _ => rfl) (fun _ => rfl) (fun cdv A outer s H E hr B hB a => ?_)
  show JSs _ B _ _ (mb_law_text a) _
  unfold mb_law_text
  exact ((js_setEQ 1 D.int (fun (b214 : (Unit × Unit)) => ((1 : Int) + (maxL (List.map (fun (x203 : (Int × Int)) => x203.1) (List.filter (fun (x203 : (Int × Int)) => true) a))))) (fun (b214 : (Unit × Unit)) (v_wide_213 : Int) => [.val ((eT eK2) a), .val (D.int v_wide_213), .non, .non, .non]) sc_law_text.nd (je_opR (ρb := fun _ => _) (s := fun (y200 : (Unit × Unit)) => (.val (D.int ((1 : Int) + (maxL (List.map (fun (x203 : (Int × Int)) => x203.1) (List.filter (fun (x203 : (Int × Int)) => true) a))))))) (xb := fun (y200 : (Unit × Unit)) => D.int (maxL (List.map (fun (x203 : (Int × Int)) => x203.1) (List.filter (fun (x203 : (Int × Int)) => true) a)))) (fun _ _ ha hb => pe_op op_add ha hb) jp_int (je_cb2 (ρa := fun _ => _) (s := fun (c210 : Unit) (z211 : Unit) => .val (D.int (maxL (List.map (fun (x203 : (Int × Int)) => x203.1) (List.filter (fun (x203 : (Int × Int)) => true) a))))) (fun _ ht => pe_callB (cr_max rfl) (by rfl) T.z_max (by decide +kernel) ht) (ja_el (ρa := fun _ => _) (xa := fun (x209 : Unit) => (eL D.int) (List.map (fun (x203 : (Int × Int)) => x203.1) (List.filter (fun (x203 : (Int × Int)) => true) a))) (je_frzL (v := fun (b208 : Unit) => (List.map (fun (x203 : (Int × Int)) => x203.1) (List.filter (fun (x203 : (Int × Int)) => true) a))) (je_lcP (xs := fun (b201 : Unit) => a) (ea := eK2) (ts := [3]) [("_law_spot", 3)] D.int (fun (x203 : (Int × Int)) => [.val ((eT eK2) a), .non, .non, .val (eK2 x203), .non]) (fun (x203 : (Int × Int)) => true) (fun (x203 : (Int × Int)) => x203.1) rfl sc_law_text.nd (ji_tup (jp_var 0)) (blkOk_by (N := ["_law_some", "_law_wide", "_law_high", "_law_spot", "_law_k"]) (sc := defScope s_law_text) (by decide +kernel)) (fun _ _ _ _ _ _ hB204 x203 => (have hB := noRs hB204 hB; (jn_name 3 sc_law_text.nd))) (fun _ _ _ _ _ _ hB204 x203 => (have hB := noRs hB204 hB; jts_t)) (fun _ _ _ _ _ _ hB204 x203 => (have hB := noRs hB204 hB; (je_op (fun _ _ ha hb => pe_ix ix_tup ha hb (fun _ _ => rfl)) (je_wk (d := fun (b205 : Unit) => eK2 x203) (d' := fun (b205 : Unit) => (eP2 D.int D.int) x203) (fun b205 => (fun _ => wk_K2 _) (x203)) (jp_var 3)) jp_int (od_ixTs rfl)))))) (fun x209 => ja_nil)) (fun c210 => cb_maxL)) (fun y200 => od_add)) fun b214 v_wide_213 =>
(js_setEQ 2 D.int (fun (b230 : (Unit × Unit)) => ((1 : Int) + (maxL (List.map (fun (x219 : (Int × Int)) => x219.2) (List.filter (fun (x219 : (Int × Int)) => true) a))))) (fun (b230 : (Unit × Unit)) (v_high_229 : Int) => [.val ((eT eK2) a), .val (D.int v_wide_213), .val (D.int v_high_229), .non, .non]) sc_law_text.nd (je_opR (ρb := fun _ => _) (s := fun (y216 : (Unit × Unit)) => (.val (D.int ((1 : Int) + (maxL (List.map (fun (x219 : (Int × Int)) => x219.2) (List.filter (fun (x219 : (Int × Int)) => true) a))))))) (xb := fun (y216 : (Unit × Unit)) => D.int (maxL (List.map (fun (x219 : (Int × Int)) => x219.2) (List.filter (fun (x219 : (Int × Int)) => true) a)))) (fun _ _ ha hb => pe_op op_add ha hb) jp_int (je_cb2 (ρa := fun _ => _) (s := fun (c226 : Unit) (z227 : Unit) => .val (D.int (maxL (List.map (fun (x219 : (Int × Int)) => x219.2) (List.filter (fun (x219 : (Int × Int)) => true) a))))) (fun _ ht => pe_callB (cr_max rfl) (by rfl) T.z_max (by decide +kernel) ht) (ja_el (ρa := fun _ => _) (xa := fun (x225 : Unit) => (eL D.int) (List.map (fun (x219 : (Int × Int)) => x219.2) (List.filter (fun (x219 : (Int × Int)) => true) a))) (je_frzL (v := fun (b224 : Unit) => (List.map (fun (x219 : (Int × Int)) => x219.2) (List.filter (fun (x219 : (Int × Int)) => true) a))) (je_lcP (xs := fun (b217 : Unit) => a) (ea := eK2) (ts := [3]) [("_law_spot", 3)] D.int (fun (x219 : (Int × Int)) => [.val ((eT eK2) a), .val (D.int v_wide_213), .non, .val (eK2 x219), .non]) (fun (x219 : (Int × Int)) => true) (fun (x219 : (Int × Int)) => x219.2) rfl sc_law_text.nd (ji_tup (jp_var 0)) (blkOk_by (N := ["_law_some", "_law_wide", "_law_high", "_law_spot", "_law_k"]) (sc := defScope s_law_text) (by decide +kernel)) (fun _ _ _ _ _ _ hB220 x219 => (have hB := noRs hB220 hB; (jn_name 3 sc_law_text.nd))) (fun _ _ _ _ _ _ hB220 x219 => (have hB := noRs hB220 hB; jts_t)) (fun _ _ _ _ _ _ hB220 x219 => (have hB := noRs hB220 hB; (je_op (fun _ _ ha hb => pe_ix ix_tup ha hb (fun _ _ => rfl)) (je_wk (d := fun (b221 : Unit) => eK2 x219) (d' := fun (b221 : Unit) => (eP2 D.int D.int) x219) (fun b221 => (fun _ => wk_K2 _) (x219)) (jp_var 3)) jp_int (od_ixTs rfl)))))) (fun x225 => ja_nil)) (fun c226 => cb_maxL)) (fun y216 => od_add)) fun b230 v_high_229 =>
(js_one (js_ret (fun (b293 : ((List Str) × Unit)) => (Txt.join (Str.ofString "") b293.1)) [false, false, false, true, true] (je_join (ys := fun (b292 : ((List Str) × Unit)) => b292.1) jp_str (je_frzL (v := fun (b291 : ((List Str) × Unit)) => b291.1) (je_lc (xs := fun (b231 : Unit) => (rng 0 v_high_229)) (ea := D.int) (ts := [4]) (c := fun (x233 : Int) (s232 : Unit) => R.ok ()) (bn := fun (z289 : Unit) => true) (me := fun (x233 : Int) (s232 : Unit) => ((m_law_line (a, ((v_high_229 - (1 : Int)) - x233), v_wide_213)).bind fun (y288 : Str) => R.ok (y288, ()))) [("_law_k", 4)] D.str (fun (s232 : Unit) => [.val ((eT eK2) a), .val (D.int v_wide_213), .val (D.int v_high_229), .non, .non]) (fun (b231 : Unit) => ()) (fun (x233 : Int) (s232 : Unit) => [.val ((eT eK2) a), .val (D.int v_wide_213), .val (D.int v_high_229), .non, .val (D.int x233)]) Prod.fst Prod.snd rfl sc_law_text.nd (ji_rng1P (i := v_high_229) T.z_range (ja_p (jp_var 2) ja_nil)) (blkOk_by (N := ["_law_some", "_law_wide", "_law_high", "_law_spot", "_law_k"]) (sc := defScope s_law_text) (by decide +kernel)) (fun _ => rfl) (fun _ _ _ _ _ _ hB234 x233 s232 => (have hB := noRs hB234 hB; (jn_name 4 sc_law_text.nd))) (fun _ _ _ _ _ _ hB234 x233 s232 => (have hB := noRs hB234 hB; jts_nil)) (fun _ _ _ _ _ _ hB234 x233 s232 => (have hB := noRs hB234 hB; (je_mapS (en := D.str) (v := fun (y288 : Str) => y288) (st := fun (y288 : Str) => ()) (ρ' := fun (s290 : Unit) => [.val ((eT eK2) a), .val (D.int v_wide_213), .val (D.int v_high_229), .non, .val (D.int x233)]) (je_callV (ins := i_law_line) (mf := m_law_line) (sl := l_law_line) (outs := o_law_line) (ok_law_line T) (hr.mono (by decide)) (by rfl) T.law_line.g T.law_line.f.kp T.law_line.b pass0 (arg := (a, ((v_high_229 - (1 : Int)) - x233), v_wide_213)) (ja_p (jp_var 0) (ja_p (je_op (fun _ _ ha hb => pe_op op_sub ha hb) (je_op (fun _ _ ha hb => pe_op op_sub ha hb) (jp_var 2) jp_int od_sub) (jp_var 4) od_sub) (ja_p (jp_var 1) ja_nil))) hB))))))))))))
theorem sc_picture : FnScope ["some", "signs", "place", "spot", "wide", "lines", "y", "x"] ["some"] (defScope s_picture) := ⟨rfl, rfl, rfl, by decide +kernel, rfl, by decide +kernel, by decide +kernel⟩
noncomputable def mb_picture (v_some : (List (Int × Int))) : R (Fl Unit Unit Str) :=
((R.ok ()).bind fun (b297 : Unit) => lt ([] : List ((Int × Int) × Str)) fun v_signs_296 =>
(bindF (forR (fun (x302 : (Int × (Int × Int))) (s300 : (List ((Int × Int) × Str))) =>
(((sgAt (Str.ofString "abcdefghijklmnopqrstuvwxyzABCDEFGHIJKLMN") x302.1).bind fun (b305 : Str) => (R.guard (List.length s300 < sizeLine)).bind fun _ => R.ok b305).bind fun (b305 : Str) =>
(R.ok (.nx (putT s300 x302.2 b305))))) (enumL v_some) v_signs_296) fun n301 =>
((((R.ok ()).bind fun (b307 : Unit) => (R.guard (List.length v_some ≤ sizeLine)).bind fun _ => R.ok b307).bind fun (c313 : Unit) => (R.guard ((List.map (fun (x309 : (Int × Int)) => x309.1) (List.filter (fun (x309 : (Int × Int)) => true) v_some)) ≠ [])).bind fun (z314 : Unit) => R.ok (c313, z314)).bind fun (b319 : (Unit × Unit)) => lt ((maxL (List.map (fun (x309 : (Int × Int)) => x309.1) (List.filter (fun (x309 : (Int × Int)) => true) v_some))) + (1 : Int)) fun v_wide_318 =>
((R.ok ()).bind fun (b321 : Unit) => lt ([] : List Str) fun v_lines_320 =>
(bindF ((((((R.ok ()).bind fun (b323 : Unit) => (R.guard (List.length v_some ≤ sizeLine)).bind fun _ => R.ok b323).bind fun (c329 : Unit) => (R.guard ((List.map (fun (x325 : (Int × Int)) => x325.2) (List.filter (fun (x325 : (Int × Int)) => true) v_some)) ≠ [])).bind fun (z330 : Unit) => R.ok (c329, z330))).bind fun (b332 : (Unit × Unit)) => (R.guard (rngOk (maxL (List.map (fun (x325 : (Int × Int)) => x325.2) (List.filter (fun (x325 : (Int × Int)) => true) v_some))) ∧ rngOk (-(1 : Int)))).bind fun z333 => R.ok b332).bind fun (b334 : (Unit × Unit)) => forR (fun (x337 : Int) (s335 : (List Str)) =>
((((((R.guard (rngOk v_wide_318)).bind fun (b339 : Unit) => (R.guard (List.length (rng 0 v_wide_318) ≤ sizeLine)).bind fun _ => R.ok b339).bind fun (b345 : Unit) => (R.guard ((List.map (fun (z : Str) => Str.length z) (List.map (fun (x341 : Int) => (Option.getD (lookT n301 (x341, x337)) (Str.ofString "."))) (List.filter (fun (x341 : Int) => true) (rng 0 v_wide_318)))).sum + List.length (List.map (fun (x341 : Int) => (Option.getD (lookT n301 (x341, x337)) (Str.ofString "."))) (List.filter (fun (x341 : Int) => true) (rng 0 v_wide_318))) * Str.length (Str.ofString "") ≤ 16777216)).bind fun _ => R.ok b345).bind fun (x346 : Unit) => (R.guard (Str.length (Txt.join (Str.ofString "") (List.map (fun (x341 : Int) => (Option.getD (lookT n301 (x341, x337)) (Str.ofString "."))) (List.filter (fun (x341 : Int) => true) (rng 0 v_wide_318)))) + Str.length (Str.ofString "\n") ≤ sizeLine)).bind fun (z348 : Unit) => R.ok (x346, z348)).bind fun (b338 : (Unit × Unit)) => (R.guard (List.length s335 < sizeLine)).bind fun _ => R.ok b338).bind fun (b349 : (Unit × Unit)) =>
(R.ok (.nx (s335 ++ [((Txt.join (Str.ofString "") (List.map (fun (x341 : Int) => (Option.getD (lookT n301 (x341, x337)) (Str.ofString "."))) (List.filter (fun (x341 : Int) => true) (rng 0 v_wide_318)))) ++ (Str.ofString "\n"))]))))) (dwn (maxL (List.map (fun (x325 : (Int × Int)) => x325.2) (List.filter (fun (x325 : (Int × Int)) => true) v_some))) (-(1 : Int))) v_lines_320) fun n336 =>
(((R.ok ()).bind fun (b350 : Unit) => (R.guard ((List.map (fun (z : Str) => Str.length z) n336).sum + List.length n336 * Str.length (Str.ofString "") ≤ 16777216)).bind fun _ => R.ok b350).bind fun (b353 : Unit) => R.ok (.rt (Txt.join (Str.ofString "") n336))))))))
noncomputable def m_picture (a : (List (Int × Int))) : R Str := fin0 (mb_picture a)
abbrev i_picture (a : (List (Int × Int))) : List Slot := [.val ((eT eK2) a)]
abbrev l_picture (b : Str) : Slot := .val (D.str b)
abbrev o_picture (b : Str) : List Slot := [.non]
theorem ok_picture {P : Program} {w : World} {K : PySem.W.Frag} {mg : Str → Option Value} {base : Heap} (T : Top K mg) : FnG P w K mg base CX0 1 T.picture.a T.picture.d ["some"] (spM K i_picture m_picture l_picture o_picture) := by
  show FnG P w K mg base CX0 (0 + 1) T.picture.a T.picture.d ["some"] (spM K i_picture (fun (a : (List (Int × Int))) => fin0 (mb_picture a)) l_picture o_picture)
  refine fn_ok (n1 := fun _ => []) (c1 := fun _ => []) (k1 := fun _ => []) (ins := i_picture) (sl := l_picture) (outs := o_picture) (fun (a : (List (Int × Int))) => mb_picture a) 7 T.picture.f sc_picture rfl (fun _ => rfl) (fun _ => rfl) (fun _ => rfl) (fun cdv A outer s H E hr B hB a => ?_)
  show JSs _ B _ _ (mb_picture a) _
  unfold mb_picture
  exact ((js_setOQ 1 (odT D.str) (fun (b297 : Unit) => ([] : List ((Int × Int) × Str))) (fun (b297 : Unit) (v_signs_296 : (List ((Int × Int) × Str))) => [.val ((eT eK2) a), .own 0 ((odT D.str) v_signs_296), .non, .non, .non, .non, .non, .non]) sc_picture.nd (je_newT (f := D.str)) fun b297 v_signs_296 =>
(js_cons (ρ1 := fun (n301 : (List ((Int × Int) × Str))) => [.val ((eT eK2) a), .own 0 ((odT D.str) n301), .non, .non, .non, .non, .non, .non]) (js_forP (en := (eP2 D.int eK2)) (fun (s300 : (List ((Int × Int) × Str))) => [.val ((eT eK2) a), .own 0 ((odT D.str) s300), .non, .non, .non, .non, .non, .non]) (fun (x302 : (Int × (Int × Int))) (s300 : (List ((Int × Int) × Str))) => [.val ((eT eK2) a), .own 0 ((odT D.str) s300), .val (D.int x302.1), .val (eK2 x302.2), .non, .non, .non, .non]) PassesOwn.never rfl (ji_enumT (f := eK2) (xs := fun (b298 : Unit) => a) (by rfl) T.z_enumerate (jp_var 0)) [true, true, true, true, true, true, true, true] rfl (fun x302 s300 => (jg_tup rfl (jgs_p (jg_name 2 sc_picture.nd) (jgs_p (jg_name 3 sc_picture.nd) jgs_nil)))) (fun x302 s300 =>
(js_consQ1 (fun (b305 : Str) => [.val ((eT eK2) a), .own 0 ((odT D.str) (putT s300 x302.2 b305)), .val (D.int x302.1), .val (eK2 x302.2), .non, .non, .non, .non]) (j1_dputTE 1 (f := D.str) (v := fun (b305 : Str) => b305) (ρ' := fun (b305 : Str) => [.val ((eT eK2) a), .own 0 ((odT D.str) s300), .val (D.int x302.1), .val (eK2 x302.2), .non, .non, .non, .non]) (kvs := fun (b305 : Str) => s300) (k := fun (b305 : Str) => x302.2) (un64 hr) (je_op (fun _ _ ha hb => pe_ix ix_str ha hb (fun _ _ => rfl)) (jp_gstr T.g_SIGNS) (jp_var 2) od_ixS) (fun _ => rfl) (fun b305 => (jp_var 3))) fun b305 =>
(js_nil [true, true, false, false, true, true, true, true] (putT s300 x302.2 b305))))) fun n301 =>
(js_setEQ 4 D.int (fun (b319 : (Unit × Unit)) => ((maxL (List.map (fun (x309 : (Int × Int)) => x309.1) (List.filter (fun (x309 : (Int × Int)) => true) a))) + (1 : Int))) (fun (b319 : (Unit × Unit)) (v_wide_318 : Int) => [.val ((eT eK2) a), .own 0 ((odT D.str) n301), .non, .non, .val (D.int v_wide_318), .non, .non, .non]) sc_picture.nd (je_opL (ρa := fun _ => _) (s := fun (x315 : (Unit × Unit)) => (.val (D.int ((maxL (List.map (fun (x309 : (Int × Int)) => x309.1) (List.filter (fun (x309 : (Int × Int)) => true) a))) + (1 : Int))))) (xa := fun (x315 : (Unit × Unit)) => D.int (maxL (List.map (fun (x309 : (Int × Int)) => x309.1) (List.filter (fun (x309 : (Int × Int)) => true) a)))) (y := fun (x315 : (Unit × Unit)) => D.int (1 : Int)) (fun _ _ ha hb => pe_op op_add ha hb) (je_cb2 (ρa := fun _ => _) (s := fun (c313 : Unit) (z314 : Unit) => .val (D.int (maxL (List.map (fun (x309 : (Int × Int)) => x309.1) (List.filter (fun (x309 : (Int × Int)) => true) a))))) (fun _ ht => pe_callB (cr_max rfl) (by rfl) T.z_max (by decide +kernel) ht) (ja_el (ρa := fun _ => _) (xa := fun (x312 : Unit) => (eL D.int) (List.map (fun (x309 : (Int × Int)) => x309.1) (List.filter (fun (x309 : (Int × Int)) => true) a))) (je_frzL (v := fun (b311 : Unit) => (List.map (fun (x309 : (Int × Int)) => x309.1) (List.filter (fun (x309 : (Int × Int)) => true) a))) (je_lcP (xs := fun (b307 : Unit) => a) (ea := (eP2 D.int D.int)) (ts := [7, 6]) [("x", 7), ("y", 6)] D.int (fun (x309 : (Int × Int)) => [.val ((eT eK2) a), .own 0 ((odT D.str) n301), .non, .non, .non, .non, .val (D.int x309.2), .val (D.int x309.1)]) (fun (x309 : (Int × Int)) => true) (fun (x309 : (Int × Int)) => x309.1) rfl sc_picture.nd (ji_tup (je_wk (d := fun (b306 : Unit) => (eT eK2) a) (d' := fun (b306 : Unit) => (eT (eP2 D.int D.int)) a) (fun b306 => (fun _ => wk_T (f := eK2) (g := (eP2 D.int D.int)) (fun _ => wk_K2 _) _) (a)) (jp_var 0))) (blkOk_by (N := ["some", "signs", "place", "spot", "wide", "lines", "y", "x"]) (sc := defScope s_picture) (by decide +kernel)) (fun _ _ _ _ _ _ hB310 x309 => (have hB := noRs hB310 hB; (jn_tup rfl (jns_cons (jn_name 7 sc_picture.nd) (jns_cons (jn_name 6 sc_picture.nd) jns_nil))))) (fun _ _ _ _ _ _ hB310 x309 => (have hB := noRs hB310 hB; jts_t)) (fun _ _ _ _ _ _ hB310 x309 => (have hB := noRs hB310 hB; (jp_var 7))))) (fun x312 => ja_nil)) (fun c313 => cb_maxL)) (fun x315 => jp_int) (fun x315 => od_add)) fun b319 v_wide_318 =>
(js_setOQ 5 (oL D.str) (fun (b321 : Unit) => ([] : List Str)) (fun (b321 : Unit) (v_lines_320 : (List Str)) => [.val ((eT eK2) a), .own 0 ((odT D.str) n301), .non, .non, .val (D.int v_wide_318), .own 0 ((oL D.str) v_lines_320), .non, .non]) sc_picture.nd (je_lstT D.str (fun (_ : Unit) => ([] : List Str)) ja_nil) fun b321 v_lines_320 =>
(js_cons (ρ1 := fun (n336 : (List Str)) => [.val ((eT eK2) a), .own 0 ((odT D.str) n301), .non, .non, .val (D.int v_wide_318), .own 0 ((oL D.str) n336), .non, .non]) (js_for (en := D.int) (xs := fun (b334 : (Unit × Unit)) => (dwn (maxL (List.map (fun (x325 : (Int × Int)) => x325.2) (List.filter (fun (x325 : (Int × Int)) => true) a))) (-(1 : Int)))) (s0 := fun (b334 : (Unit × Unit)) => v_lines_320) (fun (s335 : (List Str)) => [.val ((eT eK2) a), .own 0 ((odT D.str) n301), .non, .non, .val (D.int v_wide_318), .own 0 ((oL D.str) s335), .non, .non]) (fun (x337 : Int) (s335 : (List Str)) => [.val ((eT eK2) a), .own 0 ((odT D.str) n301), .non, .non, .val (D.int v_wide_318), .own 0 ((oL D.str) s335), .val (D.int x337), .non]) PassesOwn.never rfl (ji_rngD (fun (b332 : (Unit × Unit)) => (maxL (List.map (fun (x325 : (Int × Int)) => x325.2) (List.filter (fun (x325 : (Int × Int)) => true) a)))) (fun (b332 : (Unit × Unit)) => (-(1 : Int))) T.z_range (ja_el (ρa := fun _ => _) (xa := fun (x331 : (Unit × Unit)) => D.int (maxL (List.map (fun (x325 : (Int × Int)) => x325.2) (List.filter (fun (x325 : (Int × Int)) => true) a)))) (je_cb2 (ρa := fun _ => _) (s := fun (c329 : Unit) (z330 : Unit) => .val (D.int (maxL (List.map (fun (x325 : (Int × Int)) => x325.2) (List.filter (fun (x325 : (Int × Int)) => true) a))))) (fun _ ht => pe_callB (cr_max rfl) (by rfl) T.z_max (by decide +kernel) ht) (ja_el (ρa := fun _ => _) (xa := fun (x328 : Unit) => (eL D.int) (List.map (fun (x325 : (Int × Int)) => x325.2) (List.filter (fun (x325 : (Int × Int)) => true) a))) (je_frzL (v := fun (b327 : Unit) => (List.map (fun (x325 : (Int × Int)) => x325.2) (List.filter (fun (x325 : (Int × Int)) => true) a))) (je_lcP (xs := fun (b323 : Unit) => a) (ea := (eP2 D.int D.int)) (ts := [7, 6]) [("x", 7), ("y", 6)] D.int (fun (x325 : (Int × Int)) => [.val ((eT eK2) a), .own 0 ((odT D.str) n301), .non, .non, .val (D.int v_wide_318), .own 0 ((oL D.str) v_lines_320), .val (D.int x325.2), .val (D.int x325.1)]) (fun (x325 : (Int × Int)) => true) (fun (x325 : (Int × Int)) => x325.2) rfl sc_picture.nd (ji_tup (je_wk (d := fun (b322 : Unit) => (eT eK2) a) (d' := fun (b322 : Unit) => (eT (eP2 D.int D.int)) a) (fun b322 => (fun _ => wk_T (f := eK2) (g := (eP2 D.int D.int)) (fun _ => wk_K2 _) _) (a)) (jp_var 0))) (blkOk_by (N := ["some", "signs", "place", "spot", "wide", "lines", "y", "x"]) (sc := defScope s_picture) (by decide +kernel)) (fun _ _ _ _ _ _ hB326 x325 => (have hB := noRs hB326 hB; (jn_tup rfl (jns_cons (jn_name 7 sc_picture.nd) (jns_cons (jn_name 6 sc_picture.nd) jns_nil))))) (fun _ _ _ _ _ _ hB326 x325 => (have hB := noRs hB326 hB; jts_t)) (fun _ _ _ _ _ _ hB326 x325 => (have hB := noRs hB326 hB; (jp_var 6))))) (fun x328 => ja_nil)) (fun c329 => cb_maxL)) (fun x331 => (ja_p (jp_neg jp_int) (ja_p (jp_neg jp_int) ja_nil))))) [true, true, true, true, true, true, true, true] (fun _ => rfl) (fun x337 s335 => (jg_name 6 sc_picture.nd)) (fun x337 s335 =>
(js_consQ1 (fun (b349 : (Unit × Unit)) => [.val ((eT eK2) a), .own 0 ((odT D.str) n301), .non, .non, .val (D.int v_wide_318), .own 0 ((oL D.str) (s335 ++ [((Txt.join (Str.ofString "") (List.map (fun (x341 : Int) => (Option.getD (lookT n301 (x341, x337)) (Str.ofString "."))) (List.filter (fun (x341 : Int) => true) (rng 0 v_wide_318)))) ++ (Str.ofString "\n"))])), .val (D.int x337), .non]) (j1_expr (je_app 5 (f := D.str) (y := fun (b338 : (Unit × Unit)) => ((Txt.join (Str.ofString "") (List.map (fun (x341 : Int) => (Option.getD (lookT n301 (x341, x337)) (Str.ofString "."))) (List.filter (fun (x341 : Int) => true) (rng 0 v_wide_318)))) ++ (Str.ofString "\n"))) (ρ' := fun (b338 : (Unit × Unit)) => [.val ((eT eK2) a), .own 0 ((odT D.str) n301), .non, .non, .val (D.int v_wide_318), .own 0 ((oL D.str) s335), .val (D.int x337), .non]) (fun (b338 : (Unit × Unit)) => s335) (je_opLG (ρa := fun _ => _) (s := fun (x346 : Unit) (z348 : Unit) => (.val (D.str ((Txt.join (Str.ofString "") (List.map (fun (x341 : Int) => (Option.getD (lookT n301 (x341, x337)) (Str.ofString "."))) (List.filter (fun (x341 : Int) => true) (rng 0 v_wide_318)))) ++ (Str.ofString "\n"))))) (xa := fun (x346 : Unit) => D.str (Txt.join (Str.ofString "") (List.map (fun (x341 : Int) => (Option.getD (lookT n301 (x341, x337)) (Str.ofString "."))) (List.filter (fun (x341 : Int) => true) (rng 0 v_wide_318))))) (y := fun (x346 : Unit) => D.str (Str.ofString "\n")) (fun _ _ ha hb => pe_op op_add_str ha hb) (je_join (ys := fun (b345 : Unit) => (List.map (fun (x341 : Int) => (Option.getD (lookT n301 (x341, x337)) (Str.ofString "."))) (List.filter (fun (x341 : Int) => true) (rng 0 v_wide_318)))) jp_str (je_frzL (v := fun (b344 : Unit) => (List.map (fun (x341 : Int) => (Option.getD (lookT n301 (x341, x337)) (Str.ofString "."))) (List.filter (fun (x341 : Int) => true) (rng 0 v_wide_318)))) (je_lcP (xs := fun (b339 : Unit) => (rng 0 v_wide_318)) (ea := D.int) (ts := [7]) [("x", 7)] D.str (fun (x341 : Int) => [.val ((eT eK2) a), .own 0 ((odT D.str) n301), .non, .non, .val (D.int v_wide_318), .own 0 ((oL D.str) s335), .val (D.int x337), .val (D.int x341)]) (fun (x341 : Int) => true) (fun (x341 : Int) => (Option.getD (lookT n301 (x341, x337)) (Str.ofString "."))) rfl sc_picture.nd (ji_rng1P (i := v_wide_318) T.z_range (ja_p (jp_var 4) ja_nil)) (blkOk_by (N := ["some", "signs", "place", "spot", "wide", "lines", "y", "x"]) (sc := defScope s_picture) (by decide +kernel)) (fun _ _ _ _ _ _ hB342 x341 => (have hB := noRs hB342 hB; (jn_name 7 sc_picture.nd))) (fun _ _ _ _ _ _ hB342 x341 => (have hB := noRs hB342 hB; jts_t)) (fun _ _ _ _ _ _ hB342 x341 => (have hB := noRs hB342 hB; (je_dgetT 1 (f := D.str) (un64 hr) rfl (je_tupK (p := fun (b343 : Unit) => (x341, x337)) (ja_p (jp_var 7) (ja_p (jp_var 6) ja_nil))) (jp_gstr T.g_NONE_HERE))))))) (fun x346 => jp_str) (fun x346 => od_addS)))) fun b349 =>
(js_nil [true, true, true, true, true, true, false, true] (s335 ++ [((Txt.join (Str.ofString "") (List.map (fun (x341 : Int) => (Option.getD (lookT n301 (x341, x337)) (Str.ofString "."))) (List.filter (fun (x341 : Int) => true) (rng 0 v_wide_318)))) ++ (Str.ofString "\n"))]))))) fun n336 =>
(js_one (js_ret (fun (b353 : Unit) => (Txt.join (Str.ofString "") n336)) [false, false, true, true, false, false, true, true] (je_bor 5 (d := (eL D.str) n336) (ρ1 := fun (b351 : Unit) => [.val ((eT eK2) a), .own 0 ((odT D.str) n301), .non, .non, .val (D.int v_wide_318), .val ((eL D.str) n336), .non, .non]) (ρ2 := fun (b351 : Unit) => [.val ((eT eK2) a), .own 0 ((odT D.str) n301), .non, .non, .val (D.int v_wide_318), .non, .non, .non]) (ρ' := fun (b351 : Unit) => [.val ((eT eK2) a), .own 0 ((odT D.str) n301), .non, .non, .val (D.int v_wide_318), .own 0 ((oL D.str) n336), .non, .non]) (sl := fun (b351 : Unit) => .val (D.str (Txt.join (Str.ofString "") n336))) rfl (toD_oL _ _) (fun _ hB352 => (have hB := noRs hB352 hB; (je_join (ys := fun (b350 : Unit) => n336) jp_str (jp_var 5)))) (fun (b351 : Unit) => (.cons .k (.cons (.o (fl_odT fl_str n301)) (.cons .f (.cons .f (.cons .k (.cons .f (.cons .f (.cons .f .nil))))))))) (fun (b351 : Unit) => fl_str (Txt.join (Str.ofString "") n336)) (fun _ => rfl))))))))))
theorem sc_law_is_told : FnScope ["_law_found", "_law_some", "_law_spot", "_law_one"] ["_law_found", "_law_some"] (defScope s_law_is_told) := ⟨rfl, rfl, rfl, by decide +kernel, rfl, by decide +kernel, by decide +kernel⟩
noncomputable def mb_law_is_told (v_found : (List (Int × Int))) (v_some : (List (Int × Int))) : R (Fl Unit Unit Bool) :=
(bindF (if ((!(isTup ((eT eK2) v_found))) || (!decide (v_found = v_some))) = true then (R.ok (.rt false)) else (R.ok (.nx ()))) fun n363 =>
(bindF (forR (fun (x367 : (Int × Int)) (s365 : Unit) =>
(bindF ((or2 (R.ok ()) (fun (b379 : Unit) => (!(isTup (eK2 x367)))) (((R.ok ()).bind fun (b369 : Unit) => (R.guard (List.length [x367.1, x367.2] ≤ sizeLine)).bind fun _ => R.ok b369).bind fun (b378 : Unit) => R.ok (!decide ((List.map (fun (x371 : Int) => x371) (List.filter (fun (x371 : Int) => (!(isInt (D.int x371)))) [x367.1, x367.2])) = ([] : List Int))))).bind fun (b380 : Bool) => if b380 = true then (R.ok (.rt false)) else (R.ok (.nx ()))) fun n381 =>
(bindF (((R.ok ()).bind fun (b383 : Unit) => (R.guard (List.length [x367.1, x367.2] ≤ sizeLine)).bind fun _ => R.ok b383).bind fun (b392 : Unit) => if (!decide ((List.map (fun (x385 : Int) => x385) (List.filter (fun (x385 : Int) => (isBool (D.int x385))) [x367.1, x367.2])) = ([] : List Int))) = true then (R.ok (.rt false)) else (R.ok (.nx ()))) fun n393 =>
(R.ok (.nx ()))))) v_found ()) fun n366 =>
(R.ok (.rt true))))
noncomputable def m_law_is_told (a : ((List (Int × Int)) × (List (Int × Int)))) : R Bool := fin0 (mb_law_is_told a.1 a.2)
abbrev i_law_is_told (a : ((List (Int × Int)) × (List (Int × Int)))) : List Slot := [.val ((eT eK2) a.1), .val ((eT eK2) a.2)]
abbrev l_law_is_told (b : Bool) : Slot := .val (D.bool b)
abbrev o_law_is_told (b : Bool) : List Slot := [.non, .non]
theorem ok_law_is_told {P : Program} {w : World} {K : PySem.W.Frag} {mg : Str → Option Value} {base : Heap} (T : Top K mg) : FnG P w K mg base CX0 1 T.law_is_told.a T.law_is_told.d ["_law_found", "_law_some"] (spM K i_law_is_told m_law_is_told l_law_is_told o_law_is_told) := by
  show FnG P w K mg base CX0 (0 + 1) T.law_is_told.a T.law_is_told.d ["_law_found", "_law_some"] (spM K i_law_is_told (fun (a : ((List (Int × Int)) × (List (Int × Int)))) => fin0 (mb_law_is_told a.1 a.2)) l_law_is_told o_law_is_told)
  refine fn_ok (n1 := fun _ => []) (c1 := fun _ => []) (k1 := fun _ => []) (ins := i_law_is_told) (sl := l_law_is_told) (outs := o_law_is_told) (fun (a : ((List (Int × Int)) × (List (Int × Int)))) => mb_law_is_told a.1 a.2) 2 T.law_is_told.f sc_law_is_told rfl (fun _ => rfl) (fun _ => rfl) (fun _ => rfl) (fun cdv A outer s H E hr B hB a => ?_)
  show JSs _ B _ _ (mb_law_is_told a.1 a.2) _
  unfold mb_law_is_told
  exact ((js_cons (ρ1 := fun (n363 : Unit) => [.val ((eT eK2) a.1), .val ((eT eK2) a.2), .non, .non]) (js_ifP (jt_w (tw_or (jt_not (jt_val (je_isi isi_tuple (jp_var 0) T.z_isinstance T.z_tuple (by decide +kernel)))) (jw_or1 (jt_op (fun _ _ ha hb => pt_cmpR (op_neD (un64 hr)) ha hb (nomark _)) (je_wk (d := fun (b358 : Unit) => (eT eK2) a.1) (d' := fun (b358 : Unit) => (eT (eP2 D.int D.int)) a.1) (fun b358 => (fun _ => wk_T (f := eK2) (g := (eP2 D.int D.int)) (fun _ => wk_K2 _) _) (a.1)) (jp_var 0)) (je_wk (d := fun (b361 : Unit) => (eT eK2) a.2) (d' := fun (b361 : Unit) => (eT (eP2 D.int D.int)) a.2) (fun b361 => (fun _ => wk_T (f := eK2) (g := (eP2 D.int D.int)) (fun _ => wk_K2 _) _) (a.2)) (jp_var 1)) (od_neD (ee_T (ee_p2 ee_int ee_int))))))) (js_one (js_retP false [false, false, true, true] jp_bl)) (js_nil [true, true, true, true] ())) fun n363 =>
(js_cons (ρ1 := fun (n366 : Unit) => [.val ((eT eK2) a.1), .val ((eT eK2) a.2), .non, .non]) (js_forP (en := eK2) (fun (s365 : Unit) => [.val ((eT eK2) a.1), .val ((eT eK2) a.2), .non, .non]) (fun (x367 : (Int × Int)) (s365 : Unit) => [.val ((eT eK2) a.1), .val ((eT eK2) a.2), .val (eK2 x367), .non]) PassesOwn.never rfl (ji_tup (jp_var 0)) [true, true, true, true] rfl (fun x367 s365 => (jg_name 2 sc_law_is_told.nd)) (fun x367 s365 =>
(js_cons (ρ1 := fun (n381 : Unit) => [.val ((eT eK2) a.1), .val ((eT eK2) a.2), .val (eK2 x367), .non]) (js_if (jt_w (jw_or (xa := fun (b379 : Unit) => (!(isTup (eK2 x367)))) (jt_not (jt_val (je_isi isi_tuple (jp_var 2) T.z_isinstance T.z_tuple (by decide +kernel)))) (jw_or1 (jt_map (jt_opL (ρa := fun _ => _) (bn := fun (x374 : Unit) => (!decide ((List.map (fun (x371 : Int) => x371) (List.filter (fun (x371 : Int) => (!(isInt (D.int x371)))) [x367.1, x367.2])) = ([] : List Int)))) (xa := fun (x374 : Unit) => (eL D.int) (List.map (fun (x371 : Int) => x371) (List.filter (fun (x371 : Int) => (!(isInt (D.int x371)))) [x367.1, x367.2]))) (y := fun (x374 : Unit) => (eL D.int) ([] : List Int)) (fun _ _ ha hb => pt_cmpR (op_neD (un64 hr)) ha hb (nomark _)) (je_frzL (v := fun (b373 : Unit) => (List.map (fun (x371 : Int) => x371) (List.filter (fun (x371 : Int) => (!(isInt (D.int x371)))) [x367.1, x367.2]))) (je_lcP (xs := fun (b369 : Unit) => [x367.1, x367.2]) (ea := D.int) (ts := [3]) [("_law_one", 3)] D.int (fun (x371 : Int) => [.val ((eT eK2) a.1), .val ((eT eK2) a.2), .val (eK2 x367), .val (D.int x371)]) (fun (x371 : Int) => (!(isInt (D.int x371)))) (fun (x371 : Int) => x371) rfl sc_law_is_told.nd (ji_tup (show JP _ _ _ _ ((eT D.int) [x367.1, x367.2]) from (je_wk (d := fun (b368 : Unit) => eK2 x367) (d' := fun (b368 : Unit) => (eP2 D.int D.int) x367) (fun b368 => (fun _ => wk_K2 _) (x367)) (jp_var 2)))) (blkOk_by (N := ["_law_found", "_law_some", "_law_spot", "_law_one"]) (sc := defScope s_law_is_told) (by decide +kernel)) (fun _ _ _ _ _ _ hB372 x371 => (have hB := noRs hB372 hB; (jn_name 3 sc_law_is_told.nd))) (fun _ _ _ _ _ _ hB372 x371 => (have hB := noRs hB372 hB; (jts_one (jt_pb (jt_not (jt_val (je_isi isi_int (jp_var 3) T.z_isinstance T.z_int (by decide +kernel)))))))) (fun _ _ _ _ _ _ hB372 x371 => (have hB := noRs hB372 hB; (jp_var 3))))) (fun x374 => (je_frzL (v := fun (b376 : Unit) => ([] : List Int)) (je_lstT D.int (fun (_ : Unit) => ([] : List Int)) ja_nil))) (fun x374 => (od_neD (ee_L ee_int)))))))) (fun b380 => (js_one (js_retP false [false, false, false, true] jp_bl))) (fun b380 => (js_nil [true, true, true, true] ()))) fun n381 =>
(js_cons (ρ1 := fun (n393 : Unit) => [.val ((eT eK2) a.1), .val ((eT eK2) a.2), .val (eK2 x367), .non]) (js_if (jt_opL (ρa := fun _ => _) (bn := fun (x388 : Unit) => (!decide ((List.map (fun (x385 : Int) => x385) (List.filter (fun (x385 : Int) => (isBool (D.int x385))) [x367.1, x367.2])) = ([] : List Int)))) (xa := fun (x388 : Unit) => (eL D.int) (List.map (fun (x385 : Int) => x385) (List.filter (fun (x385 : Int) => (isBool (D.int x385))) [x367.1, x367.2]))) (y := fun (x388 : Unit) => (eL D.int) ([] : List Int)) (fun _ _ ha hb => pt_cmpR (op_neD (un64 hr)) ha hb (nomark _)) (je_frzL (v := fun (b387 : Unit) => (List.map (fun (x385 : Int) => x385) (List.filter (fun (x385 : Int) => (isBool (D.int x385))) [x367.1, x367.2]))) (je_lcP (xs := fun (b383 : Unit) => [x367.1, x367.2]) (ea := D.int) (ts := [3]) [("_law_one", 3)] D.int (fun (x385 : Int) => [.val ((eT eK2) a.1), .val ((eT eK2) a.2), .val (eK2 x367), .val (D.int x385)]) (fun (x385 : Int) => (isBool (D.int x385))) (fun (x385 : Int) => x385) rfl sc_law_is_told.nd (ji_tup (show JP _ _ _ _ ((eT D.int) [x367.1, x367.2]) from (je_wk (d := fun (b382 : Unit) => eK2 x367) (d' := fun (b382 : Unit) => (eP2 D.int D.int) x367) (fun b382 => (fun _ => wk_K2 _) (x367)) (jp_var 2)))) (blkOk_by (N := ["_law_found", "_law_some", "_law_spot", "_law_one"]) (sc := defScope s_law_is_told) (by decide +kernel)) (fun _ _ _ _ _ _ hB386 x385 => (have hB := noRs hB386 hB; (jn_name 3 sc_law_is_told.nd))) (fun _ _ _ _ _ _ hB386 x385 => (have hB := noRs hB386 hB; (jts_one (jt_pb (jt_val (je_isi isi_bool (jp_var 3) T.z_isinstance T.z_bool (by decide +kernel))))))) (fun _ _ _ _ _ _ hB386 x385 => (have hB := noRs hB386 hB; (jp_var 3))))) (fun x388 => (je_frzL (v := fun (b390 : Unit) => ([] : List Int)) (je_lstT D.int (fun (_ : Unit) => ([] : List Int)) ja_nil))) (fun x388 => (od_neD (ee_L ee_int)))) (fun b392 => (js_one (js_retP false [false, false, false, true] jp_bl))) (fun b392 => (js_nil [true, true, true, true] ()))) fun n393 =>
(js_nil [true, true, false, true] ()))))) fun n366 =>
(js_one (js_retP true [false, false, true, true] jp_bl)))))
theorem sc_spots_in : FnScope ["text", "lines", "found", "k", "line", "x", "sign"] ["text"] (defScope s_spots_in) := ⟨rfl, rfl, rfl, by decide +kernel, rfl, by decide +kernel, by decide +kernel⟩
noncomputable def mb_spots_in (v_text : Str) : R (Fl Unit Unit (List (Str × (Int × Int)))) :=
(((R.ok ()).bind fun (b396 : Unit) => (R.guard ((Str.length (Str.ofString "\n") == 0) = false ∧ Str.length v_text + 2 ≤ sizeLine)).bind fun _ => R.ok b396).bind fun (b399 : Unit) => lt (Txt.split v_text (Str.ofString "\n")) fun v_lines_398 =>
((R.ok ()).bind fun (b401 : Unit) => lt ([] : List (Str × (Int × Int))) fun v_found_400 =>
(bindF (forR (fun (x406 : (Int × Str)) (s404 : (List (Str × (Int × Int)))) =>
(bindF (forR (fun (x411 : (Int × Str)) (s409 : (List (Str × (Int × Int)))) =>
(bindF (if (!decide (x411.2 = (Str.ofString "."))) = true then ((R.guard (List.length s409 < sizeLine)).bind fun (b432 : Unit) =>
(R.ok (.nx (putZ s409 x411.2 (x411.1, ((((List.length v_lines_398 : Nat) : Int) - (2 : Int)) - x406.1)))))) else (R.ok (.nx s409))) fun n433 =>
(R.ok (.nx n433)))) (enumL (sgs x406.2)) s404) fun n410 =>
(R.ok (.nx n410)))) (enumL v_lines_398) v_found_400) fun n405 =>
((R.ok ()).bind fun (b435 : Unit) => R.ok (.rt n405)))))
noncomputable def m_spots_in (a : Str) : R (List (Str × (Int × Int))) := fin0 (mb_spots_in a)
abbrev i_spots_in (a : Str) : List Slot := [.val (D.str a)]
abbrev l_spots_in (b : (List (Str × (Int × Int)))) : Slot := .val ((eDZ eK2) b)
abbrev o_spots_in (b : (List (Str × (Int × Int)))) : List Slot := [.non]
theorem ok_spots_in {P : Program} {w : World} {K : PySem.W.Frag} {mg : Str → Option Value} {base : Heap} (T : Top K mg) : FnG P w K mg base CX0 1 T.spots_in.a T.spots_in.d ["text"] (spM K i_spots_in m_spots_in l_spots_in o_spots_in) := by
  show FnG P w K mg base CX0 (0 + 1) T.spots_in.a T.spots_in.d ["text"] (spM K i_spots_in (fun (a : Str) => fin0 (mb_spots_in a)) l_spots_in o_spots_in)
  refine fn_ok (n1 := fun _ => []) (c1 := fun _ => []) (k1 := fun _ => []) (ins := i_spots_in) (sl := l_spots_in) (outs := o_spots_in) (fun (a : Str) => mb_spots_in a) 6 T.spots_in.f sc_spots_in rfl (fun _ => rfl) (fun _ => rfl) (fun _ => rfl) (fun cdv A outer s H E hr B hB a => ?_)
  show JSs _ B _ _ (mb_spots_in a) _
  unfold mb_spots_in
  exact ((js_setEQ 1 (eL D.str) (fun (b399 : Unit) => (Txt.split a (Str.ofString "\n"))) (fun (b399 : Unit) (v_lines_398 : (List Str)) => [.val (D.str a), .val ((eL D.str) v_lines_398), .non, .non, .non, .non, .non]) sc_spots_in.nd (je_split (a := fun (b396 : Unit) => a) (b := Str.ofString "\n") (jp_var 0) (fun g397 => jp_str)) fun b399 v_lines_398 =>
(js_setOQ 2 (odZ eK2) (fun (b401 : Unit) => ([] : List (Str × (Int × Int)))) (fun (b401 : Unit) (v_found_400 : (List (Str × (Int × Int)))) => [.val (D.str a), .val ((eL D.str) v_lines_398), .own 0 ((odZ eK2) v_found_400), .non, .non, .non, .non]) sc_spots_in.nd (je_newZ (f := eK2)) fun b401 v_found_400 =>
(js_cons (ρ1 := fun (n405 : (List (Str × (Int × Int)))) => [.val (D.str a), .val ((eL D.str) v_lines_398), .own 0 ((odZ eK2) n405), .non, .non, .non, .non]) (js_forP (en := (eP2 D.int D.str)) (fun (s404 : (List (Str × (Int × Int)))) => [.val (D.str a), .val ((eL D.str) v_lines_398), .own 0 ((odZ eK2) s404), .non, .non, .non, .non]) (fun (x406 : (Int × Str)) (s404 : (List (Str × (Int × Int)))) => [.val (D.str a), .val ((eL D.str) v_lines_398), .own 0 ((odZ eK2) s404), .val (D.int x406.1), .val (D.str x406.2), .non, .non]) PassesOwn.never rfl (ji_enum (f := D.str) (xs := fun (b402 : Unit) => v_lines_398) (by rfl) T.z_enumerate (jp_var 1)) [true, true, true, true, true, true, true] rfl (fun x406 s404 => (jg_tup rfl (jgs_p (jg_name 3 sc_spots_in.nd) (jgs_p (jg_name 4 sc_spots_in.nd) jgs_nil)))) (fun x406 s404 =>
(js_cons (ρ1 := fun (n410 : (List (Str × (Int × Int)))) => [.val (D.str a), .val ((eL D.str) v_lines_398), .own 0 ((odZ eK2) n410), .val (D.int x406.1), .val (D.str x406.2), .non, .non]) (js_forP (en := (eP2 D.int D.str)) (fun (s409 : (List (Str × (Int × Int)))) => [.val (D.str a), .val ((eL D.str) v_lines_398), .own 0 ((odZ eK2) s409), .val (D.int x406.1), .val (D.str x406.2), .non, .non]) (fun (x411 : (Int × Str)) (s409 : (List (Str × (Int × Int)))) => [.val (D.str a), .val ((eL D.str) v_lines_398), .own 0 ((odZ eK2) s409), .val (D.int x406.1), .val (D.str x406.2), .val (D.int x411.1), .val (D.str x411.2)]) PassesOwn.never rfl (ji_enumZ (z := fun (b407 : Unit) => x406.2) (by rfl) T.z_enumerate (jp_var 4)) [true, true, true, true, true, true, true] rfl (fun x411 s409 => (jg_tup rfl (jgs_p (jg_name 5 sc_spots_in.nd) (jgs_p (jg_name 6 sc_spots_in.nd) jgs_nil)))) (fun x411 s409 =>
(js_cons (ρ1 := fun (n433 : (List (Str × (Int × Int)))) => [.val (D.str a), .val ((eL D.str) v_lines_398), .own 0 ((odZ eK2) n433), .val (D.int x406.1), .val (D.str x406.2), .val (D.int x411.1), .val (D.str x411.2)]) (js_ifP (jt_op (fun _ _ ha hb => pt_cmpR op_ne ha hb (nomark _)) (jp_var 6) (jp_gstr T.g_NONE_HERE) od_neS) (js_consQ1 (fun (b432 : Unit) => [.val (D.str a), .val ((eL D.str) v_lines_398), .own 0 ((odZ eK2) (putZ s409 x411.2 (x411.1, ((((List.length v_lines_398 : Nat) : Int) - (2 : Int)) - x406.1)))), .val (D.int x406.1), .val (D.str x406.2), .val (D.int x411.1), .val (D.str x411.2)]) (j1_dputZ 2 (f := eK2) (un64 hr) rfl (jp_var 6) (je_tupK (p := fun (b431 : Unit) => (x411.1, ((((List.length v_lines_398 : Nat) : Int) - (2 : Int)) - x406.1))) (ja_p (jp_var 5) (ja_p (je_op (fun _ _ ha hb => pe_op op_sub ha hb) (je_op (fun _ _ ha hb => pe_op op_sub ha hb) (je_cb (fun _ ht => pe_callB call_len_seq (by rfl) T.z_len (by decide +kernel) ht) (ja_p (jp_var 1) ja_nil) cb_lenLm) jp_int od_sub) (jp_var 3) od_sub) ja_nil)))) fun b432 =>
(js_nil [true, true, true, true, true, true, true] (putZ s409 x411.2 (x411.1, ((((List.length v_lines_398 : Nat) : Int) - (2 : Int)) - x406.1))))) (js_nil [true, true, true, true, true, true, true] s409)) fun n433 =>
(js_nil [true, true, true, true, true, false, false] n433)))) fun n410 =>
(js_nil [true, true, true, false, false, true, true] n410)))) fun n405 =>
(js_one (js_ret (fun (b435 : Unit) => n405) [false, false, true, true, true, true, true] (je_frzZ (f := eK2) (kvs := fun (b434 : Unit) => n405) (je_nameO 2))))))))
theorem sc_read_picture : FnScope ["text", "spots", "some", "sign", "x", "y"] ["text"] (defScope s_read_picture) := ⟨rfl, rfl, rfl, by decide +kernel, rfl, by decide +kernel, by decide +kernel⟩
noncomputable def mb_read_picture (v_text : Str) : R (Fl Unit Unit (List (Int × Int))) :=
(bindF (if (!(isStr (D.str v_text))) = true then R.bad else (R.ok (.nx ()))) fun n395 =>
((m_spots_in v_text).bind fun (b437 : (List (Str × (Int × Int)))) => lt b437 fun v_spots_436 =>
((((R.ok ()).bind fun (b452 : Unit) => (R.guard (Str.length (Str.ofString "abcdefghijklmnopqrstuvwxyzABCDEFGHIJKLMN") ≤ sizeLine)).bind fun _ => R.ok b452).bind fun (b454 : Unit) => (R.guard (List.length (sgs (cutS (Str.ofString "abcdefghijklmnopqrstuvwxyzABCDEFGHIJKLMN") none (some ((List.length v_spots_436 : Nat) : Int)))) ≤ sizeLine)).bind fun _ => compR (compF (fun (x456 : Str) (s455 : Unit) => R.ok (hasZ x456 v_spots_436)) (fun (z463 : Bool) => z463) (fun (x456 : Str) (s455 : Unit) => ((R.some (lookZ v_spots_436 x456)).bind fun (y462 : (Int × Int)) => R.ok (y462, ()))) Prod.fst Prod.snd) (sgs (cutS (Str.ofString "abcdefghijklmnopqrstuvwxyzABCDEFGHIJKLMN") none (some ((List.length v_spots_436 : Nat) : Int)))) [] ()).bind fun (b470 : ((List (Int × Int)) × Unit)) => lt b470.1 fun v_some_469 =>
(bindF ((or2 (R.ok ()) (fun (b492 : Unit) => (decide (((List.length v_some_469 : Nat) : Int) < (3 : Int)))) (or2 (R.ok ()) (fun (b491 : Unit) => (decide (((List.length v_some_469 : Nat) : Int) < ((List.length v_spots_436 : Nat) : Int)))) ((((R.ok ()).bind fun (b479 : Unit) => (R.guard (List.length v_some_469 ≤ sizeLine)).bind fun _ => R.ok b479).bind fun (c485 : Unit) => (R.guard ((List.map (fun (x481 : (Int × Int)) => x481.1) (List.filter (fun (x481 : (Int × Int)) => true) v_some_469)) ≠ [])).bind fun (z486 : Unit) => R.ok (c485, z486)).bind fun (b490 : (Unit × Unit)) => R.ok (decide ((maxL (List.map (fun (x481 : (Int × Int)) => x481.1) (List.filter (fun (x481 : (Int × Int)) => true) v_some_469))) > (76 : Int)))))).bind fun (b493 : Bool) => if b493 = true then R.bad else (R.ok (.nx ()))) fun n494 =>
(bindF ((or2 (((R.ok ()).bind fun (b497 : Unit) => (R.guard (List.length v_some_469 ≤ sizeLine)).bind fun _ => R.ok b497).bind fun (c503 : Unit) => (R.guard ((List.map (fun (x499 : (Int × Int)) => x499.2) (List.filter (fun (x499 : (Int × Int)) => true) v_some_469)) ≠ [])).bind fun (z504 : Unit) => R.ok (c503, z504)) (fun (b534 : (Unit × Unit)) => (decide ((maxL (List.map (fun (x499 : (Int × Int)) => x499.2) (List.filter (fun (x499 : (Int × Int)) => true) v_some_469))) > (40 : Int)))) (or2 (((R.ok ()).bind fun (b517 : Unit) => (R.guard (List.length v_some_469 ≤ sizeLine)).bind fun _ => R.ok b517).bind fun (c523 : Unit) => (R.guard ((List.map (fun (x519 : (Int × Int)) => x519.2) (List.filter (fun (x519 : (Int × Int)) => true) v_some_469)) ≠ [])).bind fun (z524 : Unit) => R.ok (c523, z524)) (fun (b533 : (Unit × Unit)) => (decide ((minL (List.map (fun (x519 : (Int × Int)) => x519.2) (List.filter (fun (x519 : (Int × Int)) => true) v_some_469))) < (0 : Int)))) ((m_picture v_some_469).bind fun (b532 : Str) => R.ok (!decide (b532 = v_text))))).bind fun (b535 : Bool) => if b535 = true then R.bad else (R.ok (.nx ()))) fun n536 =>
(R.ok (.rt v_some_469)))))))
noncomputable def m_read_picture (a : Str) : R (List (Int × Int)) := fin0 (mb_read_picture a)
abbrev i_read_picture (a : Str) : List Slot := [.val (D.str a)]
abbrev l_read_picture (b : (List (Int × Int))) : Slot := .val ((eT eK2) b)
abbrev o_read_picture (b : (List (Int × Int))) : List Slot := [.non]
theorem ok_read_picture {P : Program} {w : World} {K : PySem.W.Frag} {mg : Str → Option Value} {base : Heap} (T : Top K mg) : FnG P w K mg base CX0 2 T.read_picture.a T.read_picture.d ["text"] (spM K i_read_picture m_read_picture l_read_picture o_read_picture) := by
  show FnG P w K mg base CX0 (1 + 1) T.read_picture.a T.read_picture.d ["text"] (spM K i_read_picture (fun (a : Str) => fin0 (mb_read_picture a)) l_read_picture o_read_picture)
  refine fn_ok (n1 := fun _ => []) (c1 := fun _ => []) (k1 := fun _ => []) (ins := i_read_picture) (sl := l_read_picture) (outs := o_read_picture) (fun (a : Str) => mb_read_picture a) 5 T.read_picture.f sc_read_picture rfl (fun _ => rfl) (fun _ => rfl) (fun _ => rfl) (fun cdv A outer s H E hr B hB a => ?_)
  show JSs _ B _ _ (mb_read_picture a) _
  unfold mb_read_picture
  exact ((js_cons (ρ1 := fun (n395 : Unit) => [.val (D.str a), .non, .non, .non, .non, .non]) (js_ifP (jt_not (jt_val (je_isi isi_str (jp_var 0) T.z_isinstance T.z_str (by decide +kernel)))) (js_one js_never) (js_nil [true, true, true, true, true, true] ())) fun n395 =>
(js_setEQ 1 (eDZ eK2) (fun (b437 : (List (Str × (Int × Int)))) => b437) (fun (b437 : (List (Str × (Int × Int)))) (v_spots_436 : (List (Str × (Int × Int)))) => [.val (D.str a), .val ((eDZ eK2) v_spots_436), .non, .non, .non, .non]) sc_read_picture.nd (je_callV (ins := i_spots_in) (mf := m_spots_in) (sl := l_spots_in) (outs := o_spots_in) (ok_spots_in T) (hr.mono (by decide)) (by rfl) T.spots_in.g T.spots_in.f.kp T.spots_in.b pass0 (arg := a) (ja_p (jp_var 0) ja_nil) hB) fun b437 v_spots_436 =>
(js_setEQ 2 (eR eK2) (fun (b470 : ((List (Int × Int)) × Unit)) => b470.1) (fun (b470 : ((List (Int × Int)) × Unit)) (v_some_469 : (List (Int × Int))) => [.val (D.str a), .val ((eDZ eK2) v_spots_436), .val ((eR eK2) v_some_469), .non, .non, .non]) sc_read_picture.nd (je_cbN (ρa := fun _ => _) (s := fun (c467 : ((List (Int × Int)) × Unit)) => .val ((eR eK2) c467.1)) (fun _ ht => pe_callTy cr_tupF (by rfl) T.z_tuple (by decide +kernel) ht) (ja_el (ρa := fun _ => _) (xa := fun (x466 : ((List (Int × Int)) × Unit)) => (eL eK2) x466.1) (je_frzL (v := fun (b465 : ((List (Int × Int)) × Unit)) => b465.1) (je_lc (xs := fun (b454 : Unit) => (sgs (cutS (Str.ofString "abcdefghijklmnopqrstuvwxyzABCDEFGHIJKLMN") none (some ((List.length v_spots_436 : Nat) : Int))))) (ea := D.str) (ts := [3]) (c := fun (x456 : Str) (s455 : Unit) => R.ok (hasZ x456 v_spots_436)) (bn := fun (z463 : Bool) => z463) (me := fun (x456 : Str) (s455 : Unit) => ((R.some (lookZ v_spots_436 x456)).bind fun (y462 : (Int × Int)) => R.ok (y462, ()))) [("sign", 3)] eK2 (fun (s455 : Unit) => [.val (D.str a), .val ((eDZ eK2) v_spots_436), .non, .non, .non, .non]) (fun (b454 : Unit) => ()) (fun (x456 : Str) (s455 : Unit) => [.val (D.str a), .val ((eDZ eK2) v_spots_436), .non, .val (D.str x456), .non, .non]) Prod.fst Prod.snd rfl sc_read_picture.nd (ji_str (z := fun (b453 : Unit) => (cutS (Str.ofString "abcdefghijklmnopqrstuvwxyzABCDEFGHIJKLMN") none (some ((List.length v_spots_436 : Nat) : Int)))) (je_slZ (z := fun (b452 : Unit) => Str.ofString "abcdefghijklmnopqrstuvwxyzABCDEFGHIJKLMN") (jp_gstr T.g_SIGNS) (fun _ => jo_none) (fun _ => (jo_some (je_cb (fun _ ht => pe_callB cr_lenDr (by rfl) T.z_len (by decide +kernel) ht) (ja_p (jp_var 1) ja_nil) cb_lenDz))))) (blkOk_by (N := ["text", "spots", "some", "sign", "x", "y"]) (sc := defScope s_read_picture) (by decide +kernel)) (fun _ => rfl) (fun _ _ _ _ _ _ hB457 x456 s455 => (have hB := noRs hB457 hB; (jn_name 3 sc_read_picture.nd))) (fun _ _ _ _ _ _ hB457 x456 s455 => (have hB := noRs hB457 hB; (jts_one (jt_pb (jt_op (fun _ _ ha hb => pt_dinO (un64 hr) ha hb (by rfl)) (jp_var 3) (jp_var 1) od_dinZ1))))) (fun _ _ _ _ _ _ hB457 x456 s455 => (have hB := noRs hB457 hB; (je_mapS (en := eK2) (v := fun (y462 : (Int × Int)) => y462) (st := fun (y462 : (Int × Int)) => ()) (ρ' := fun (s464 : Unit) => [.val (D.str a), .val ((eDZ eK2) v_spots_436), .non, .val (D.str x456), .non, .non]) (je_op (fun _ _ ha hb => pe_dgetO (un64 hr) ha hb (fun _ _ => rfl)) (jp_var 1) (jp_var 3) od_dgetZ)))))) (fun x466 => ja_nil)) (fun c467 => cb_tupF)) fun b470 v_some_469 =>
(js_cons (ρ1 := fun (n494 : Unit) => [.val (D.str a), .val ((eDZ eK2) v_spots_436), .val ((eR eK2) v_some_469), .non, .non, .non]) (js_if (jt_w (jw_or (xa := fun (b492 : Unit) => (decide (((List.length v_some_469 : Nat) : Int) < (3 : Int)))) (jt_op (fun _ _ ha hb => pt_cmpR op_lt ha hb (nomark _)) (je_cb (fun _ ht => pe_callB call_len_seq (by rfl) T.z_len (by decide +kernel) ht) (ja_p (je_wk (d := fun (b471 : Unit) => (eR eK2) v_some_469) (d' := fun (b471 : Unit) => (eT eK2) v_some_469) (fun b471 => (fun _ => wk_R _ _) (v_some_469)) (jp_var 2)) ja_nil) cb_lenTm) (jp_gint T.g_LEAST) od_lt) (jw_or (xa := fun (b491 : Unit) => (decide (((List.length v_some_469 : Nat) : Int) < ((List.length v_spots_436 : Nat) : Int)))) (jt_op (fun _ _ ha hb => pt_cmpR op_lt ha hb (nomark _)) (je_cb (fun _ ht => pe_callB call_len_seq (by rfl) T.z_len (by decide +kernel) ht) (ja_p (je_wk (d := fun (b474 : Unit) => (eR eK2) v_some_469) (d' := fun (b474 : Unit) => (eT eK2) v_some_469) (fun b474 => (fun _ => wk_R _ _) (v_some_469)) (jp_var 2)) ja_nil) cb_lenTm) (je_cb (fun _ ht => pe_callB cr_lenDr (by rfl) T.z_len (by decide +kernel) ht) (ja_p (jp_var 1) ja_nil) cb_lenDz) od_lt) (jw_or1 (jt_map (jt_opL (ρa := fun _ => _) (bn := fun (x487 : (Unit × Unit)) => (decide ((maxL (List.map (fun (x481 : (Int × Int)) => x481.1) (List.filter (fun (x481 : (Int × Int)) => true) v_some_469))) > (76 : Int)))) (xa := fun (x487 : (Unit × Unit)) => D.int (maxL (List.map (fun (x481 : (Int × Int)) => x481.1) (List.filter (fun (x481 : (Int × Int)) => true) v_some_469)))) (y := fun (x487 : (Unit × Unit)) => D.int (76 : Int)) (fun _ _ ha hb => pt_cmpR op_gt ha hb (nomark _)) (je_cb2 (ρa := fun _ => _) (s := fun (c485 : Unit) (z486 : Unit) => .val (D.int (maxL (List.map (fun (x481 : (Int × Int)) => x481.1) (List.filter (fun (x481 : (Int × Int)) => true) v_some_469))))) (fun _ ht => pe_callB (cr_max rfl) (by rfl) T.z_max (by decide +kernel) ht) (ja_el (ρa := fun _ => _) (xa := fun (x484 : Unit) => (eL D.int) (List.map (fun (x481 : (Int × Int)) => x481.1) (List.filter (fun (x481 : (Int × Int)) => true) v_some_469))) (je_frzL (v := fun (b483 : Unit) => (List.map (fun (x481 : (Int × Int)) => x481.1) (List.filter (fun (x481 : (Int × Int)) => true) v_some_469))) (je_lcP (xs := fun (b479 : Unit) => v_some_469) (ea := (eP2 D.int D.int)) (ts := [4, 5]) [("x", 4), ("y", 5)] D.int (fun (x481 : (Int × Int)) => [.val (D.str a), .val ((eDZ eK2) v_spots_436), .val ((eR eK2) v_some_469), .non, .val (D.int x481.1), .val (D.int x481.2)]) (fun (x481 : (Int × Int)) => true) (fun (x481 : (Int × Int)) => x481.1) rfl sc_read_picture.nd (ji_tup (je_wk (d := fun (b478 : Unit) => (eT eK2) v_some_469) (d' := fun (b478 : Unit) => (eT (eP2 D.int D.int)) v_some_469) (fun b478 => (fun _ => wk_T (f := eK2) (g := (eP2 D.int D.int)) (fun _ => wk_K2 _) _) (v_some_469)) (je_wk (d := fun (b477 : Unit) => (eR eK2) v_some_469) (d' := fun (b477 : Unit) => (eT eK2) v_some_469) (fun b477 => (fun _ => wk_R _ _) (v_some_469)) (jp_var 2)))) (blkOk_by (N := ["text", "spots", "some", "sign", "x", "y"]) (sc := defScope s_read_picture) (by decide +kernel)) (fun _ _ _ _ _ _ hB482 x481 => (have hB := noRs hB482 hB; (jn_tup rfl (jns_cons (jn_name 4 sc_read_picture.nd) (jns_cons (jn_name 5 sc_read_picture.nd) jns_nil))))) (fun _ _ _ _ _ _ hB482 x481 => (have hB := noRs hB482 hB; jts_t)) (fun _ _ _ _ _ _ hB482 x481 => (have hB := noRs hB482 hB; (jp_var 4))))) (fun x484 => ja_nil)) (fun c485 => cb_maxL)) (fun x487 => (jp_gint T.g_MOST_X)) (fun x487 => od_gt))))))) (fun b493 => (js_one js_never)) (fun b493 => (js_nil [true, true, true, true, true, true] ()))) fun n494 =>
(js_cons (ρ1 := fun (n536 : Unit) => [.val (D.str a), .val ((eDZ eK2) v_spots_436), .val ((eR eK2) v_some_469), .non, .non, .non]) (js_if (jt_w (jw_or (xa := fun (b534 : (Unit × Unit)) => (decide ((maxL (List.map (fun (x499 : (Int × Int)) => x499.2) (List.filter (fun (x499 : (Int × Int)) => true) v_some_469))) > (40 : Int)))) (jt_opL (ρa := fun _ => _) (bn := fun (x505 : (Unit × Unit)) => (decide ((maxL (List.map (fun (x499 : (Int × Int)) => x499.2) (List.filter (fun (x499 : (Int × Int)) => true) v_some_469))) > (40 : Int)))) (xa := fun (x505 : (Unit × Unit)) => D.int (maxL (List.map (fun (x499 : (Int × Int)) => x499.2) (List.filter (fun (x499 : (Int × Int)) => true) v_some_469)))) (y := fun (x505 : (Unit × Unit)) => D.int (40 : Int)) (fun _ _ ha hb => pt_cmpR op_gt ha hb (nomark _)) (je_cb2 (ρa := fun _ => _) (s := fun (c503 : Unit) (z504 : Unit) => .val (D.int (maxL (List.map (fun (x499 : (Int × Int)) => x499.2) (List.filter (fun (x499 : (Int × Int)) => true) v_some_469))))) (fun _ ht => pe_callB (cr_max rfl) (by rfl) T.z_max (by decide +kernel) ht) (ja_el (ρa := fun _ => _) (xa := fun (x502 : Unit) => (eL D.int) (List.map (fun (x499 : (Int × Int)) => x499.2) (List.filter (fun (x499 : (Int × Int)) => true) v_some_469))) (je_frzL (v := fun (b501 : Unit) => (List.map (fun (x499 : (Int × Int)) => x499.2) (List.filter (fun (x499 : (Int × Int)) => true) v_some_469))) (je_lcP (xs := fun (b497 : Unit) => v_some_469) (ea := (eP2 D.int D.int)) (ts := [4, 5]) [("x", 4), ("y", 5)] D.int (fun (x499 : (Int × Int)) => [.val (D.str a), .val ((eDZ eK2) v_spots_436), .val ((eR eK2) v_some_469), .non, .val (D.int x499.1), .val (D.int x499.2)]) (fun (x499 : (Int × Int)) => true) (fun (x499 : (Int × Int)) => x499.2) rfl sc_read_picture.nd (ji_tup (je_wk (d := fun (b496 : Unit) => (eT eK2) v_some_469) (d' := fun (b496 : Unit) => (eT (eP2 D.int D.int)) v_some_469) (fun b496 => (fun _ => wk_T (f := eK2) (g := (eP2 D.int D.int)) (fun _ => wk_K2 _) _) (v_some_469)) (je_wk (d := fun (b495 : Unit) => (eR eK2) v_some_469) (d' := fun (b495 : Unit) => (eT eK2) v_some_469) (fun b495 => (fun _ => wk_R _ _) (v_some_469)) (jp_var 2)))) (blkOk_by (N := ["text", "spots", "some", "sign", "x", "y"]) (sc := defScope s_read_picture) (by decide +kernel)) (fun _ _ _ _ _ _ hB500 x499 => (have hB := noRs hB500 hB; (jn_tup rfl (jns_cons (jn_name 4 sc_read_picture.nd) (jns_cons (jn_name 5 sc_read_picture.nd) jns_nil))))) (fun _ _ _ _ _ _ hB500 x499 => (have hB := noRs hB500 hB; jts_t)) (fun _ _ _ _ _ _ hB500 x499 => (have hB := noRs hB500 hB; (jp_var 5))))) (fun x502 => ja_nil)) (fun c503 => cb_maxL)) (fun x505 => (jp_gint T.g_MOST_Y)) (fun x505 => od_gt)) (jw_or (xa := fun (b533 : (Unit × Unit)) => (decide ((minL (List.map (fun (x519 : (Int × Int)) => x519.2) (List.filter (fun (x519 : (Int × Int)) => true) v_some_469))) < (0 : Int)))) (jt_opL (ρa := fun _ => _) (bn := fun (x525 : (Unit × Unit)) => (decide ((minL (List.map (fun (x519 : (Int × Int)) => x519.2) (List.filter (fun (x519 : (Int × Int)) => true) v_some_469))) < (0 : Int)))) (xa := fun (x525 : (Unit × Unit)) => D.int (minL (List.map (fun (x519 : (Int × Int)) => x519.2) (List.filter (fun (x519 : (Int × Int)) => true) v_some_469)))) (y := fun (x525 : (Unit × Unit)) => D.int (0 : Int)) (fun _ _ ha hb => pt_cmpR op_lt ha hb (nomark _)) (je_cb2 (ρa := fun _ => _) (s := fun (c523 : Unit) (z524 : Unit) => .val (D.int (minL (List.map (fun (x519 : (Int × Int)) => x519.2) (List.filter (fun (x519 : (Int × Int)) => true) v_some_469))))) (fun _ ht => pe_callB (cr_min rfl) (by rfl) T.z_min (by decide +kernel) ht) (ja_el (ρa := fun _ => _) (xa := fun (x522 : Unit) => (eL D.int) (List.map (fun (x519 : (Int × Int)) => x519.2) (List.filter (fun (x519 : (Int × Int)) => true) v_some_469))) (je_frzL (v := fun (b521 : Unit) => (List.map (fun (x519 : (Int × Int)) => x519.2) (List.filter (fun (x519 : (Int × Int)) => true) v_some_469))) (je_lcP (xs := fun (b517 : Unit) => v_some_469) (ea := (eP2 D.int D.int)) (ts := [4, 5]) [("x", 4), ("y", 5)] D.int (fun (x519 : (Int × Int)) => [.val (D.str a), .val ((eDZ eK2) v_spots_436), .val ((eR eK2) v_some_469), .non, .val (D.int x519.1), .val (D.int x519.2)]) (fun (x519 : (Int × Int)) => true) (fun (x519 : (Int × Int)) => x519.2) rfl sc_read_picture.nd (ji_tup (je_wk (d := fun (b516 : Unit) => (eT eK2) v_some_469) (d' := fun (b516 : Unit) => (eT (eP2 D.int D.int)) v_some_469) (fun b516 => (fun _ => wk_T (f := eK2) (g := (eP2 D.int D.int)) (fun _ => wk_K2 _) _) (v_some_469)) (je_wk (d := fun (b515 : Unit) => (eR eK2) v_some_469) (d' := fun (b515 : Unit) => (eT eK2) v_some_469) (fun b515 => (fun _ => wk_R _ _) (v_some_469)) (jp_var 2)))) (blkOk_by (N := ["text", "spots", "some", "sign", "x", "y"]) (sc := defScope s_read_picture) (by decide +kernel)) (fun _ _ _ _ _ _ hB520 x519 => (have hB := noRs hB520 hB; (jn_tup rfl (jns_cons (jn_name 4 sc_read_picture.nd) (jns_cons (jn_name 5 sc_read_picture.nd) jns_nil))))) (fun _ _ _ _ _ _ hB520 x519 => (have hB := noRs hB520 hB; jts_t)) (fun _ _ _ _ _ _ hB520 x519 => (have hB := noRs hB520 hB; (jp_var 5))))) (fun x522 => ja_nil)) (fun c523 => cb_minL)) (fun x525 => jp_int) (fun x525 => od_lt)) (jw_or1 (jt_map (jt_opL (ρa := fun _ => _) (bn := fun (x529 : Str) => (!decide (x529 = a))) (xa := fun (x529 : Str) => D.str x529) (y := fun (x529 : Str) => D.str a) (fun _ _ ha hb => pt_cmpR op_ne ha hb (nomark _)) (je_callV (ins := i_picture) (mf := m_picture) (sl := l_picture) (outs := o_picture) (ok_picture T) (hr.mono (by decide)) (by rfl) T.picture.g T.picture.f.kp T.picture.b pass0 (arg := v_some_469) (ja_p (je_wk (d := fun (b528 : Unit) => (eR eK2) v_some_469) (d' := fun (b528 : Unit) => (eT eK2) v_some_469) (fun b528 => (fun _ => wk_R _ _) (v_some_469)) (jp_var 2)) ja_nil) hB) (fun x529 => (jp_var 0)) (fun x529 => od_neS))))))) (fun b535 => (js_one js_never)) (fun b535 => (js_nil [true, true, true, true, true, true] ()))) fun n536 =>
(js_one (js_retP v_some_469 [false, false, false, true, true, true] (je_wk (d := fun (b537 : Unit) => (eR eK2) v_some_469) (d' := fun (b537 : Unit) => (eT eK2) v_some_469) (fun b537 => (fun _ => wk_R _ _) (v_some_469)) (jp_var 2))))))))))
theorem sc_law : FnScope ["_law_script", "_law_k", "_law_some", "_law_due", "_law_text_here"] ["_law_script"] (defScope s_law) := ⟨rfl, rfl, rfl, by decide +kernel, rfl, by decide +kernel, by decide +kernel⟩
noncomputable def mb_law (v_script : List Int) : R (Fl Unit Unit Bool) :=
(bindF ((R.guard (rngOk (max (1 : Int) (min (8 : Int) ((List.length v_script : Nat) : Int))))).bind fun (b1 : Unit) => forR (fun (x4 : Int) (s2 : Unit) =>
(((m_law_pot (v_script, x4)).bind fun (c194 : (List Int)) => (m_law_spots c194).bind fun (z195 : ((List (Int × Int)) × (List Int))) => R.ok (c194, z195)).bind fun (b198 : ((List Int) × ((List (Int × Int)) × (List Int)))) => lt b198.2.1 fun v_some_197 =>
((m_law_text v_some_197).bind fun (b295 : Str) => lt b295 fun v_due_294 =>
((m_picture v_some_197).bind fun (b355 : Str) => lt b355 fun v_text_here_354 =>
(bindF ((or2 (R.ok ()) (fun (b543 : Unit) => (!(isStr (D.str v_text_here_354)))) (or2 (R.ok ()) (fun (b542 : Unit) => (!decide (v_text_here_354 = v_due_294))) (((m_read_picture v_due_294).bind fun (c539 : (List (Int × Int))) => (m_law_is_told (c539, v_some_197)).bind fun (z540 : Bool) => R.ok (c539, z540)).bind fun (b541 : ((List (Int × Int)) × Bool)) => R.ok (!b541.2)))).bind fun (b544 : Bool) => if b544 = true then (R.ok (.rt false)) else (R.ok (.nx ()))) fun n545 =>
(R.ok (.nx ()))))))) (rng 0 (max (1 : Int) (min (8 : Int) ((List.length v_script : Nat) : Int)))) ()) fun n3 =>
(R.ok (.rt true)))
noncomputable def m_law (a : List Int) : R Bool := fin0 (mb_law a)
abbrev i_law (a : List Int) : List Slot := [.val (D.scr a)]
abbrev l_law (b : Bool) : Slot := .val (D.bool b)
abbrev o_law (b : Bool) : List Slot := [.non]
theorem ok_law {P : Program} {w : World} {K : PySem.W.Frag} {mg : Str → Option Value} {base : Heap} (T : Top K mg) : FnG P w K mg base CX0 3 T.law.a T.law.d ["_law_script"] (spM K i_law m_law l_law o_law) := by
  show FnG P w K mg base CX0 (2 + 1) T.law.a T.law.d ["_law_script"] (spM K i_law (fun (a : List Int) => fin0 (mb_law a)) l_law o_law)
  refine fn_ok (n1 := fun _ => []) (c1 := fun _ => []) (k1 := fun _ => []) (ins := i_law) (sl := l_law) (outs := o_law) (fun (a : List Int) => mb_law a) 4 T.law.f sc_law rfl (fun _ => rfl) (fun _ => rfl) (fun _ => rfl) (fun cdv A outer s H E hr B hB a => ?_)
  show JSs _ B _ _ (mb_law a) _
  unfold mb_law
  exact ((js_cons (ρ1 := fun (n3 : Unit) => [.val (D.scr a), .non, .non, .non, .non]) (js_for (en := D.int) (xs := fun (b1 : Unit) => (rng 0 (max (1 : Int) (min (8 : Int) ((List.length a : Nat) : Int))))) (s0 := fun (b1 : Unit) => ()) (fun (s2 : Unit) => [.val (D.scr a), .non, .non, .non, .non]) (fun (x4 : Int) (s2 : Unit) => [.val (D.scr a), .val (D.int x4), .non, .non, .non]) PassesOwn.never rfl (ji_rng1P (i := (max (1 : Int) (min (8 : Int) ((List.length a : Nat) : Int)))) T.z_range (ja_p (je_cb (fun _ ht => pe_callB (call_max2 rfl) (by rfl) T.z_max (by decide +kernel) ht) (ja_p jp_int (ja_p (je_cb (fun _ ht => pe_callB (call_min2 rfl) (by rfl) T.z_min (by decide +kernel) ht) (ja_p jp_int (ja_p (je_cb (fun _ ht => pe_callB call_len_seq (by rfl) T.z_len (by decide +kernel) ht) (ja_p (jp_var 0) ja_nil) cb_lenS) ja_nil)) cb_min) ja_nil)) cb_max) ja_nil)) [true, true, true, true, true] (fun _ => rfl) (fun x4 s2 => (jg_name 1 sc_law.nd)) (fun x4 s2 =>
(js_setEQ 2 (eT eK2) (fun (b198 : ((List Int) × ((List (Int × Int)) × (List Int)))) => b198.2.1) (fun (b198 : ((List Int) × ((List (Int × Int)) × (List Int)))) (v_some_197 : (List (Int × Int))) => [.val (D.scr a), .val (D.int x4), .val ((eT eK2) v_some_197), .non, .non]) sc_law.nd (je_callT (ρa := fun _ => _) (ins := i_law_spots) (mf := m_law_spots) (sl := l_law_spots) (outs := o_law_spots) (ok_law_spots T) (hr.mono (by decide)) (by rfl) T.law_spots.g T.law_spots.f.kp T.law_spots.b pass0 (o := fun (c194 : (List Int)) => (oL D.int) c194) (arg := fun (c194 : (List Int)) => c194) (je_callV (ins := i_law_pot) (mf := m_law_pot) (sl := l_law_pot) (outs := o_law_pot) (ok_law_pot T) (hr.mono (by decide)) (by rfl) T.law_pot.g T.law_pot.f.kp T.law_pot.b pass0 (arg := (a, x4)) (ja_p (jp_var 0) (ja_p (jp_var 1) ja_nil)) hB) (fun _ hB196 c194 => (have hB := noRs hB196 hB; ja_nil)) hB) fun b198 v_some_197 =>
(js_setEQ 3 D.str (fun (b295 : Str) => b295) (fun (b295 : Str) (v_due_294 : Str) => [.val (D.scr a), .val (D.int x4), .val ((eT eK2) v_some_197), .val (D.str v_due_294), .non]) sc_law.nd (je_callV (ins := i_law_text) (mf := m_law_text) (sl := l_law_text) (outs := o_law_text) (ok_law_text T) (hr.mono (by decide)) (by rfl) T.law_text.g T.law_text.f.kp T.law_text.b pass0 (arg := v_some_197) (ja_p (jp_var 2) ja_nil) hB) fun b295 v_due_294 =>
(js_setEQ 4 D.str (fun (b355 : Str) => b355) (fun (b355 : Str) (v_text_here_354 : Str) => [.val (D.scr a), .val (D.int x4), .val ((eT eK2) v_some_197), .val (D.str v_due_294), .val (D.str v_text_here_354)]) sc_law.nd (je_callV (ins := i_picture) (mf := m_picture) (sl := l_picture) (outs := o_picture) (ok_picture T) (hr.mono (by decide)) (by rfl) T.picture.g T.picture.f.kp T.picture.b pass0 (arg := v_some_197) (ja_p (jp_var 2) ja_nil) hB) fun b355 v_text_here_354 =>
(js_cons (ρ1 := fun (n545 : Unit) => [.val (D.scr a), .val (D.int x4), .val ((eT eK2) v_some_197), .val (D.str v_due_294), .val (D.str v_text_here_354)]) (js_if (jt_w (jw_or (xa := fun (b543 : Unit) => (!(isStr (D.str v_text_here_354)))) (jt_not (jt_val (je_isi isi_str (jp_var 4) T.z_isinstance T.z_str (by decide +kernel)))) (jw_or (xa := fun (b542 : Unit) => (!decide (v_text_here_354 = v_due_294))) (jt_op (fun _ _ ha hb => pt_cmpR op_ne ha hb (nomark _)) (jp_var 4) (jp_var 3) od_neS) (jw_or1 (jt_map (jt_not (jt_val (je_callVE (ρa := fun _ => _) (ins := i_law_is_told) (mf := m_law_is_told) (sl := l_law_is_told) (outs := o_law_is_told) (ok_law_is_told T) (hr.mono (by decide)) (by rfl) T.law_is_told.g T.law_is_told.f.kp T.law_is_told.b pass0 (arg := fun (c539 : (List (Int × Int))) => (c539, v_some_197)) (ja_el (ρa := fun _ => _) (xa := fun (x538 : (List (Int × Int))) => (eT eK2) x538) (je_callV (ins := i_read_picture) (mf := m_read_picture) (sl := l_read_picture) (outs := o_read_picture) (ok_read_picture T) (hr.mono (by decide)) (by rfl) T.read_picture.g T.read_picture.f.kp T.read_picture.b pass0 (arg := v_due_294) (ja_p (jp_var 3) ja_nil) hB) (fun x538 => (ja_p (jp_var 2) ja_nil))) hB)))))))) (fun b544 => (js_one (js_retP false [false, false, false, false, false] jp_bl))) (fun b544 => (js_nil [true, true, true, true, true] ()))) fun n545 =>
(js_nil [true, false, false, false, false] ()))))))) fun n3 =>
(js_one (js_retP true [false, true, true, true, true] jp_bl))))
theorem digit_ok (a b many : Int) (h : 0 < many) (h2 : many < 2 ^ 8000) : ∃ r a' b', m_law_digit ([a, b], many) = .ok (r, [a', b']) ∧ 0 ≤ r ∧ r < many := by
  unfold m_law_digit mb_law_digit
  have e0 : atI [a, b] (0 : Int) = some a := rfl
  have e1 : atI [a, b] (1 : Int) = some b := rfl
  have i0 : ixN (List.length [a, b]) (0 : Int) = some 0 := rfl
  have i1 : ixN (List.length [a, b]) (1 : Int) = some 1 := rfl
  simp only [e0, e1, i0, i1, some_ok, bind_ok, List.set_cons_succ, List.set_cons_zero]
  by_cases ha : a > 0
  · rw [guard_ok (divp_ok' h h2)]
    refine ⟨a % many, a / many, b, ?_, Int.emod_nonneg _ (by omega), Int.emod_lt_of_pos _ h⟩
    simp only [ha, decide_true, if_true, bind_ok, bindF_rt, fin0_rt]
    rfl
  · generalize hc : (b * 48271 + 39373) % 2147483647 = c
    have c0 : 0 ≤ c := by omega
    have c1 : c < 2147483647 := by omega
    have e2 : atI [a, c] (1 : Int) = some c := rfl
    have hm : CMulX c c := mulx 31 (by omega) (by omega)
    simp only [ha, decide_false, Bool.false_eq_true, if_false, bindF_nx, e2, some_ok, op2_ok, bind_ok, guard_ok hm, guard_ok (show many ≠ 0 by omega)]
    refine ⟨_, a, c, rfl, ?_, ?_⟩
    · rw [Int.fmod_eq_emod_of_nonneg _ (by omega)]
      exact Int.emod_nonneg _ (by omega)
    · rw [Int.fmod_eq_emod_of_nonneg _ (by omega)]
      exact Int.emod_lt_of_pos _ h
theorem pot_ok (ns : List Int) (k : Int) (h0 : 0 ≤ k) : ∃ a b, m_law_pot (ns, k) = .ok [a, b] := by
  unfold m_law_pot mb_law_pot
  obtain ⟨c, h1, h2⟩ := cell_ok ns k h0
  rw [guard_ok (line_ok (by simp only [List.length_cons, List.length_nil]; omega))]
  simp only [h1, some_ok, bind_ok, lt_eq, fin0_rt]
  exact ⟨_, _, rfl⟩
def Pot (l : List Int) : Prop := ∃ a b, l = [a, b]
theorem digit {l : List Int} {many : Int} (hp : Pot l) (h : 0 < many) (h2 : many < 2 ^ 8000) : Ok (m_law_digit (l, many)) fun p => 0 ≤ p.1 ∧ p.1 < many ∧ Pot p.2 := by
  obtain ⟨a, b, rfl⟩ := hp
  obtain ⟨r, a', b', e, h3, h4⟩ := digit_ok a b many h h2
  exact ⟨_, e, h3, h4, a', b', rfl⟩
theorem pot (ns : List Int) {k : Int} (h0 : 0 ≤ k) : Ok (m_law_pot (ns, k)) Pot := by
  obtain ⟨a, b, e⟩ := pot_ok ns k h0
  exact ⟨_, e, a, b, rfl⟩
theorem small8000 {k : Int} (h : k < 1000000000000) : k < 2 ^ 8000 := Int.lt_of_lt_of_le h (by decide +kernel)
theorem rng62 {k : Int} (h : -1000000 ≤ k) (h2 : k < 1000000000000) : rngOk k := ⟨by omega, by omega⟩
theorem sizeB {n : Nat} (h : n ≤ 100000) : n < sizeLine := Nat.lt_of_le_of_lt h (by decide)
theorem rng_mem {lo hi x : Int} : x ∈ rng lo hi ↔ lo ≤ x ∧ x < hi := by
  constructor
  · intro h
    obtain ⟨i, hi⟩ := List.mem_iff_getElem?.mp h
    obtain ⟨h1, h2⟩ := rng_get hi
    omega
  · rintro ⟨h1, h2⟩
    unfold rng
    rw [List.mem_map]
    exact ⟨(x - lo).toNat, List.mem_range.mpr (by omega), by omega⟩
theorem rng_nodup (lo hi : Int) : (rng lo hi).Nodup := by
  unfold rng
  rw [List.Nodup, List.pairwise_map]
  exact List.nodup_range.imp fun h e => h (by omega)
theorem pw (a b : Nat) (h : a ≤ b) {x : Nat} (hx : x < 2 ^ a) : x < 2 ^ b := Nat.lt_of_lt_of_le hx (Nat.pow_le_pow_right (by decide) h)
theorem str_eq {s t : PySem.Str} : s = t ↔ s.cps.toList = t.cps.toList := ⟨fun h => by rw [h], TL.ext_tl⟩
theorem cps_e : (PySem.Str.ofString "").cps.toList = [] := by decide +kernel
theorem ofs_e : PySem.Str.ofString "" = SX.S [] := str_eq.mpr cps_e
theorem ofs_n : PySem.Str.ofString "\n" = SX.S [10] := str_eq.mpr (by decide +kernel)
theorem joinE (ys : List (List Nat)) : Txt.join (PySem.Str.ofString "") (ys.map SX.S) = SX.S ys.flatten := by
  rw [ofs_e, SX.join_S]
  congr 1
  have go : ∀ ys : List (List Nat), TL.joinL [] ys = ys.flatten := fun ys => by
    induction ys with
    | nil => rfl
    | cons p ys ih =>
      cases ys with
      | nil => simp [TL.joinL]
      | cons q r =>
        show p ++ ([] ++ TL.joinL [] (q :: r)) = _
        rw [ih, List.nil_append, List.flatten_cons (l := p)]
  rw [go]
theorem lookT_put {β : Type} {d : List ((Int × Int) × β)} {k j : Int × Int} {v : β} : lookT (putT d k v) j = if k = j then some v else lookT d j := by
  unfold putT
  by_cases hk : hasT k d = true
  · rw [if_pos hk]
    unfold hasT at hk
    unfold lookT
    induction d with
    | nil => exact nomatch hk
    | cons p d ih =>
      rw [List.map_cons, List.find?_cons, List.find?_cons]
      by_cases e : p.1 = k
      · rw [if_pos e]
        by_cases ej : k = j
        · rw [if_pos ej]
          have : decide (p.1 = j) = true := decide_eq_true (e.trans ej)
          rw [show decide ((p.1, v).1 = j) = true from this]
          rfl
        · rw [if_neg ej]
          have h1 : decide (p.1 = j) = false := decide_eq_false fun z => ej (e.symm.trans z)
          rw [h1]
          dsimp only
          by_cases hd : (d.any fun q => decide (q.1 = k)) = true
          · have := ih hd
            rw [if_neg ej] at this
            exact this
          · have nm : d.map (fun q => if q.1 = k then (q.1, v) else q) = d := by
              conv => rhs; rw [← List.map_id d]
              refine List.map_congr_left fun q hq => ?_
              have : ¬ q.1 = k := fun z => hd (List.any_eq_true.mpr ⟨q, hq, decide_eq_true z⟩)
              rw [if_neg this]
              rfl
            rw [nm]
      · rw [if_neg e]
        have hd : (d.any fun q => decide (q.1 = k)) = true := by
          rw [List.any_cons, Bool.or_eq_true] at hk
          exact hk.resolve_left fun z => e (of_decide_eq_true z)
        have := ih hd
        by_cases ej : p.1 = j
        · rw [decide_eq_true ej]
          rw [if_neg (fun z => e (ej.trans z.symm))]
        · rw [decide_eq_false ej]
          exact this
  · rw [if_neg hk]
    unfold lookT
    rw [List.find?_append]
    by_cases ej : k = j
    · subst ej
      rw [if_pos rfl]
      have : (d.find? fun p => decide (p.1 = k)) = none := by
        rw [List.find?_eq_none]
        intro x hx z
        exact hk (List.any_eq_true.mpr ⟨x, hx, z⟩)
      rw [this]
      simp
    · rw [if_neg ej]
      have : (List.find? (fun p => decide (p.1 = j)) [(k, v)]) = none := by simp [ej]
      rw [this, Option.or_none]
theorem comp_eq {α γ : Type} {m : α → R γ} {f : α → γ} {xs : List α} (h : ∀ x ∈ xs, m x = .ok (f x)) : compR (compF (fun (x : α) (s : Unit) => R.ok ()) (fun (_ : Unit) => true) (fun (x : α) (s : Unit) => (m x).bind fun (y : γ) => R.ok (y, ())) Prod.fst Prod.snd) xs [] () = .ok (xs.map f, ()) := by
  have go : ∀ (xs : List α) (acc : List γ), (∀ x ∈ xs, m x = .ok (f x)) → compR (compF (fun (x : α) (s : Unit) => R.ok ()) (fun (_ : Unit) => true) (fun (x : α) (s : Unit) => (m x).bind fun (y : γ) => R.ok (y, ())) Prod.fst Prod.snd) xs acc () = .ok (acc ++ xs.map f, ()) := by
    intro xs
    induction xs with
    | nil => intro acc _; rw [compR, List.map_nil, List.append_nil]
    | cons x xs ih =>
      intro acc h
      have e := h x List.mem_cons_self
      rw [compR, compF]
      simp only [bind_ok, if_true, e]
      rw [ih _ fun y m => h y (List.mem_cons_of_mem _ m), List.map_cons, List.append_assoc]
      rfl
  have := go xs [] h
  rwa [List.nil_append] at this
theorem comp_fany {α β γ : Type} {m : α → R β} {k : β → γ} {f : α → γ} {P : α → Bool} {xs : List α} (h : ∀ x ∈ xs, P x = true → ∃ y, m x = .ok y ∧ k y = f x) : compR (compF (fun (x : α) (s : Unit) => R.ok (P x)) (fun (z : Bool) => z) (fun (x : α) (s : Unit) => (m x).bind fun (y : β) => R.ok (k y, ())) Prod.fst Prod.snd) xs [] () = .ok ((xs.filter P).map f, ()) := by
  have go : ∀ (ys : List α) (acc : List γ), (∀ x ∈ ys, P x = true → ∃ y, m x = .ok y ∧ k y = f x) → compR (compF (fun (x : α) (s : Unit) => R.ok (P x)) (fun (z : Bool) => z) (fun (x : α) (s : Unit) => (m x).bind fun (y : β) => R.ok (k y, ())) Prod.fst Prod.snd) ys acc () = .ok (acc ++ (ys.filter P).map f, ()) := by
    intro ys
    induction ys with
    | nil => intro acc _; rw [compR, List.filter_nil, List.map_nil, List.append_nil]
    | cons y ys ih =>
      intro acc h
      have ih := fun acc => ih acc fun z m => h z (List.mem_cons_of_mem _ m)
      rw [compR, compF]
      simp only [bind_ok]
      cases hq : P y with
      | true =>
        obtain ⟨b, eb, ec⟩ := h y List.mem_cons_self hq
        simp only [if_true, bind_ok, eb]
        rw [ih, List.filter_cons, hq, if_pos rfl, List.map_cons, List.append_assoc, ec]
        rfl
      | false =>
        simp only [Bool.false_eq_true, if_false, bind_ok]
        rw [ih, List.filter_cons, hq, if_neg (by decide)]
  have := go xs [] h
  rwa [List.nil_append] at this
theorem pick {α : Type} {l : List α} {k : Int} (h0 : 0 ≤ k) (h : k < l.length) : Ok (R.some (atI l k)) fun x => x ∈ l := by
  obtain ⟨x, e1, _, e3⟩ := atI_ok h0 h
  exact ⟨x, by rw [e1]; rfl, e3⟩
--#split
def SG : List Nat := [97, 98, 99, 100, 101, 102, 103, 104, 105, 106, 107, 108, 109, 110, 111, 112, 113, 114, 115, 116, 117, 118, 119, 120, 121, 122, 65, 66, 67, 68, 69, 70, 71, 72, 73, 74, 75, 76, 77, 78]
abbrev SGN : PySem.Str := PySem.Str.ofString "abcdefghijklmnopqrstuvwxyzABCDEFGHIJKLMN"
theorem sgn_S : SGN = SX.S SG := str_eq.mpr (by decide +kernel)
theorem ofs_dot : PySem.Str.ofString "." = SX.S [46] := str_eq.mpr (by decide +kernel)
def sgK (k : Nat) : Nat := SG.getD k 0
theorem sg_at {i : Int} (h0 : 0 ≤ i) (h : i < 40) : sgAt SGN i = .ok (SX.S [sgK i.toNat]) := by
  have e : SG[i.toNat]? = some (sgK i.toNat) := by
    unfold sgK
    have : i.toNat < SG.length := by show _ < 40; omega
    rw [List.getD_eq_getElem?_getD, List.getElem?_eq_getElem this]
    rfl
  unfold sgAt
  rw [sgn_S, guard_ok (Nat.le_of_lt (sizeB (by rw [SX.S_len]; decide))), bind_okN]
  show (R.some (atI SG i)).bind _ = _
  rw [atI_nat h0 e, some_ok, bind_okN]
theorem sgK_46 {k : Nat} (h : k < 40) : sgK k ≠ 46 ∧ sgK k ≠ 10 := by
  have : ∀ k : Fin 40, sgK k.val ≠ 46 ∧ sgK k.val ≠ 10 := by decide +kernel
  exact this ⟨k, h⟩
theorem sgK_inj {k j : Nat} (hk : k < 40) (hj : j < 40) (e : sgK k = sgK j) : k = j := by
  have : ∀ k j : Fin 40, sgK k.val = sgK j.val → k = j := by decide +kernel
  exact congrArg Fin.val (this ⟨k, hk⟩ ⟨j, hj⟩ e)
abbrev Pr := Int × Int
def sgO (P : List Pr) (p : Pr) : Option Nat := (ixOf p P).map sgK
def pc (P : List Pr) (p : Pr) : Nat := (sgO P p).getD 46
theorem ixOf_snoc {α : Type} [DecidableEq α] {x q : α} : ∀ l : List α, ixOf x (l ++ [q]) = match ixOf x l with | some k => some k | none => if q = x then some l.length else none
  | [] => by
    show (if q = x then some 0 else _) = _
    by_cases h : q = x
    · rw [if_pos h]
      show _ = if q = x then some 0 else none
      rw [if_pos h]
    · rw [if_neg h]
      show _ = if q = x then some 0 else none
      rw [if_neg h]
      rfl
  | y :: l => by
    rw [List.cons_append, ixOf, ixOf, ixOf_snoc l]
    by_cases h : y = x
    · rw [if_pos h, if_pos h]
    · rw [if_neg h, if_neg h]
      cases ixOf x l with
      | some k => rfl
      | none =>
        by_cases hq : q = x
        · simp [hq]
        · simp [hq]
theorem ixOf_ex {α : Type} [DecidableEq α] {x : α} : ∀ {l : List α}, x ∈ l → ∃ j, ixOf x l = some j
  | [], h => nomatch h
  | y :: l, h => by
    rw [ixOf]
    by_cases e : y = x
    · exact ⟨0, by rw [if_pos e]⟩
    · rw [if_neg e]
      obtain ⟨k, hk⟩ := ixOf_ex ((List.mem_cons.mp h).resolve_left fun z => e z.symm)
      exact ⟨k + 1, by rw [hk]; rfl⟩
theorem ixOf_no {α : Type} [DecidableEq α] {x : α} : ∀ {l : List α}, x ∉ l → ixOf x l = none
  | [], _ => rfl
  | y :: l, h => by
    rw [List.mem_cons, not_or] at h
    rw [ixOf, if_neg (fun z => h.1 z.symm), ixOf_no h.2]
    rfl
structure Sp (P : List Pr) : Prop where
  nd : P.Nodup
  few : P.length ≤ 40
  n3 : 3 ≤ P.length
  rg : ∀ p ∈ P, (0 ≤ p.1 ∧ p.1 ≤ 76) ∧ 0 ≤ p.2 ∧ p.2 ≤ 40
def mx (P : List Pr) : Int := maxL (P.map fun x => x.1)
def my (P : List Pr) : Int := maxL (P.map fun x => x.2)
def lineL (P : List Pr) (y : Int) : List Nat := (rng 0 (mx P + 1)).map fun x => pc P (x, y)
def linesL (P : List Pr) : List (List Nat) := (dwn (my P) (-1)).map (lineL P)
def textL (P : List Pr) : List Nat := (linesL P).flatMap fun l => l ++ [10]
section
variable {P : List Pr}
theorem Sp.ne (h : Sp P) : P ≠ [] := fun z => by
  have := h.n3
  rw [z] at this
  simp at this
theorem Sp.mx (h : Sp P) : (0 ≤ mx P ∧ mx P ≤ 76) ∧ ∀ p ∈ P, p.1 ≤ W.mx P := by
  obtain ⟨m, l⟩ := maxL_is (ns := P.map fun x => x.1) (fun z => h.ne (List.map_eq_nil_iff.mp z))
  obtain ⟨p, hp, e⟩ := List.mem_map.mp m
  refine ⟨?_, fun q hq => l _ (List.mem_map.mpr ⟨q, hq, rfl⟩)⟩
  unfold W.mx
  rw [← e]
  exact (h.rg p hp).1
theorem Sp.my (h : Sp P) : (0 ≤ my P ∧ my P ≤ 40) ∧ ∀ p ∈ P, p.2 ≤ W.my P := by
  obtain ⟨m, l⟩ := maxL_is (ns := P.map fun x => x.2) (fun z => h.ne (List.map_eq_nil_iff.mp z))
  obtain ⟨p, hp, e⟩ := List.mem_map.mp m
  refine ⟨?_, fun q hq => l _ (List.mem_map.mpr ⟨q, hq, rfl⟩)⟩
  unfold W.my
  rw [← e]
  exact (h.rg p hp).2
theorem sgO_step (h : Sp P) {i : Nat} {q : Pr} (e : P[i]? = some q) (p : Pr) : sgO (P.take (i + 1)) p = if q = p then some (sgK i) else sgO (P.take i) p := by
  have il := (List.getElem?_eq_some_iff.mp e).1
  have tk : P.take (i + 1) = P.take i ++ [q] := by rw [List.take_succ, e]; rfl
  have no : q ∉ P.take i := fun m => by
    have nd := h.nd
    rw [← List.take_append_drop i P] at nd
    have := (List.nodup_append.mp nd).2.2 q m q (by
      have : P.drop i = q :: P.drop (i + 1) := by
        rw [List.drop_eq_getElem_cons il]
        have := (List.getElem?_eq_some_iff.mp e).2
        rw [this]
      rw [this]
      exact List.mem_cons_self)
    exact this rfl
  unfold sgO
  rw [tk, ixOf_snoc, List.length_take, Nat.min_eq_left (by omega)]
  by_cases c : q = p
  · rw [if_pos c, ← c, ixOf_no no, if_pos rfl]
    rfl
  · simp only [if_neg c]
    cases ixOf p (P.take i) with
    | some k => rfl
    | none => rfl
theorem line_len (h : Sp P) (y : Int) : (lineL P y).length = (W.mx P + 1).toNat ∧ (lineL P y).length ≤ 77 := by
  have := h.mx.1
  unfold lineL
  rw [List.length_map, rng_len]
  omega
theorem lines_len (h : Sp P) : (linesL P).length = (W.my P + 1).toNat ∧ (linesL P).length ≤ 41 := by
  have := h.my.1
  unfold linesL dwn
  rw [List.length_map, List.length_map, List.length_range]
  omega
theorem joinC (l : List Nat) : Txt.join (PySem.Str.ofString "") (l.map fun c => SX.S [c]) = SX.S l := by
  have e : (l.map fun c => SX.S [c]) = (l.map fun c => [c]).map SX.S := by rw [List.map_map]; rfl
  rw [e, joinE]
  congr 1
  induction l with
  | nil => rfl
  | cons c l ih => rw [List.map_cons, List.flatten_cons, ih (by rw [List.map_map]; rfl)]; rfl
theorem sums_C (l : List Nat) : ((l.map fun c => SX.S [c]).map fun (z : PySem.Str) => PySem.Str.length z).sum = l.length := by
  induction l with
  | nil => rfl
  | cons c l ih =>
    rw [List.map_cons, List.map_cons, List.sum_cons, ih, SX.S_len, List.length_cons]
    simp
    omega
theorem sums_L : ∀ (L : List (List Nat)) (b : Nat), (∀ l ∈ L, l.length ≤ b) → ((L.map SX.S).map fun (z : PySem.Str) => PySem.Str.length z).sum ≤ L.length * b
  | [], b, _ => by simp
  | l :: L, b, h => by
    have h1 := h l List.mem_cons_self
    have h2 := sums_L L b fun x hx => h x (List.mem_cons_of_mem _ hx)
    rw [List.map_cons, List.map_cons, List.sum_cons, SX.S_len, List.length_cons, Nat.succ_mul]
    omega
theorem ofs_el : PySem.Str.length (PySem.Str.ofString "") = 0 := by rw [ofs_e]; rfl
theorem joinLs (h : Sp P) : Txt.join (PySem.Str.ofString "") ((linesL P).map fun l => SX.S (l ++ [10])) = SX.S (textL P) := by
  have e : ((linesL P).map fun l => SX.S (l ++ [10])) = ((linesL P).map fun l => l ++ [10]).map SX.S := by rw [List.map_map]; rfl
  rw [e, joinE]
  unfold textL
  rw [List.flatMap_def]
theorem lines_few (h : Sp P) : (((linesL P).map fun l => SX.S (l ++ [10])).map fun (z : PySem.Str) => PySem.Str.length z).sum ≤ 41 * 78 := by
  have e : ((linesL P).map fun l => SX.S (l ++ [10])) = ((linesL P).map fun l => l ++ [10]).map SX.S := by rw [List.map_map]; rfl
  rw [e]
  have l2 := lines_len h
  refine Nat.le_trans (sums_L _ 78 fun l hl => ?_) (by rw [List.length_map]; omega)
  obtain ⟨l', hl', rfl⟩ := List.mem_map.mp hl
  unfold linesL at hl'
  obtain ⟨y, _, rfl⟩ := List.mem_map.mp hl'
  have := line_len h y
  rw [List.length_append]
  show _ + 1 ≤ 78
  omega
theorem picture_ok (h : Sp P) : m_picture P = .ok (SX.S (textL P)) := by
  have hmx := h.mx.1
  have hmy := h.my.1
  have few := h.few
  have fP : P.filter (fun _ => true) = P := List.filter_eq_self.mpr fun _ _ => rfl
  have n1 : P.map (fun x => x.1) ≠ [] := fun z => h.ne (List.map_eq_nil_iff.mp z)
  have n2 : P.map (fun x => x.2) ≠ [] := fun z => h.ne (List.map_eq_nil_iff.mp z)
  refine Ok.eq ?_
  unfold m_picture mb_picture
  refine Ok.f0 (Ok.okB (Ok.ltI (Ok.bF (Pn := fun (s : List (Pr × PySem.Str)) => ∀ p, lookT s p = (sgO P p).map fun c => SX.S [c]) (Ok.forR (fun i (s : List (Pr × PySem.Str)) => (∀ p, lookT s p = (sgO (P.take i) p).map fun c => SX.S [c]) ∧ s.length ≤ i) ⟨fun p => rfl, Nat.le_refl _⟩ ?_ fun s hs => ?_) fun s hs => ?_)))
  · rintro i ⟨k, q⟩ s ex ⟨h1, h2⟩
    rw [enumL_get] at ex
    cases eq : P[i]? with
    | none => rw [eq] at ex; exact nomatch ex
    | some q' =>
      rw [eq] at ex
      have ex := Option.some.inj ex
      have e1 := (Prod.mk.inj ex).1
      have e2 := (Prod.mk.inj ex).2
      subst e1
      subst e2
      have il := (List.getElem?_eq_some_iff.mp eq).1
      have hs := sg_at (i := ((i : Nat) : Int)) (by omega) (by omega)
      rw [Int.toNat_natCast] at hs
      refine Ok.bind1 (a := SX.S [sgK i]) (by rw [hs, bind_okN, guard_ok (sizeB (by omega)), bind_okN]) (Ok.nx ⟨fun p => ?_, ?_⟩)
      · rw [lookT_put, sgO_step h eq]
        by_cases c : q' = p
        · rw [if_pos c, if_pos c]
          rfl
        · rw [if_neg c, if_neg c]
          exact h1 p
      · show (putT s q' _).length ≤ i + 1
        unfold putT
        split
        · rw [List.length_map]; omega
        · rw [List.length_append]; show _ + 1 ≤ _; omega
  · obtain ⟨h1, _⟩ := hs
    rw [enumL_len, List.take_length] at h1
    exact h1
  · rw [fP]
    have lP : P.length ≤ 100000 := by omega
    have pcs : ∀ x y : Int, Option.getD (lookT s (x, y)) (PySem.Str.ofString ".") = SX.S [pc P (x, y)] := fun x y => by
      rw [hs, ofs_dot]
      unfold pc
      cases sgO P (x, y) <;> rfl
    refine Ok.bind1 (a := ((), ())) (by rw [bind_okN, guard_ok (Nat.le_of_lt (sizeB lP)), bind_okN, bind_okN, guard_ok n1, bind_okN]) (Ok.ltI (Ok.okB (Ok.ltI (Ok.bF (Pn := fun (s : List PySem.Str) => s = (linesL P).map fun l => SX.S (l ++ [10])) (Ok.bind1 (a := ((), ())) ?_ (Ok.forR (fun i (s : List PySem.Str) => s = (((dwn (W.my P) (-1)).take i).map fun y => SX.S (lineL P y ++ [10]))) rfl ?_ fun s hs => ?_)) fun s hs => ?_))))
    · rw [bind_okN, guard_ok (Nat.le_of_lt (sizeB lP)), bind_okN, bind_okN, guard_ok n2, bind_okN, bind_okN, guard_ok (show rngOk (maxL (P.map fun x => x.2)) ∧ rngOk (-1) by show rngOk (W.my P) ∧ rngOk (-1); unfold rngOk; omega), bind_okN]
    · rintro i y s2 ey rfl
      have ey : (dwn (W.my P) (-1))[i]? = some y := ey
      have il := (List.getElem?_eq_some_iff.mp ey).1
      have ld : (dwn (W.my P) (-1)).length ≤ 41 := by
        have := lines_len h
        unfold linesL at this
        rw [List.length_map] at this
        exact this.2
      have fR : (rng 0 (W.mx P + 1)).filter (fun _ => true) = rng 0 (W.mx P + 1) := List.filter_eq_self.mpr fun _ _ => rfl
      have em : ((rng 0 (maxL (P.map fun x => x.1) + 1)).filter fun _ => true).map (fun x => Option.getD (lookT s (x, y)) (PySem.Str.ofString ".")) = (lineL P y).map fun c => SX.S [c] := by
        show ((rng 0 (W.mx P + 1)).filter fun _ => true).map _ = _
        rw [fR]
        unfold lineL
        rw [List.map_map]
        exact List.map_congr_left fun x _ => pcs x y
      have ll := line_len h y
      have lr : (rng 0 (maxL (P.map fun x => x.1) + 1)).length ≤ 100000 := by
        show (rng 0 (W.mx P + 1)).length ≤ _
        rw [rng_len]
        omega
      rw [em]
      refine Ok.bind1 (a := ((), ())) ?_ (Ok.nx ?_)
      · rw [guard_ok (show rngOk (maxL (P.map fun x => x.1) + 1) by show rngOk (W.mx P + 1); unfold rngOk; omega), bind_okN, guard_ok (Nat.le_of_lt (sizeB lr)), bind_okN, bind_okN, guard_ok (by rw [sums_C, ofs_el]; omega), bind_okN, bind_okN, guard_ok (Nat.le_of_lt (sizeB (by rw [joinC, SX.S_len, ofs_n]; show _ + 1 ≤ _; omega))), bind_okN, bind_okN, guard_ok (sizeB (by rw [List.length_map, List.length_take]; omega)), bind_okN]
      · rw [joinC, ofs_n, SX.S_cat, List.take_succ, ey, List.map_append]
        rfl
    · rw [hs]
      show List.map _ (List.take (dwn (W.my P) (-1)).length _) = _
      rw [List.take_length]
      unfold linesL
      rw [List.map_map]
      rfl
    · rw [hs, joinLs h]
      have := lines_few h
      exact Ok.bind1 (a := ()) (by rw [bind_okN, guard_ok (by rw [ofs_el]; omega), bind_okN]) (Ok.rt rfl)
end
--#split
section
variable {P : List Pr}
theorem rep_dots (k : Int) : repL [PySem.Str.ofString "."] k = (rng 0 k).map fun _ => SX.S [46] := by
  unfold repL rng
  rw [List.map_map, Int.sub_zero, ofs_dot]
  induction k.toNat with
  | zero => rfl
  | succ n ih =>
    rw [List.replicate_succ', List.flatten_append, ih, List.range_succ, List.map_append]
    rfl
theorem law_line_ok (h : Sp P) (y : Int) : m_law_line (P, y, W.mx P + 1) = .ok (SX.S (lineL P y ++ [10])) := by
  have hmx := h.mx.1
  have few := h.few
  have ll := line_len h y
  have lr : (rng 0 (W.mx P + 1)).length = (W.mx P + 1).toNat := by rw [rng_len]; omega
  have rat : ∀ j : Nat, j < (W.mx P + 1).toNat → (rng 0 (W.mx P + 1))[j]? = some ((j : Nat) : Int) := fun j hj => by
    unfold rng
    rw [List.getElem?_map, List.getElem?_range (by omega)]
    show some ((0 : Int) + (j : Int)) = _
    rw [Int.zero_add]
  refine Ok.eq ?_
  unfold m_law_line mb_law_line
  refine Ok.f0 (Ok.bind1 (a := ((), ())) ?_ (Ok.ltI (Ok.bF (Pn := fun (s : List PySem.Str) => s = (lineL P y).map fun c => SX.S [c]) (Ok.forR (fun i (s : List PySem.Str) => s = (rng 0 (W.mx P + 1)).map fun x => SX.S [pc (P.take i) (x, y)]) ?_ ?_ fun s hs => ?_) fun s hs => ?_)))
  · rw [bind_okN, bind_okN, guard_ok (show -(2 ^ 63 : Int) ≤ W.mx P + 1 ∧ W.mx P + 1 < 2 ^ 63 ∧ [PySem.Str.ofString "."].length * (W.mx P + 1).toNat ≤ sizeLine from ⟨by omega, by omega, Nat.le_of_lt (sizeB (by show 1 * (W.mx P + 1).toNat ≤ _; omega))⟩), bind_okN]
  · rw [rep_dots]
    rfl
  · rintro i ⟨k, q⟩ s ex rfl
    rw [enumL_get] at ex
    cases eq : P[i]? with
    | none => rw [eq] at ex; exact nomatch ex
    | some q' =>
      rw [eq] at ex
      have ex := Option.some.inj ex
      have e1 := (Prod.mk.inj ex).1
      have e2 := (Prod.mk.inj ex).2
      subst e1
      subst e2
      have il := (List.getElem?_eq_some_iff.mp eq).1
      have rq := h.rg q' (List.mem_of_getElem? eq)
      have mq := h.mx.2 q' (List.mem_of_getElem? eq)
      refine Ok.bF (Pn := fun (s : List PySem.Str) => s = (rng 0 (W.mx P + 1)).map fun x => SX.S [pc (P.take (i + 1)) (x, y)]) (Ok.ite (fun hb => ?_) fun hb => Ok.nx ?_) fun s hs => Ok.nx hs
      · have ey : q'.2 = y := of_decide_eq_true hb
        have hs := sg_at (i := ((i : Nat) : Int)) (by omega) (by omega)
        rw [Int.toNat_natCast] at hs
        have hix : ixN ((rng 0 (W.mx P + 1)).map fun x => SX.S [pc (P.take i) (x, y)]).length q'.1 = some q'.1.toNat := by
          unfold ixN
          rw [List.length_map, lr]
          have : 0 ≤ q'.1 := rq.1.1
          rw [if_pos (by omega), if_pos (by omega)]
        refine Ok.bind1 (a := (SX.S [sgK i], q'.1.toNat)) (by rw [hs, bind_okN, hix, some_ok, bind_okN]) (Ok.nx ?_)
        refine List.ext_getElem? fun j => ?_
        dsimp only
        rw [List.getElem?_set, List.length_map, lr, List.getElem?_map, List.getElem?_map]
        by_cases jl : j < (W.mx P + 1).toNat
        · rw [rat j jl]
          show _ = some (SX.S [((sgO (P.take (i + 1)) ((j : Int), y)).getD 46)])
          rw [sgO_step h eq]
          by_cases c : q'.1.toNat = j
          · have : q' = ((j : Int), y) := Prod.ext (by omega) ey
            rw [if_pos c, if_pos (by omega), if_pos this]
            rfl
          · have : ¬ q' = ((j : Int), y) := fun z => c (by rw [z]; rfl)
            rw [if_neg c, if_neg this]
            rfl
        · have hn : (rng 0 (W.mx P + 1))[j]? = none := List.getElem?_eq_none (by omega)
          rw [if_neg (by omega), hn]
          rfl
      · have ny : q'.2 ≠ y := of_decide_eq_false hb
        refine List.map_congr_left fun x _ => ?_
        show SX.S [((sgO (P.take i) (x, y)).getD 46)] = SX.S [((sgO (P.take (i + 1)) (x, y)).getD 46)]
        rw [sgO_step h eq, if_neg fun z => ny (by rw [z])]
  · rw [hs, enumL_len, List.take_length]
    unfold lineL
    rw [List.map_map]
    rfl
  · rw [hs, joinC]
    refine Ok.bind1 (a := ((), ())) ?_ (Ok.rt ?_)
    · rw [bind_okN, guard_ok (by rw [sums_C, ofs_el]; omega), bind_okN, bind_okN, guard_ok (Nat.le_of_lt (sizeB (by rw [SX.S_len, ofs_n]; show _ + 1 ≤ _; omega))), bind_okN]
    · rw [ofs_n, SX.S_cat]
theorem law_text_ok (h : Sp P) : m_law_text P = .ok (SX.S (textL P)) := by
  have hmx := h.mx.1
  have hmy := h.my.1
  have few := h.few
  have lP : P.length ≤ 100000 := by omega
  have fP : P.filter (fun _ => true) = P := List.filter_eq_self.mpr fun _ _ => rfl
  have n1 : P.map (fun x => x.1) ≠ [] := fun z => h.ne (List.map_eq_nil_iff.mp z)
  have n2 : P.map (fun x => x.2) ≠ [] := fun z => h.ne (List.map_eq_nil_iff.mp z)
  refine Ok.eq ?_
  unfold m_law_text mb_law_text
  rw [fP]
  have e1 : (1 : Int) + maxL (P.map fun x => x.1) = W.mx P + 1 := Int.add_comm ..
  have e2 : (1 : Int) + maxL (P.map fun x => x.2) = W.my P + 1 := Int.add_comm ..
  rw [e1, e2]
  have hc := comp_eq (m := fun (x : Int) => m_law_line (P, ((W.my P + 1 - (1 : Int)) - x), W.mx P + 1)) (f := fun x => SX.S (lineL P ((W.my P + 1 - (1 : Int)) - x) ++ [10])) (xs := rng 0 (W.my P + 1)) fun x _ => law_line_ok h _
  have em : ((rng 0 (W.my P + 1)).map fun x => SX.S (lineL P ((W.my P + 1 - (1 : Int)) - x) ++ [10])) = (linesL P).map fun l => SX.S (l ++ [10]) := by
    unfold linesL dwn rng
    rw [List.map_map, List.map_map, List.map_map]
    refine (congrArg (fun k => List.map _ (List.range k)) (show (W.my P + 1 - 0).toNat = (W.my P - -1).toNat by omega)).trans ?_
    refine List.map_congr_left fun k _ => ?_
    show SX.S (lineL P ((W.my P + 1 - (1 : Int)) - (0 + (k : Int))) ++ [10]) = SX.S (lineL P (W.my P - (k : Int)) ++ [10])
    rw [show (W.my P + 1 - (1 : Int)) - (0 + (k : Int)) = W.my P - (k : Int) by omega]
  have lf := lines_few h
  have lr : (rng 0 (W.my P + 1)).length ≤ 100000 := by rw [rng_len]; omega
  refine Ok.f0 (Ok.bind1 (a := ((), ())) (by rw [bind_okN, guard_ok (Nat.le_of_lt (sizeB lP)), bind_okN, bind_okN, guard_ok n1, bind_okN]) (Ok.ltI (Ok.bind1 (a := ((), ())) (by rw [bind_okN, guard_ok (Nat.le_of_lt (sizeB lP)), bind_okN, bind_okN, guard_ok n2, bind_okN]) (Ok.ltI (Ok.bind1 (a := ((linesL P).map fun l => SX.S (l ++ [10]), ())) ?_ (Ok.rt ?_))))))
  · rw [guard_ok (show rngOk (W.my P + 1) by unfold rngOk; omega), bind_okN, guard_ok (Nat.le_of_lt (sizeB lr)), bind_okN]
    refine (congrArg (fun z => R.bind z _) hc).trans ?_
    rw [bind_okN]
    dsimp only
    rw [em, guard_ok (by rw [ofs_el]; omega), bind_okN]
  · exact joinLs h
theorem pc_some (h : Sp P) {k : Nat} {q : Pr} (e : P[k]? = some q) : ixOf q P = some k := by
  obtain ⟨j, hj⟩ := ixOf_ex (List.mem_of_getElem? e)
  have h1 := (ixOf_some hj).1
  have il := (List.getElem?_eq_some_iff.mp h1).1
  rw [hj, (List.getElem?_inj il h.nd).mp (h1.trans e.symm)]
theorem pc_get {p : Pr} (c : pc P p ≠ 46) : ∃ k, P[k]? = some p ∧ pc P p = sgK k := by
  unfold pc sgO at *
  cases e : ixOf p P with
  | none => rw [e] at c; exact absurd rfl c
  | some k => exact ⟨k, (ixOf_some e).1, rfl⟩
structure FS (P : List Pr) (F : List (PySem.Str × Pr)) (dn : Pr → Prop) : Prop where
  nd : (F.map Prod.fst).Nodup
  val : ∀ e ∈ F, ∃ k q, P[k]? = some q ∧ e = (SX.S [sgK k], q)
  has : ∀ k q, P[k]? = some q → dn q → (SX.S [sgK k], q) ∈ F
theorem sS_inj {a b : Nat} (h : SX.S [a] = SX.S [b]) : a = b := by
  have := SX.S_inj h
  injection this
theorem hasZ_iff {k : PySem.Str} {F : List (PySem.Str × Pr)} : hasZ k F = true ↔ k ∈ F.map Prod.fst := by
  unfold hasZ
  rw [List.any_eq_true, List.mem_map]
  exact ⟨fun ⟨x, h1, h2⟩ => ⟨x, h1, of_decide_eq_true h2⟩, fun ⟨x, h1, h2⟩ => ⟨x, h1, decide_eq_true h2⟩⟩
theorem FS.put (h : Sp P) {F : List (PySem.Str × Pr)} {dn dn' : Pr → Prop} (f : FS P F dn) {k : Nat} {q : Pr} (e : P[k]? = some q) (hd : ∀ p, dn' p → dn p ∨ p = q) : FS P (putZ F (SX.S [sgK k]) q) dn' ∧ (putZ F (SX.S [sgK k]) q).length ≤ F.length + 1 := by
  have kl := (List.getElem?_eq_some_iff.mp e).1
  have few := h.few
  have mem : ∀ x, x ∈ putZ F (SX.S [sgK k]) q → x ∈ F ∨ x = (SX.S [sgK k], q) := fun x hx => by
    unfold putZ at hx
    split at hx
    · obtain ⟨y, hy, z⟩ := List.mem_map.mp hx
      split at z
      · rename_i c
        exact .inr (by rw [← z, ← c])
      · exact .inl (z ▸ hy)
    · rcases List.mem_append.mp hx with hx | hx
      · exact .inl hx
      · exact .inr (List.mem_singleton.mp hx)
  have self : (SX.S [sgK k], q) ∈ putZ F (SX.S [sgK k]) q := by
    unfold putZ
    split
    · rename_i c
      obtain ⟨y, hy, z⟩ := List.mem_map.mp (hasZ_iff.mp c)
      refine List.mem_map.mpr ⟨y, hy, ?_⟩
      rw [if_pos z, z]
    · exact List.mem_append_right _ (List.mem_singleton.mpr rfl)
  have old : ∀ x ∈ F, x ∈ putZ F (SX.S [sgK k]) q := fun x hx => by
    obtain ⟨k', q', e', ex⟩ := f.val x hx
    have kl' := (List.getElem?_eq_some_iff.mp e').1
    by_cases c : x.1 = SX.S [sgK k]
    · have ek : k' = k := sgK_inj (by omega) (by omega) (sS_inj (by rw [ex] at c; exact c))
      subst ek
      rw [e] at e'
      have := Option.some.inj e'
      rw [ex, ← this]
      exact self
    · unfold putZ
      split
      · exact List.mem_map.mpr ⟨x, hx, by rw [if_neg c]⟩
      · exact List.mem_append_left _ hx
  refine ⟨⟨?_, fun x hx => ?_, fun k' q' e' d' => ?_⟩, ?_⟩
  · unfold putZ
    split
    · have : (F.map fun p => if p.1 = SX.S [sgK k] then (p.1, q) else p).map Prod.fst = F.map Prod.fst := by
        rw [List.map_map]
        refine List.map_congr_left fun p _ => ?_
        show (if p.1 = SX.S [sgK k] then (p.1, q) else p).1 = p.1
        split <;> rfl
      rw [this]
      exact f.nd
    · rename_i c
      rw [List.map_append]
      refine List.nodup_append.mpr ⟨f.nd, List.nodup_cons.mpr ⟨List.not_mem_nil, List.nodup_nil⟩, fun a ha b hb z => c (hasZ_iff.mpr ?_)⟩
      rw [z, List.mem_singleton.mp hb] at ha
      exact ha
  · rcases mem x hx with hx | hx
    · exact f.val x hx
    · exact ⟨k, q, e, hx⟩
  · rcases hd q' d' with d' | d'
    · exact old _ (f.has k' q' e' d')
    · subst d'
      have := (pc_some h e).symm.trans (pc_some h e')
      rw [← Option.some.inj this]
      exact self
  · unfold putZ
    split
    · rw [List.length_map]; omega
    · rw [List.length_append]; exact Nat.le_refl _
theorem FS.weak {F : List (PySem.Str × Pr)} {dn dn' : Pr → Prop} (f : FS P F dn) (hd : ∀ p ∈ P, dn' p → dn p) : FS P F dn' := ⟨f.nd, f.val, fun k q e d => f.has k q e (hd q (List.mem_of_getElem? e) d)⟩
theorem join_last : ∀ L : List (List Nat), TL.joinL [10] (L ++ [[]]) = L.flatMap fun l => l ++ [10]
  | [] => rfl
  | [a] => by simp [TL.joinL]
  | a :: b :: L => by
    show a ++ ([10] ++ TL.joinL [10] (b :: L ++ [[]])) = _
    rw [join_last (b :: L), List.flatMap_cons (x := a), List.append_assoc]
theorem pc_10 (h : Sp P) (p : Pr) : pc P p ≠ 10 := by
  by_cases c : pc P p = 46
  · rw [c]; decide
  · obtain ⟨k, e, ek⟩ := pc_get c
    have := (List.getElem?_eq_some_iff.mp e).1
    have := h.few
    rw [ek]
    exact (sgK_46 (by omega)).2
theorem spots_in_ok (h : Sp P) : ∃ F, m_spots_in (SX.S (textL P)) = .ok F ∧ FS P F fun _ => True := by
  have hmx := h.mx.1
  have hmy := h.my
  have few := h.few
  have ll := lines_len h
  have sp : Txt.split (SX.S (textL P)) (PySem.Str.ofString "\n") = (linesL P ++ [[]]).map SX.S := by
    unfold textL
    rw [ofs_n, SX.split_S (by decide) (by decide), ← join_last, SX.spl_join (by simp) fun l hl => ?_]
    rcases List.mem_append.mp hl with hl | hl
    · unfold linesL at hl
      obtain ⟨y, _, rfl⟩ := List.mem_map.mp hl
      unfold lineL
      intro m
      obtain ⟨x, _, z⟩ := List.mem_map.mp m
      exact pc_10 h _ z
    · rw [List.mem_singleton.mp hl]
      exact List.not_mem_nil
  have lt : (textL P).length ≤ 41 * 78 := by
    unfold textL
    have hb : ∀ (L : List (List Nat)), (∀ l ∈ L, (l ++ [10]).length ≤ 78) → (L.flatMap fun l => l ++ [10]).length ≤ L.length * 78 := fun L => by
      induction L with
      | nil => intro _; simp
      | cons a L ih =>
        intro hL
        have h1 := hL a List.mem_cons_self
        have h2 := ih fun l hl => hL l (List.mem_cons_of_mem _ hl)
        rw [List.flatMap_cons, List.length_append, List.length_cons]
        omega
    refine Nat.le_trans (hb _ fun l hl => ?_) (by omega)
    unfold linesL at hl
    obtain ⟨y, _, rfl⟩ := List.mem_map.mp hl
    have := line_len h y
    rw [List.length_append]
    show _ + 1 ≤ 78
    omega
  have lat : ∀ k : Nat, k < (W.my P + 1).toNat → (linesL P)[k]? = some (lineL P (W.my P - (k : Int))) := fun k hk => by
    unfold linesL dwn
    rw [List.getElem?_map, List.getElem?_map, List.getElem?_range (by omega)]
    rfl
  have main : Ok (m_spots_in (SX.S (textL P))) fun F => FS P F fun _ => True := by
    unfold m_spots_in mb_spots_in
    refine Ok.f0 (Ok.bind1 (a := ()) (by rw [bind_okN, guard_ok ⟨by rw [ofs_n]; decide, Nat.le_of_lt (sizeB (by rw [SX.S_len]; omega))⟩, bind_okN]) (Ok.ltI (Ok.okB (Ok.ltI ?_))))
    rw [sp]
    refine Ok.bF (Pn := fun (F : List (PySem.Str × Pr)) => FS P F fun _ => True) (Ok.forR (fun k (F : List (PySem.Str × Pr)) => FS P F (fun p => p.2 > W.my P - (k : Int)) ∧ F.length ≤ k * 77) ⟨⟨List.nodup_nil, (fun e he => nomatch he), fun k q e d => ?_⟩, Nat.zero_le _⟩ ?_ fun F hF => ?_) fun F hF => Ok.okB (Ok.rt hF)
    · have := hmy.2 q (List.mem_of_getElem? e)
      have d : q.2 > W.my P - ((0 : Nat) : Int) := d
      omega
    · rintro k ⟨k', l⟩ F ex ⟨f1, f2⟩
      rw [enumL_get, List.getElem?_map] at ex
      cases el : (linesL P ++ [[]])[k]? with
      | none => rw [el] at ex; exact nomatch ex
      | some L =>
        rw [el] at ex
        have ex := Option.some.inj ex
        have e1 := (Prod.mk.inj ex).1
        have e2 := (Prod.mk.inj ex).2
        subst e1
        subst e2
        have kl := (List.getElem?_eq_some_iff.mp el).1
        rw [List.length_append] at kl
        have kl : k < (linesL P).length + 1 := kl
        have sg : sgs (SX.S L) = L.map fun c => SX.S [c] := rfl
        rw [sg]
        refine Ok.bF (Pn := fun (F : List (PySem.Str × Pr)) => FS P F (fun p => p.2 > W.my P - ((k + 1 : Nat) : Int)) ∧ F.length ≤ (k + 1) * 77) ?_ fun F hF => Ok.nx hF
        by_cases kk : k < (linesL P).length
        · have eL : L = lineL P (W.my P - (k : Int)) := by
            rw [List.getElem?_append_left kk, lat k (by omega)] at el
            exact (Option.some.inj el).symm
          generalize hy : W.my P - (k : Int) = y at *
          subst eL
          have lw := line_len h y
          refine Ok.forR (fun j (F : List (PySem.Str × Pr)) => FS P F (fun p => p.2 > y ∨ (p.2 = y ∧ p.1 < (j : Int))) ∧ F.length ≤ k * 77 + j) ⟨f1.weak fun p hp d => ?_, f2⟩ ?_ fun F hF => ⟨hF.1.weak fun p hp d => ?_, ?_⟩
          · rcases d with d | ⟨_, d⟩
            · exact d
            · have := (h.rg p hp).1.1
              omega
          · rintro j ⟨j', s⟩ F ex ⟨g1, g2⟩
            rw [enumL_get, List.getElem?_map] at ex
            have jl : j < (W.mx P + 1).toNat := by
              cases ec : (lineL P y)[j]? with
              | none => rw [ec] at ex; exact nomatch ex
              | some c =>
                have := (List.getElem?_eq_some_iff.mp ec).1
                omega
            have ec : (lineL P y)[j]? = some (pc P ((j : Int), y)) := by
              unfold lineL rng
              rw [List.getElem?_map, List.getElem?_map, List.getElem?_range (by omega)]
              show some (pc P ((0 : Int) + (j : Int), y)) = _
              rw [Int.zero_add]
            rw [ec] at ex
            have ex := Option.some.inj ex
            have e1 := (Prod.mk.inj ex).1
            have e2 := (Prod.mk.inj ex).2
            subst e1
            subst e2
            refine Ok.bF (Pn := fun (F : List (PySem.Str × Pr)) => FS P F (fun p => p.2 > y ∨ (p.2 = y ∧ p.1 < ((j + 1 : Nat) : Int))) ∧ F.length ≤ k * 77 + (j + 1)) (Ok.ite (fun hb => ?_) fun hb => Ok.nx ?_) fun F hF => Ok.nx hF
            · have c : pc P ((j : Int), y) ≠ 46 := fun z => by
                rw [show (((j : Nat) : Int), SX.S [pc P ((j : Int), y)]).2 = SX.S [pc P ((j : Int), y)] from rfl, z, ofs_dot] at hb
                simp at hb
              obtain ⟨m, em, es⟩ := pc_get c
              have put := g1.put h em (dn' := fun p => p.2 > y ∨ (p.2 = y ∧ p.1 < ((j + 1 : Nat) : Int))) fun p hp => by
                rcases hp with hp | ⟨a, b⟩
                · exact .inl (.inl hp)
                · rcases Int.lt_or_eq_of_le (show p.1 ≤ (j : Int) by omega) with z | z
                  · exact .inl (.inr ⟨a, z⟩)
                  · exact .inr (Prod.ext z a)
              refine Ok.grdB (sizeB (by omega)) (Ok.nx ?_)
              have ev : (((j : Nat) : Int), ((((((linesL P ++ [[]]).map SX.S).length : Nat) : Int) - (2 : Int)) - (k : Int))) = ((j : Int), y) := by
                rw [List.length_map, List.length_append]
                refine Prod.ext rfl ?_
                show (((linesL P).length + 1 : Nat) : Int) - 2 - (k : Int) = y
                omega
              show FS P (putZ F (SX.S [pc P ((j : Int), y)]) (((j : Nat) : Int), ((((((linesL P ++ [[]]).map SX.S).length : Nat) : Int) - (2 : Int)) - (k : Int)))) _ ∧ _
              rw [ev, es]
              exact ⟨put.1, Nat.le_trans put.2 (by omega)⟩
            · have c : pc P ((j : Int), y) = 46 := by
                by_cases c : pc P ((j : Int), y) = 46
                · exact c
                · refine absurd ?_ (Bool.eq_false_iff.mp hb)
                  rw [show (((j : Nat) : Int), SX.S [pc P ((j : Int), y)]).2 = SX.S [pc P ((j : Int), y)] from rfl, ofs_dot]
                  rw [Bool.not_eq_true']
                  exact decide_eq_false fun z => c (sS_inj z)
              refine ⟨g1.weak fun p hp d => ?_, Nat.le_trans g2 (by omega)⟩
              rcases d with d | ⟨a, b⟩
              · exact .inl d
              · rcases Int.lt_or_eq_of_le (show p.1 ≤ (j : Int) by omega) with z | z
                · exact .inr ⟨a, z⟩
                · obtain ⟨m, em⟩ := List.mem_iff_getElem?.mp hp
                  have ep : p = ((j : Int), y) := Prod.ext z a
                  have ml := (List.getElem?_eq_some_iff.mp em).1
                  have := pc_some h em
                  rw [ep] at this
                  unfold pc sgO at c
                  rw [this] at c
                  exact absurd c (sgK_46 (by omega)).1
          · rw [enumL_len, List.length_map]
            by_cases c : p.2 > y
            · exact .inl c
            · have := h.mx.2 p hp
              exact .inr ⟨by have d : p.2 > W.my P - ((k + 1 : Nat) : Int) := d; omega, by omega⟩
          · have := hF.2
            rw [enumL_len, List.length_map] at this
            rw [Nat.succ_mul]
            omega
        · have eL : L = [] := by
            rw [List.getElem?_append_right (by omega), show k - (linesL P).length = 0 by omega] at el
            exact (Option.some.inj el).symm
          subst eL
          refine Ok.forR (fun j (F : List (PySem.Str × Pr)) => FS P F (fun p => p.2 > W.my P - (k : Int)) ∧ F.length ≤ k * 77) ⟨f1, f2⟩ (fun j x F ex _ => ?_) fun F hF => ⟨hF.1.weak fun p hp d => ?_, Nat.le_trans hF.2 (Nat.mul_le_mul_right _ (Nat.le_succ k))⟩
          · exact nomatch ex
          · have := (h.rg p hp).2.1
            omega
    · rw [enumL_len, List.length_map, List.length_append] at hF
      refine hF.1.weak fun p hp _ => ?_
      have := (h.rg p hp).2.1
      show p.2 > W.my P - (((linesL P).length + 1 : Nat) : Int)
      omega
  exact main
theorem read_picture_ok (h : Sp P) : m_read_picture (SX.S (textL P)) = .ok P := by
  obtain ⟨F, eF, f⟩ := spots_in_ok h
  have hmx := h.mx
  have hmy := h.my
  have few := h.few
  have n3 := h.n3
  have lP : P.length ≤ 100000 := by omega
  have fP : P.filter (fun _ => true) = P := List.filter_eq_self.mpr fun _ _ => rfl
  have n1 : P.map (fun x => x.1) ≠ [] := fun z => h.ne (List.map_eq_nil_iff.mp z)
  have n2 : P.map (fun x => x.2) ≠ [] := fun z => h.ne (List.map_eq_nil_iff.mp z)
  have nk : ((List.range P.length).map fun k => SX.S [sgK k]).Nodup := by
    rw [List.nodup_iff_pairwise_ne, List.pairwise_map]
    refine (List.nodup_iff_pairwise_ne.mp List.nodup_range).imp_of_mem fun {a b} ha hb ne z => ne ?_
    have ha := List.mem_range.mp ha
    have hb := List.mem_range.mp hb
    exact sgK_inj (by omega) (by omega) (sS_inj z)
  have pm : (F.map Prod.fst).Perm ((List.range P.length).map fun k => SX.S [sgK k]) := by
    refine (List.perm_ext_iff_of_nodup f.nd nk).mpr fun x => ⟨fun hx => ?_, fun hx => ?_⟩
    · obtain ⟨e, he, rfl⟩ := List.mem_map.mp hx
      obtain ⟨k, q, ek, ee⟩ := f.val e he
      exact List.mem_map.mpr ⟨k, List.mem_range.mpr (List.getElem?_eq_some_iff.mp ek).1, by rw [ee]⟩
    · obtain ⟨k, hk, rfl⟩ := List.mem_map.mp hx
      have hk := List.mem_range.mp hk
      exact List.mem_map.mpr ⟨_, f.has k _ (List.getElem?_eq_getElem hk) trivial, rfl⟩
  have lF : F.length = P.length := by
    have := pm.length_eq
    rw [List.length_map, List.length_map, List.length_range] at this
    exact this
  have look : ∀ k q, P[k]? = some q → lookZ F (SX.S [sgK k]) = some q := fun k q e => by
    have hm := f.has k q e trivial
    unfold lookZ
    cases ef : F.find? fun p => decide (p.1 = SX.S [sgK k]) with
    | none =>
      rw [List.find?_eq_none] at ef
      exact absurd (decide_eq_true rfl) (ef _ hm)
    | some x =>
      have h1 := List.mem_of_find?_eq_some ef
      have h2 : x.1 = SX.S [sgK k] := by
        have z := List.find?_some ef
        exact of_decide_eq_true z
      obtain ⟨k', q', e', ex⟩ := f.val x h1
      have kl := (List.getElem?_eq_some_iff.mp e).1
      have kl' := (List.getElem?_eq_some_iff.mp e').1
      rw [ex] at h2
      have := sgK_inj (by omega) (by omega) (sS_inj h2)
      subst this
      rw [e] at e'
      rw [ex, Option.some.inj e']
      rfl
  have esg : sgs (cutS SGN none (some ((F.length : Nat) : Int))) = (List.range P.length).map fun k => SX.S [sgK k] := by
    rw [C8.cutS_slice, sgn_S, SX.slice_to (by omega), lF, Int.toNat_natCast]
    show (SG.take P.length).map (fun c => SX.S [c]) = _
    refine List.ext_getElem? fun i => ?_
    rw [List.getElem?_map, List.getElem?_map, List.getElem?_take]
    by_cases il : i < P.length
    · have sl : i < SG.length := by show i < 40; omega
      rw [if_pos il, List.getElem?_range il, List.getElem?_eq_getElem sl]
      show some (SX.S [SG[i]]) = some (SX.S [SG.getD i 0])
      rw [List.getD_eq_getElem?_getD, List.getElem?_eq_getElem sl]
      rfl
    · rw [if_neg il, List.getElem?_eq_none (by rw [List.length_range]; omega)]
      rfl
  have hc := comp_fany (m := fun (x : PySem.Str) => R.some (lookZ F x)) (k := fun (y : Pr) => y) (f := fun x => (lookZ F x).getD (0, 0)) (P := fun x => hasZ x F) (xs := (List.range P.length).map fun k => SX.S [sgK k]) fun x hx _ => by
    obtain ⟨k, hk, rfl⟩ := List.mem_map.mp hx
    have hk := List.mem_range.mp hk
    refine ⟨P[k], ?_, ?_⟩
    · rw [look k _ (List.getElem?_eq_getElem hk), some_ok]
    · rw [look k _ (List.getElem?_eq_getElem hk)]
      rfl
  have er : (((List.range P.length).map fun k => SX.S [sgK k]).filter fun x => hasZ x F).map (fun x => (lookZ F x).getD (0, 0)) = P := by
    rw [List.filter_eq_self.mpr fun x hx => hasZ_iff.mpr (pm.mem_iff.mpr hx), List.map_map]
    refine List.ext_getElem? fun i => ?_
    rw [List.getElem?_map]
    by_cases il : i < P.length
    · rw [List.getElem?_range il, List.getElem?_eq_getElem il]
      show some ((lookZ F (SX.S [sgK i])).getD (0, 0)) = _
      rw [look i _ (List.getElem?_eq_getElem il)]
      rfl
    · rw [List.getElem?_eq_none (by rw [List.length_range]; omega), List.getElem?_eq_none (by omega)]
      rfl
  refine Ok.eq ?_
  unfold m_read_picture mb_read_picture
  refine Ok.f0 (Ok.bF (Pn := fun _ => True) (Ok.iteF rfl (Ok.nx trivial)) fun _ _ => Ok.bind1 eF (Ok.ltI ?_))
  rw [esg]
  refine Ok.bind1 (a := (P, ())) ?_ (Ok.ltI ?_)
  · rw [bind_okN, guard_ok (Nat.le_of_lt (sizeB (by show SGN.length ≤ 100000; rw [sgn_S, SX.S_len]; decide))), bind_okN, bind_okN, guard_ok (Nat.le_of_lt (sizeB (show ((List.range P.length).map fun k => SX.S [sgK k]).length ≤ 100000 by rw [List.length_map, List.length_range]; omega))), bind_okN]
    refine hc.trans ?_
    rw [er]
  dsimp only
  rw [fP]
  have m1 : maxL (P.map fun x => x.1) = W.mx P := rfl
  have m2 : maxL (P.map fun x => x.2) = W.my P := rfl
  have m3 : 0 ≤ minL (P.map fun x => x.2) := by
    obtain ⟨m, _⟩ := minL_is n2
    obtain ⟨p, hp, e⟩ := List.mem_map.mp m
    rw [← e]
    exact (h.rg p hp).2.1
  refine Ok.bF (Pn := fun _ => True) (Ok.bind1 (a := false) ?_ (Ok.iteF rfl (Ok.nx trivial))) fun _ _ => Ok.bF (Pn := fun _ => True) (Ok.bind1 (a := false) ?_ (Ok.iteF rfl (Ok.nx trivial))) fun _ _ => Ok.rt rfl
  · rw [or2_ok, if_neg (by rw [decide_eq_true_eq]; omega), or2_ok, if_neg (by rw [decide_eq_true_eq, lF]; omega), bind_okN, guard_ok (Nat.le_of_lt (sizeB lP)), bind_okN, bind_okN, guard_ok n1, bind_okN, bind_okN, m1]
    rw [decide_eq_false (by omega)]
  · rw [bind_okN, guard_ok (Nat.le_of_lt (sizeB lP)), bind_okN, bind_okN, guard_ok n2, bind_okN, or2_ok, if_neg (by rw [decide_eq_true_eq, m2]; omega), or2_ok, if_neg (by rw [decide_eq_true_eq]; exact Int.not_lt.mpr m3), picture_ok h, bind_okN]
    simp
end
--#split
theorem spot_at {w m : Int} (m0 : 0 < m) {a : Int} (a0 : 0 ≤ a) (a1 : a < (w + 1) * m) : (0 ≤ a / m ∧ a / m ≤ w) ∧ (0 ≤ a % m ∧ a % m < m) ∧ a / m * m + a % m = a := by
  have h1 : a / m < w + 1 := Int.ediv_lt_of_lt_mul m0 a1
  have h2 : 0 ≤ a / m := Int.ediv_nonneg a0 (Int.le_of_lt m0)
  have h3 := Int.mul_ediv_add_emod a m
  rw [Int.mul_comm] at h3
  exact ⟨⟨h2, by omega⟩, ⟨Int.emod_nonneg _ (by omega), Int.emod_lt_of_pos _ m0⟩, h3⟩
theorem spot_of {m x y : Int} (m0 : 0 < m) (y0 : 0 ≤ y) (y1 : y < m) : (x * m + y) / m = x ∧ (x * m + y) % m = y := by
  constructor
  · rw [Int.add_comm, Int.add_mul_ediv_right _ _ (by omega), Int.ediv_eq_zero_of_lt y0 y1, Int.zero_add]
  · rw [Int.add_comm, Int.add_mul_emod_self_right, Int.emod_eq_of_lt y0 y1]
theorem free_at {w m : Int} (m0 : 0 < m) {F : List Pr} (hl : (F.length : Int) < (w + 1) * m) : ∃ a, 0 ≤ a ∧ a < (w + 1) * m ∧ (a / m, a % m) ∉ F := by
  refine Classical.byContradiction fun no => ?_
  have all : ∀ x ∈ (rng 0 ((w + 1) * m)).map fun a => (a / m, a % m), x ∈ F := fun x hx => by
    obtain ⟨a, ha, rfl⟩ := List.mem_map.mp hx
    obtain ⟨a0, a1⟩ := rng_mem.mp ha
    exact Classical.byContradiction fun z => no ⟨a, a0, a1, z⟩
  have nd : ((rng 0 ((w + 1) * m)).map fun a => (a / m, a % m)).Nodup := by
    rw [List.nodup_iff_pairwise_ne, List.pairwise_map]
    refine (List.nodup_iff_pairwise_ne.mp (rng_nodup _ _)).imp_of_mem fun {a b} ha hb ne z => ne ?_
    obtain ⟨a0, a1⟩ := rng_mem.mp ha
    obtain ⟨b0, b1⟩ := rng_mem.mp hb
    have h1 := (spot_at m0 a0 a1).2.2
    have h2 := (spot_at m0 b0 b1).2.2
    have z1 : a / m = b / m := congrArg Prod.fst z
    have z2 : a % m = b % m := congrArg Prod.snd z
    rw [← h1, ← h2, z1, z2]
  have := nodup_leA nd all
  rw [List.length_map, rng_len] at this
  omega
theorem law_spots_ok {l : List Int} (hp : Pot l) : Ok (m_law_spots l) fun r => Sp r.1 ∧ Pot r.2 := by
  have e10 : (2 : Nat) ^ 20 = 1048576 := by decide
  unfold m_law_spots mb_law_spots
  refine Ok.f0 (Ok.bind (P := fun (b : (Int × List Int) × Pr) => Pot b.1.2 ∧ (0 ≤ b.2.1 ∧ b.2.1 ≤ 76) ∧ (0 ≤ b.2.2 ∧ b.2.2 ≤ 40) ∧ 20 ≤ (b.2.1 + 1) * (b.2.2 + 1)) ((digit hp (by decide) (small8000 (by decide))).bind fun d hd => (pick hd.1 (by exact hd.2.1)).bind fun z hz => Ok.ret ⟨hd.2.2, ?_⟩) fun b hb => ?_)
  · have hz : z ∈ [((4 : Int), (3 : Int)), (9, 9), (76, 40), (76, 0), (0, 40), (2, 40)] := hz
    simp only [List.mem_cons, List.not_mem_nil, or_false] at hz
    rcases hz with rfl | rfl | rfl | rfl | rfl | rfl <;> (dsimp only; decide)
  obtain ⟨hp, ⟨w0, w1⟩, ⟨h0, h1⟩, hN⟩ := hb
  generalize b.1.2 = l1 at *
  generalize b.2.1 = w at *
  generalize b.2.2 = h at *
  have hN2 : (w + 1) * (h + 1) ≤ 77 * 41 := Int.mul_le_mul (by omega) (by omega) (by omega) (by omega)
  have gN : CMulX (w + 1) (h + 1) := mulx 20 (by omega) (by omega)
  refine Ok.bind (P := fun (b : Unit × (((Int × List Int) × Int) × (Int × List Int))) => Pot b.2.2.2 ∧ 0 ≤ b.2.2.1 ∧ b.2.2.1 < 38) (Ok.grdB gN (Ok.bind (P := fun (z : ((Int × List Int) × Int) × (Int × List Int)) => Pot z.2.2 ∧ 0 ≤ z.2.1 ∧ z.2.1 < 38) (Ok.bind (P := fun (c : (Int × List Int) × Int) => Pot c.1.2 ∧ 0 < c.2 ∧ c.2 ≤ 38) ((digit hp (by decide) (small8000 (by decide))).bind fun d hd => (pick hd.1 (by exact hd.2.1)).bind fun z hz => Ok.ret ⟨hd.2.2, ?_⟩) fun c hc => (digit hc.1 hc.2.1 (small8000 (by have := hc.2.2; omega))).bind fun z hz => Ok.ret ⟨hz.2.2, hz.1, by have := hz.2.1; have := hc.2.2; show z.1 < 38; omega⟩) fun z hz => Ok.ret hz)) fun b hb => Ok.ltI ?_
  · have hz : z ∈ [(4 : Int), 38] := hz
    simp only [List.mem_cons, List.not_mem_nil, or_false] at hz
    show 0 < z ∧ z ≤ 38
    omega
  obtain ⟨hp, c0, c1⟩ := hb
  generalize b.2.2.2 = l2 at *
  generalize b.2.2.1 = c at *
  generalize hM : min ((w + 1) * (h + 1)) (3 + c) = M
  have M3 : 3 ≤ M := by omega
  have M40 : M ≤ 40 := by omega
  have MN : M ≤ (w + 1) * (h + 1) := by omega
  refine Ok.okB (Ok.ltI (Ok.bF (Pn := fun (s : List Int × List Pr) => Pot s.1 ∧ s.2.Nodup ∧ (∀ p ∈ s.2, (0 ≤ p.1 ∧ p.1 ≤ w) ∧ 0 ≤ p.2 ∧ p.2 ≤ h) ∧ (s.2.length : Int) = M) ?_ fun s hs => Ok.rt ⟨⟨hs.2.1, by have := hs.2.2.2; show s.2.length ≤ 40; omega, by have := hs.2.2.2; show 3 ≤ s.2.length; omega, fun p hp => by have := hs.2.2.1 p hp; omega⟩, hs.1⟩))
  refine Ok.whR (fun (s : List Int × List Pr) => Pot s.1 ∧ s.2.Nodup ∧ (∀ p ∈ s.2, (0 ≤ p.1 ∧ p.1 ≤ w) ∧ 0 ≤ p.2 ∧ p.2 ≤ h) ∧ (s.2.length : Int) ≤ M) (fun s => (M - (s.2.length : Int)).toNat) ⟨hp, List.nodup_nil, (fun p hp => nomatch hp), by show ((0 : Nat) : Int) ≤ M; omega⟩ ?_
  rintro ⟨pt, F⟩ ⟨i1, i2, i3, i4⟩
  refine ⟨_, rfl, fun hb => ?_, fun hb => ⟨i1, i2, i3, ?_⟩⟩
  · have lt : (F.length : Int) < M := of_decide_eq_true hb
    obtain ⟨a, a0, a1, free⟩ := free_at (w := w) (m := h + 1) (by omega) (F := F) (by omega)
    refine Ok.bind (P := fun (b : (Int × List Int) × (Int × List Int)) => Pot b.2.2 ∧ (0 ≤ b.1.1 ∧ b.1.1 ≤ w) ∧ 0 ≤ b.2.1 ∧ b.2.1 ≤ h) ((digit i1 (by omega) (small8000 (by omega))).bind fun x hx => (digit hx.2.2 (by omega) (small8000 (by omega))).bind fun z hz => Ok.ret ⟨hz.2.2, ⟨hx.1, by have := hx.2.1; show x.1 ≤ w; omega⟩, hz.1, by have := hz.2.1; show z.1 ≤ h; omega⟩) fun b hb => Ok.ltI ?_
    obtain ⟨k1, k2, k3⟩ := hb
    refine Ok.bF (Pn := fun (s : Pr) => ((0 ≤ s.1 ∧ s.1 ≤ w) ∧ 0 ≤ s.2 ∧ s.2 ≤ h) ∧ s ∉ F) ?_ fun s hs => Ok.bind1 (a := ()) (by rw [bind_okN, guard_ok (sizeB (by omega)), bind_okN]) (Ok.nx ⟨⟨k1, ?_, ?_, ?_⟩, ?_⟩)
    · refine Ok.whR (fun (s : Pr) => (0 ≤ s.1 ∧ s.1 ≤ w) ∧ 0 ≤ s.2 ∧ s.2 ≤ h) (fun s => (if s.1 * (h + 1) + s.2 ≤ a then a - (s.1 * (h + 1) + s.2) else a - (s.1 * (h + 1) + s.2) + (w + 1) * (h + 1)).toNat) ⟨k2, k3⟩ ?_
      rintro ⟨x, y⟩ ⟨⟨x0, x1⟩, y0, y1⟩
      refine ⟨_, rfl, fun hb => ?_, fun hb => ⟨⟨⟨x0, x1⟩, y0, y1⟩, fun m => ?_⟩⟩
      · have hin : (x, y) ∈ F := hasL_iff.mp hb
        have x0 : 0 ≤ x := x0
        have x1 : x ≤ w := x1
        have y0 : 0 ≤ y := y0
        have y1 : y ≤ h := y1
        have hxm : x * (h + 1) ≤ w * (h + 1) := Int.mul_le_mul_of_nonneg_right x1 (by omega)
        have hx0 : 0 ≤ x * (h + 1) := Int.mul_nonneg x0 (by omega)
        have ew : (w + 1) * (h + 1) = w * (h + 1) + (h + 1) := by rw [Int.add_mul, Int.one_mul]
        have g1 : CMulX x (h + 1) := mulx 20 (by omega) (by omega)
        have na : x * (h + 1) + y ≠ a := fun z => by
          obtain ⟨q1, q2⟩ := spot_of (m := h + 1) (x := x) (y := y) (by omega) y0 (by omega)
          rw [z] at q1 q2
          rw [q1, q2] at free
          exact free hin
        generalize hX : x * (h + 1) = X at *
        generalize hNN : (w + 1) * (h + 1) = N at *
        have ef : Int.fmod (X + y + 1) N = (X + y + 1) % N := Int.fmod_eq_emod_of_nonneg _ (by omega)
        have a2 : 0 ≤ (X + y + 1) % N ∧ (X + y + 1) % N < N := ⟨Int.emod_nonneg _ (by omega), Int.emod_lt_of_pos _ (by omega)⟩
        have a3 : (X + y + 1) % N = if X + y + 1 < N then X + y + 1 else 0 := by
          split
          · exact Int.emod_eq_of_lt (by omega) (by assumption)
          · have : X + y + 1 = N := by omega
            rw [this, Int.emod_self]
        refine Ok.bind1 (a := ((), (), ())) (by
          show op2 (R.guard (CMulX x (h + 1))) _ _ = _
          rw [guard_ok g1, op2_ok, guard_ok gN, bind_okN, guard_ok (show N ≠ 0 by omega), bind_okN]) (Ok.ltI (Ok.bind1 (a := ((), ())) ?_ (Ok.ltI (Ok.nx ⟨?_, ?_⟩))))
        · rw [guard_ok (div_ok (by omega) (by have := pw 20 8000 (by decide) (show (h + 1).natAbs < 2 ^ 20 by omega); exact this)), bind_okN, guard_ok (show h + 1 ≠ 0 by omega), bind_okN]
        · show (0 ≤ Int.fdiv (Int.fmod (X + y + 1) (N)) (h + 1) ∧ Int.fdiv (Int.fmod (X + y + 1) (N)) (h + 1) ≤ w) ∧ 0 ≤ Int.fmod (Int.fmod (X + y + 1) (N)) (h + 1) ∧ Int.fmod (Int.fmod (X + y + 1) (N)) (h + 1) ≤ h
          rw [ef, Int.fdiv_eq_ediv_of_nonneg _ (by omega), Int.fmod_eq_emod_of_nonneg _ (show 0 ≤ h + 1 by omega)]
          have q := spot_at (w := w) (m := h + 1) (by omega) a2.1 (by rw [hNN]; exact a2.2)
          exact ⟨q.1, q.2.1.1, by have := q.2.1.2; omega⟩
        · show (if Int.fdiv (Int.fmod (X + y + 1) (N)) (h + 1) * (h + 1) + Int.fmod (Int.fmod (X + y + 1) (N)) (h + 1) ≤ a then a - (Int.fdiv (Int.fmod (X + y + 1) (N)) (h + 1) * (h + 1) + Int.fmod (Int.fmod (X + y + 1) (N)) (h + 1)) else a - (Int.fdiv (Int.fmod (X + y + 1) (N)) (h + 1) * (h + 1) + Int.fmod (Int.fmod (X + y + 1) (N)) (h + 1)) + N).toNat < (if X + y ≤ a then a - (X + y) else a - (X + y) + N).toNat
          rw [ef, Int.fdiv_eq_ediv_of_nonneg _ (by omega), Int.fmod_eq_emod_of_nonneg _ (show 0 ≤ h + 1 by omega)]
          have q := (spot_at (w := w) (m := h + 1) (by omega) a2.1 (by rw [hNN]; exact a2.2)).2.2
          rw [q, a3]
          repeat' split
          all_goals omega
      · rw [hasL_iff.mpr m] at hb
        exact nomatch hb
    · exact List.nodup_append.mpr ⟨i2, List.nodup_cons.mpr ⟨List.not_mem_nil, List.nodup_nil⟩, fun x hx y hy z => hs.2 (by rw [← List.mem_singleton.mp hy, ← z]; exact hx)⟩
    · intro p hp
      rcases List.mem_append.mp hp with hp | hp
      · exact i3 p hp
      · rw [List.mem_singleton.mp hp]
        exact hs.1
    · show ((F ++ [s]).length : Int) ≤ M
      rw [List.length_append]
      show ((F.length + 1 : Nat) : Int) ≤ M
      omega
    · show (M - ((F ++ [s]).length : Int)).toNat < (M - (F.length : Int)).toNat
      rw [List.length_append]
      show (M - ((F.length + 1 : Nat) : Int)).toNat < _
      omega
  · have this : ¬ ((F.length : Int) < M) := of_decide_eq_false hb
    have i4 : (F.length : Int) ≤ M := i4
    show (F.length : Int) = M
    omega
theorem law_is_told_ok (P : List Pr) : m_law_is_told (P, P) = .ok true := by
  refine Ok.eq ?_
  unfold m_law_is_told mb_law_is_told
  refine Ok.f0 (Ok.bF (Pn := fun _ => True) (Ok.iteF ?_ (Ok.nx trivial)) fun _ _ => Ok.bF (Pn := fun _ => True) (Ok.forC (fun _ => True) trivial ?_) fun _ _ => Ok.rt rfl)
  · show (!true || !decide (P = P)) = false
    simp
  · rintro ⟨x, y⟩ _ _ _
    refine Ok.bF (Pn := fun _ => True) (Ok.bind1 (a := false) ?_ (Ok.iteF rfl (Ok.nx trivial))) fun _ _ => Ok.bF (Pn := fun _ => True) (Ok.bind1 (a := ()) ?_ (Ok.iteF rfl (Ok.nx trivial))) fun _ _ => Ok.nx trivial
    · rw [or2_ok, if_neg (by show ¬ (!true) = true; decide), bind_okN, guard_ok (Nat.le_of_lt (sizeB (show [x, y].length ≤ 100000 by simp))), bind_okN, bind_okN]
      rfl
    · rw [bind_okN, guard_ok (Nat.le_of_lt (sizeB (show [x, y].length ≤ 100000 by simp))), bind_okN]
theorem law_true (ns : List Int) (hl : ns.length ≤ 63) : m_law ns = .ok true := by
  refine Ok.eq ?_
  show Ok (fin0 (mb_law ns)) _
  unfold mb_law
  refine Ok.f0 (Ok.bF (Pn := fun _ => True) (Ok.grdB (rng62 (by omega) (by omega)) (Ok.forC (fun _ => True) trivial ?_)) fun _ _ => Ok.rt rfl)
  rintro x hx _ _
  have x0 : 0 ≤ x := (mem_rng hx).1
  refine Ok.bind (P := fun (b : List Int × (List Pr × List Int)) => Sp b.2.1) ((pot ns x0).bind fun l p0 => (law_spots_ok p0).bind fun r hr => Ok.ret hr.1) fun b h => Ok.ltI ?_
  generalize b.2.1 = P at *
  refine Ok.bind1 (law_text_ok h) (Ok.ltI (Ok.bind1 (picture_ok h) (Ok.ltI (Ok.bF (Pn := fun _ => True) (Ok.bind1 (a := false) ?_ (Ok.iteF rfl (Ok.nx trivial))) fun _ _ => Ok.nx trivial))))
  rw [or2_ok, if_neg (by show ¬ (!true) = true; decide), or2_ok, if_neg (by simp), read_picture_ok h, bind_okN, law_is_told_ok, bind_okN, bind_okN]
  rfl
theorem factsL {P : Program} {w : World} {K : PySem.W.Frag} {h : Heap} {mg : Str → Option Value} {f : Addr} (X : K.In h) (G : h.Ns mainGlobals mg) (hfa : mg ("law" : Str) = some (.ref f)) (c : He.SaysD faL fnL K) :
    ∃ fd : FuncData, (∀ (s : Shared) (v : Value), BindsTo s fd ⟨[v], []⟩ [("_law_script", v)]) ∧ ∀ base : Heap, K.In base → base.Ns mainGlobals mg → FnG P w K mg base CX0 3 f fd ["_law_script"] (spM K i_law m_law l_law o_law) := by
  obtain ⟨d0, F0⟩ := c.def_ 0 (d := e_law_digit) rfl
  obtain ⟨d1, F1⟩ := c.def_ 1 (d := e_law_spots) rfl
  obtain ⟨d2, F2⟩ := c.def_ 2 (d := e_law_pot) rfl
  obtain ⟨d3, F3⟩ := c.def_ 3 (d := e_law_line) rfl
  obtain ⟨d4, F4⟩ := c.def_ 4 (d := e_law_text) rfl
  obtain ⟨d5, F5⟩ := c.def_ 5 (d := e_picture) rfl
  obtain ⟨d6, F6⟩ := c.def_ 6 (d := e_law_is_told) rfl
  obtain ⟨d7, F7⟩ := c.def_ 7 (d := e_spots_in) rfl
  obtain ⟨d8, F8⟩ := c.def_ 8 (d := e_read_picture) rfl
  obtain ⟨d9, F9⟩ := c.def_ 9 (d := e_law) rfl
  have e := hfa.symm.trans (He.glo_ok X G (c.fact 9 (f := .glo "law") rfl))
  cases e
  have b := FunD.bindsA (ps := ["_law_script"]) F9 fun _ _ _ _ _ _ us hl => match us, hl with | [_], _ => rfl
  let T : Top K mg := {
    law_digit := ⟨_, d0, F0, He.glo_ok X G (c.fact 0 (f := .glo "_law_digit") rfl), FunD.bindsN F0 fun _ _ _ _ _ _ us hl => match us, hl with | [_, _], _ => rfl⟩
    law_spots := ⟨_, d1, F1, He.glo_ok X G (c.fact 1 (f := .glo "_law_spots") rfl), FunD.bindsN F1 fun _ _ _ _ _ _ us hl => match us, hl with | [_], _ => rfl⟩
    law_pot := ⟨_, d2, F2, He.glo_ok X G (c.fact 2 (f := .glo "_law_pot") rfl), FunD.bindsN F2 fun _ _ _ _ _ _ us hl => match us, hl with | [_, _], _ => rfl⟩
    law_line := ⟨_, d3, F3, He.glo_ok X G (c.fact 3 (f := .glo "_law_line") rfl), FunD.bindsN F3 fun _ _ _ _ _ _ us hl => match us, hl with | [_, _, _], _ => rfl⟩
    law_text := ⟨_, d4, F4, He.glo_ok X G (c.fact 4 (f := .glo "_law_text") rfl), FunD.bindsN F4 fun _ _ _ _ _ _ us hl => match us, hl with | [_], _ => rfl⟩
    picture := ⟨_, d5, F5, He.glo_ok X G (c.fact 5 (f := .glo "picture") rfl), FunD.bindsN F5 fun _ _ _ _ _ _ us hl => match us, hl with | [_], _ => rfl⟩
    law_is_told := ⟨_, d6, F6, He.glo_ok X G (c.fact 6 (f := .glo "_law_is_told") rfl), FunD.bindsN F6 fun _ _ _ _ _ _ us hl => match us, hl with | [_, _], _ => rfl⟩
    spots_in := ⟨_, d7, F7, He.glo_ok X G (c.fact 7 (f := .glo "spots_in") rfl), FunD.bindsN F7 fun _ _ _ _ _ _ us hl => match us, hl with | [_], _ => rfl⟩
    read_picture := ⟨_, d8, F8, He.glo_ok X G (c.fact 8 (f := .glo "read_picture") rfl), FunD.bindsN F8 fun _ _ _ _ _ _ us hl => match us, hl with | [_], _ => rfl⟩
    law := ⟨_, d9, F9, He.glo_ok X G (c.fact 9 (f := .glo "law") rfl), FunD.bindsN F9 fun _ _ _ _ _ _ us hl => match us, hl with | [_], _ => rfl⟩
    z_abs := He.free_ok X G (c.fact 10 (f := .free "abs") rfl)
    z_bool := He.free_ok X G (c.fact 11 (f := .free "bool") rfl)
    z_divmod := He.free_ok X G (c.fact 12 (f := .free "divmod") rfl)
    z_enumerate := He.free_ok X G (c.fact 13 (f := .free "enumerate") rfl)
    z_int := He.free_ok X G (c.fact 14 (f := .free "int") rfl)
    z_isinstance := He.free_ok X G (c.fact 15 (f := .free "isinstance") rfl)
    z_len := He.free_ok X G (c.fact 16 (f := .free "len") rfl)
    z_max := He.free_ok X G (c.fact 17 (f := .free "max") rfl)
    z_min := He.free_ok X G (c.fact 18 (f := .free "min") rfl)
    z_range := He.free_ok X G (c.fact 19 (f := .free "range") rfl)
    z_str := He.free_ok X G (c.fact 20 (f := .free "str") rfl)
    z_tuple := He.free_ok X G (c.fact 21 (f := .free "tuple") rfl)
    g_LEAST := He.int_ok X G (c.fact 22 (f := .int "LEAST" 3) rfl)
    g_MOST_X := He.int_ok X G (c.fact 23 (f := .int "MOST_X" 76) rfl)
    g_MOST_Y := He.int_ok X G (c.fact 24 (f := .int "MOST_Y" 40) rfl)
    g_NONE_HERE := He.str_ok X G (c.fact 25 (f := .str "NONE_HERE" ".") rfl)
    g_SIGNS := He.str_ok X G (c.fact 26 (f := .str "SIGNS" "abcdefghijklmnopqrstuvwxyzABCDEFGHIJKLMN") rfl)
  }
  exact ⟨d9, fun s v => b s [v] rfl, fun base _ _ => ok_law T⟩
end W
open PySem PySem.W PySem.Calls PyProof.Rows
set_option maxHeartbeats 8000000 in
theorem PySem.Challenge.cw_restdraw_k91_pictures_there_and_back_holds : PySem.Challenge.rw_restdraw_k91_pictures_there_and_back.Holds := by
  w_on; o_law
  refine HandSHeadRun.head_any (r := W.Rw) (q := view W.Rw.prog [19]) (H := W.hkL) (ob := W.obL) (M := 6000) (loose := ["DrawError", "NoText", "SIGNS", "NONE_HERE", "LEAST", "MOST_X", "MOST_Y", "picture", "spots_in", "read_picture", "_law_pot", "_law_digit", "_law_spots", "_law_line", "_law_text", "_law_is_told"]) (d := HandSHeadRun.topDef W.Rw.prog 19) (kwd := []) W.ob_eqL
    (by kernel_rfl) (fun s => by kernel_rfl) W.runL (by kernel_rfl) (by kernel_rfl) (by kernel_rfl) (by rfl) (by first | assumption | decide +kernel) (by decide +kernel) ⟨rfl, rfl, rfl, rfl, rfl, by decide +kernel⟩ ?hw ?hc
  case hw => w_witness2
  case hc =>
    refine DL.walk_ofG (l := PySem.Challenge.rw_restdraw_k91_pictures_there_and_back) (n := 63) (k := 3) (x := "_law_script") (CX := L2.CX0) rfl (by decide) (by kernel_rfl) ⟨⟨rfl, by decide, by decide⟩, rfl⟩ ?F (fun _ _ _ _ z => z)
    intro w mg fa h Y G hmg0
    obtain ⟨K, KX, c⟩ := Y
    have hmg : mg ("law" : PySem.Str) = some (.ref fa) := by
      have e : (HandSHeadRun.topDef W.Rw.prog 19).name = ("law" : PySem.Str) := by kernel_rfl
      rw [← e]
      exact hmg0
    obtain ⟨fd, hb, hF⟩ := W.factsL (P := (PySem.Challenge.rw_restdraw_k91_pictures_there_and_back).prog) (w := w) KX G hmg c
    exact ⟨K, fd, _, KX, hb, fun H a ns hl _ hS => DL.law_sp hS (W.law_true ns hl), hF⟩
